import PyProof.Rows.All
import Wide.All
import OpenK.AllK
import Wide.FinOn
import HandS.ForMost
import HandS.IsInst
import HandS.Defaults
import HandS.CallLocal
import HandS.Style
import HandS.TupAny
import HandS.TupMul
import HandS.DictComp
import HandS.Deep
import HandS.Flow
import HandS.NoneIn
import HandS.ForExc
import HandS.Walk
import HandS.Star
import HandS.EndBits
import HandS.MakeKw
import HandS.Codes
import HandS.SortInts
import KE.GoesMore
import HandS.SlotsOwn
import PySem.Challenge.RW_leanrules_k05_books_keep_what_they_are_t
set_option Elab.async false
set_option linter.all false
set_option maxRecDepth 100000
/-! The pure layer: values as plain data, a def as a plain function of data and the pen. -/
namespace PL
open PySem L2
abbrev St := L2.St

/-- plain data -/
inductive D where
  | non | bl (b : Bool) | int (i : Int) | str (s : Str)
  | tup (xs : List D) | lst (xs : List D)
  | dic (ks : List Key) (xs : List D)
  | ins (c : Str) (ns : List Str) (xs : List D)
  | fn (f : Str)
  | pen

/-- the pen: its cells, how many were begun, what is left -/
structure Pn where
  cells : List Int
  turn : Int
  rest : Int

/-- an exception: its class, its fields -/
structure Exn where
  cls : Str
  ns : List Str
  xs : List D

inductive Slot where
  | un | v (d : D) | ol (xs : List D) | od (ks : List Key) (xs : List D) | oi (c : Str) (ns : List Str) (xs : List D)

abbrev En := List Slot

inductive Out (α : Type) where
  | ok (a : α) (ρ : En) (ps : Pn)
  | ex (e : Exn) (ρ : En) (ps : Pn)
  | stuck

abbrev EM (α : Type) := En → Pn → Out α

inductive FOut where
  | ok (d : D) (ps : Pn)
  | ex (e : Exn) (ps : Pn)
  | stuck

abbrev FM := List D → Pn → FOut

inductive SOut where
  | nx (ρ : En) (ps : Pn)
  | rt (d : D) (ps : Pn)
  | bk (ρ : En) (ps : Pn)
  | ct (ρ : En) (ps : Pn)
  | ex (e : Exn) (ρ : En) (ps : Pn)
  | stuck

abbrev SM := En → Pn → SOut

/-- the pen's place, the place of its cells -/
abbrev Pa := Option (Addr × Addr)
def Pa.at (pa : Pa) : Option Addr := pa.map (·.1)

/-- where classes and defs stand -/
structure Tab where
  cls : Str → Addr
  fn : Str → Addr

/-! ### data over the heap -/
mutual
def Rep (T : Tab) (pa : Pa) (F : Hp) : D → V → Prop
  | .non, v => v = .non
  | .bl b, v => v = .bl b
  | .int i, v => v = .int i
  | .str s, v => v = .str s
  | .tup xs, v => ∃ a vs, v = .ref a ∧ F a = some (.tup vs) ∧ RepL T pa F xs vs
  | .lst xs, v => ∃ a vs, v = .ref a ∧ F a = some (.lst vs) ∧ RepL T pa F xs vs
  | .dic ks xs, v => ∃ a kvs, v = .ref a ∧ F a = some (.dK kvs) ∧ kvs.map (·.1) = ks ∧ RepL T pa F xs (kvs.map (·.2))
  | .ins c ns xs, v => ∃ a dx fs, v = .ref a ∧ F a = some (.ins (T.cls c) dx fs) ∧ F dx = some (.own a) ∧ fs.map (·.1) = ns ∧ RepL T pa F xs (fs.map (·.2))
  | .fn f, v => v = .ref (T.fn f)
  | .pen, v => ∃ a, pa.at = some a ∧ v = .ref a
def RepL (T : Tab) (pa : Pa) (F : Hp) : List D → List V → Prop
  | [], vs => vs = []
  | d :: ds, vs => ∃ v r, vs = v :: r ∧ Rep T pa F d v ∧ RepL T pa F ds r
end

def Sub (F H : Hp) : Prop := ∀ a o, F a = some o → H a = some o
theorem Sub.refl (F : Hp) : Sub F F := fun _ _ h => h
theorem Sub.trans {F G H : Hp} (a : Sub F G) (b : Sub G H) : Sub F H := fun c o h => b c o (a c o h)

mutual
theorem Rep.mono {T : Tab} {pa : Pa} {F F' : Hp} (s : Sub F F') : ∀ {d : D} {v : V}, Rep T pa F d v → Rep T pa F' d v
  | .non, _, h => h
  | .bl _, _, h => h
  | .int _, _, h => h
  | .str _, _, h => h
  | .tup _, _, ⟨a, vs, e, f, r⟩ => ⟨a, vs, e, s _ _ f, RepL.mono s r⟩
  | .lst _, _, ⟨a, vs, e, f, r⟩ => ⟨a, vs, e, s _ _ f, RepL.mono s r⟩
  | .dic _ _, _, ⟨a, vs, e, f, k, r⟩ => ⟨a, vs, e, s _ _ f, k, RepL.mono s r⟩
  | .ins _ _ _, _, ⟨a, dx, fs, e, f, g, k, r⟩ => ⟨a, dx, fs, e, s _ _ f, s _ _ g, k, RepL.mono s r⟩
  | .fn _, _, h => h
  | .pen, _, h => h
theorem RepL.mono {T : Tab} {pa : Pa} {F F' : Hp} (s : Sub F F') : ∀ {ds : List D} {vs : List V}, RepL T pa F ds vs → RepL T pa F' ds vs
  | [], _, h => h
  | _ :: _, _, ⟨v, r, e, h, t⟩ => ⟨v, r, e, Rep.mono s h, RepL.mono s t⟩
end

section
variable {T : Tab} {pa : Pa} {F F' : Hp}
theorem RepL.nil : RepL T pa F [] [] := rfl
theorem RepL.cons {d : D} {v : V} {ds : List D} {vs : List V} (h : Rep T pa F d v) (t : RepL T pa F ds vs) : RepL T pa F (d :: ds) (v :: vs) := ⟨v, vs, rfl, h, t⟩
theorem RepL.length : ∀ {ds : List D} {vs : List V}, RepL T pa F ds vs → ds.length = vs.length
  | [], _, h => by cases h; rfl
  | _ :: _, _, ⟨_, _, e, _, t⟩ => by subst e; rw [List.length_cons, List.length_cons, RepL.length t]
theorem RepL.append : ∀ {ds es : List D} {vs ws : List V}, RepL T pa F ds vs → RepL T pa F es ws → RepL T pa F (ds ++ es) (vs ++ ws)
  | [], _, _, _, h, g => by cases h; exact g
  | _ :: _, _, _, _, ⟨v, r, e, h, t⟩, g => by subst e; exact ⟨v, _, rfl, h, RepL.append t g⟩
theorem RepL.one {d : D} {v : V} (h : Rep T pa F d v) : RepL T pa F [d] [v] := RepL.cons h RepL.nil
theorem RepL.get : ∀ {ds : List D} {vs : List V} {i : Nat} {d : D}, RepL T pa F ds vs → ds[i]? = some d → ∃ v, vs[i]? = some v ∧ Rep T pa F d v
  | [], _, _, _, _, e => by simp at e
  | _ :: _, _, 0, _, ⟨v, r, e, h, t⟩, q => by subst e; simp at q; subst q; exact ⟨v, rfl, h⟩
  | _ :: ds, _, i + 1, d, ⟨v, r, e, h, t⟩, q => by
    subst e
    obtain ⟨w, e1, e2⟩ := RepL.get (i := i) (d := d) t (by simpa using q)
    exact ⟨w, by simpa using e1, e2⟩
theorem RepL.get' : ∀ {ds : List D} {vs : List V} {i : Nat} {v : V}, RepL T pa F ds vs → vs[i]? = some v → ∃ d, ds[i]? = some d ∧ Rep T pa F d v
  | [], _, _, _, h, e => by cases h; simp at e
  | d :: _, _, 0, _, ⟨v, r, e, h, t⟩, q => by subst e; simp at q; subst q; exact ⟨d, rfl, h⟩
  | _ :: ds, _, i + 1, w, ⟨v, r, e, h, t⟩, q => by
    subst e
    obtain ⟨w, e1, e2⟩ := RepL.get' (i := i) (v := w) t (by simpa using q)
    exact ⟨w, by simpa using e1, e2⟩
theorem RepL.take : ∀ {ds : List D} {vs : List V} (n : Nat), RepL T pa F ds vs → RepL T pa F (ds.take n) (vs.take n)
  | [], _, n, h => by cases h; simp; exact RepL.nil
  | _ :: _, _, 0, _ => by simp; exact RepL.nil
  | _ :: _, _, n + 1, ⟨v, r, e, h, t⟩ => by subst e; exact ⟨v, _, rfl, h, RepL.take n t⟩
theorem RepL.drop : ∀ {ds : List D} {vs : List V} (n : Nat), RepL T pa F ds vs → RepL T pa F (ds.drop n) (vs.drop n)
  | [], _, n, h => by cases h; simp; exact RepL.nil
  | _ :: _, _, 0, h => h
  | _ :: _, _, n + 1, ⟨v, r, e, h, t⟩ => by subst e; exact RepL.drop n t
theorem RepL.reverse : ∀ {ds : List D} {vs : List V}, RepL T pa F ds vs → RepL T pa F ds.reverse vs.reverse
  | [], _, h => by cases h; exact RepL.nil
  | _ :: _, _, ⟨v, r, e, h, t⟩ => by subst e; rw [List.reverse_cons, List.reverse_cons]; exact RepL.append (RepL.reverse t) (RepL.one h)
theorem RepL.set {d : D} {v : V} (g : Rep T pa F d v) : ∀ {ds : List D} {vs : List V} (i : Nat), RepL T pa F ds vs → RepL T pa F (ds.set i d) (vs.set i v)
  | [], _, i, h => by cases h; exact RepL.nil
  | _ :: _, _, 0, ⟨w, r, e, h, t⟩ => by subst e; exact ⟨v, _, rfl, g, t⟩
  | _ :: _, _, i + 1, ⟨w, r, e, h, t⟩ => by subst e; exact ⟨w, _, rfl, h, RepL.set g i t⟩
theorem RepL.eraseIdx : ∀ {ds : List D} {vs : List V} (i : Nat), RepL T pa F ds vs → RepL T pa F (ds.eraseIdx i) (vs.eraseIdx i)
  | [], _, i, h => by cases h; exact RepL.nil
  | _ :: _, _, 0, ⟨w, r, e, h, t⟩ => by subst e; exact t
  | _ :: _, _, i + 1, ⟨w, r, e, h, t⟩ => by subst e; exact ⟨w, _, rfl, h, RepL.eraseIdx i t⟩
theorem RepL.dropLast {ds : List D} {vs : List V} (h : RepL T pa F ds vs) : RepL T pa F ds.dropLast vs.dropLast := by
  rw [List.dropLast_eq_take, List.dropLast_eq_take, h.length]; exact h.take _
theorem RepL.rep {ds : List D} {vs : List V} (h : RepL T pa F ds vs) : ∀ k : Nat, RepL T pa F (List.replicate k ds).flatten (List.replicate k vs).flatten
  | 0 => RepL.nil
  | k + 1 => by rw [List.replicate_succ, List.replicate_succ, List.flatten_cons, List.flatten_cons]; exact h.append (RepL.rep h k)
end

/-! ### the state -/
/-- fixed through one def's run: where classes stand, the pen's place, what was frozen and what must be kept since the entry -/
structure Ct where
  T : Tab
  pa : Pa
  F0 : Hp
  H0 : Hp
  sf : Option (Addr × Addr)

def PenR (pa : Pa) (F H : Hp) (ps : Pn) : Prop :=
  match pa with
  | none => True
  | some (p, ca) => H p = some (.lst [.ref ca, .int ps.turn, .int ps.rest]) ∧ F ca = some (.lst (ps.cells.map V.int)) ∧ F p = none

def isOwn : Slot → Bool
  | .ol _ => true
  | .od _ _ => true
  | .oi _ _ _ => true
  | _ => false

structure Own (c : Ct) (F : Hp) (p : Addr) : Prop where
  nf : F p = none
  n0 : c.H0 p = none
  np : c.pa.at ≠ some p

def SlotR (c : Ct) (F H : Hp) : Slot → Option V → Prop
  | .un, _ => True
  | .v d, o => ∃ v, o = some v ∧ Rep c.T c.pa F d v
  | .ol xs, o => ∃ p vs, o = some (.ref p) ∧ H p = some (.lst vs) ∧ RepL c.T c.pa F xs vs ∧ Own c F p
  | .od ks xs, o => ∃ p kvs, o = some (.ref p) ∧ H p = some (.dK kvs) ∧ (kvs.map (·.1) = ks ∧ RepL c.T c.pa F xs (kvs.map (·.2))) ∧ Own c F p
  | .oi cn ns xs, o => ∃ p dx fs, o = some (.ref p) ∧ H p = some (.ins (c.T.cls cn) dx fs) ∧ H dx = some (.own p) ∧ (fs.map (·.1) = ns ∧ c.sf = some (p, dx)) ∧ RepL c.T c.pa F xs (fs.map (·.2)) ∧ Own c F p

/-- the slot i owns the object at p -/
def Owns (ρ : En) (σ : St) (i : Nat) (p : Addr) : Prop := ∃ s, ρ[i]? = some s ∧ isOwn s = true ∧ σ[i]? = some (some (.ref p))

structure SR (c : Ct) (F H : Hp) (ρ : En) (ps : Pn) (σ : St) : Prop where
  sub : Sub F H
  keep : ∀ a o, c.H0 a = some o → c.pa.at ≠ some a → H a = some o
  grow : ∀ a, c.H0 a ≠ none → F a = c.F0 a
  base : Sub c.F0 F
  len : σ.length = ρ.length
  slot : ∀ (i : Nat) s, ρ[i]? = some s → ∃ o, σ[i]? = some o ∧ SlotR c F H s o
  sep : ∀ i j p, Owns ρ σ i p → Owns ρ σ j p → i = j
  pen : PenR c.pa F H ps

section
variable {c : Ct} {F F' H H' : Hp} {ρ : En} {ps : Pn} {σ : St}

theorem PenR.at (h : PenR c.pa F H ps) {p : Addr} (e : c.pa.at = some p) : ∃ ca, H p = some (.lst [.ref ca, .int ps.turn, .int ps.rest]) ∧ F ca = some (.lst (ps.cells.map V.int)) ∧ F p = none := by
  unfold PenR at h
  cases hp : c.pa with
  | none => rw [hp] at e; cases e
  | some q =>
    obtain ⟨q1, ca⟩ := q
    rw [hp] at e h
    cases e
    exact ⟨ca, h⟩

/-- a new address is nobody's -/
theorem SR.fresh (S : SR c F H ρ ps σ) {p : Addr} (n : H p = none) : Own c F p := by
  have np : c.pa.at ≠ some p := fun e => by
    obtain ⟨ca, e1, _⟩ := PenR.at S.pen e
    rw [n] at e1; cases e1
  refine ⟨?_, ?_, np⟩
  · cases e : F p with
    | none => rfl
    | some o => rw [S.sub p o e] at n; cases n
  · cases e : c.H0 p with
    | none => rfl
    | some o => rw [S.keep p o e np] at n; cases n

theorem SR.notOwned (S : SR c F H ρ ps σ) {p : Addr} (n : H p = none) (i : Nat) : ¬ Owns ρ σ i p := by
  rintro ⟨s, e1, e2, e3⟩
  obtain ⟨o, e4, r⟩ := S.slot i s e1
  rw [e3] at e4; cases e4
  cases s with
  | un => cases e2
  | v d => cases e2
  | ol xs =>
    obtain ⟨q, vs, e5, e6, _⟩ := r
    cases e5
    rw [n] at e6; cases e6
  | od ks xs =>
    obtain ⟨q, vs, e5, e6, _⟩ := r
    cases e5
    rw [n] at e6; cases e6
  | oi cn ns xs =>
    obtain ⟨q, dx, fs, e5, e6, _⟩ := r
    cases e5
    rw [n] at e6; cases e6

theorem SlotR.step (s : Sub F F') (k : ∀ a o, H a = some o → c.pa.at ≠ some a → H' a = some o) (kf : ∀ a, H a ≠ none → F' a = F a)
    (kx : ∀ a x, H a = some (.own x) → H' a = some (.own x)) {sl : Slot} {o : Option V} (h : SlotR c F H sl o) : SlotR c F' H' sl o := by
  cases sl with
  | un => trivial
  | v d => obtain ⟨v, e, r⟩ := h; exact ⟨v, e, r.mono s⟩
  | ol xs =>
    obtain ⟨p, vs, e, e1, r, w⟩ := h
    exact ⟨p, vs, e, k _ _ e1 w.np, r.mono s, ⟨by rw [kf p (by rw [e1]; simp)]; exact w.nf, w.n0, w.np⟩⟩
  | od ks xs =>
    obtain ⟨p, vs, e, e1, r, w⟩ := h
    exact ⟨p, vs, e, k _ _ e1 w.np, ⟨r.1, r.2.mono s⟩, ⟨by rw [kf p (by rw [e1]; simp)]; exact w.nf, w.n0, w.np⟩⟩
  | oi cn ns xs =>
    obtain ⟨p, dx, fs, e, e1, e2, e3, r, w⟩ := h
    exact ⟨p, dx, fs, e, k _ _ e1 w.np, kx _ _ e2, e3, r.mono s, ⟨by rw [kf p (by rw [e1]; simp)]; exact w.nf, w.n0, w.np⟩⟩

/-- behind a call: only the pen changed, frozen things came beside -/
theorem SR.step {ps' : Pn} (S : SR c F H ρ ps σ) (s : Sub F F') (s' : Sub F' H') (k : ∀ a o, H a = some o → c.pa.at ≠ some a → H' a = some o) (kf : ∀ a, H a ≠ none → F' a = F a)
    (pen : PenR c.pa F' H' ps') : SR c F' H' ρ ps' σ := by
  have kx : ∀ a x, H a = some (.own x) → H' a = some (.own x) := fun a x e => k a _ e fun z => by
    obtain ⟨ca, e1, _⟩ := PenR.at S.pen z
    rw [e] at e1; cases e1
  refine ⟨s', fun a o e n => k a o (S.keep a o e n) n, fun a n => ?_, S.base.trans s, S.len, fun i sl e => ?_, S.sep, pen⟩
  · rw [kf a ?_]
    · exact S.grow a n
    · by_cases z : c.pa.at = some a
      · obtain ⟨ca, e1, _⟩ := PenR.at S.pen z
        rw [e1]; simp
      · cases e : c.H0 a with
        | none => exact absurd e n
        | some o => rw [S.keep a o e z]; simp
  · obtain ⟨o, e1, r⟩ := S.slot i sl e
    exact ⟨o, e1, r.step s k kf kx⟩

/-- something new comes beside -/
theorem SR.alloc {p : Addr} {o : HO} (S : SR c F H ρ ps σ) (n : H p = none) : SR c F (upd H p o) ρ ps σ := by
  have w := S.fresh n
  have k : ∀ a u, H a = some u → upd H p o a = some u := fun a u e => by rw [upd_ne (ne_of_none e n)]; exact e
  refine S.step (Sub.refl F) (fun a u e => k a u (S.sub a u e)) (fun a u e _ => k a u e) (fun _ _ => rfl) ?_
  have h := S.pen
  unfold PenR at h ⊢
  cases hp : c.pa with
  | none => trivial
  | some q =>
    obtain ⟨q, ca⟩ := q
    rw [hp] at h
    obtain ⟨e1, e2, e3⟩ := h
    exact ⟨k _ _ e1, e2, e3⟩

/-- what nobody owns is frozen -/
theorem SR.freeze {p : Addr} {o : HO} (S : SR c F H ρ ps σ) (e : H p = some o) (w : Own c F p) (no : ∀ i, ¬ Owns ρ σ i p) : SR c (upd F p o) H ρ ps σ := by
  have s : Sub F (upd F p o) := fun a u q => by
    rw [upd_ne (fun z => by rw [z, w.nf] at q; cases q)]; exact q
  refine ⟨fun a u q => ?_, S.keep, fun a n => ?_, S.base.trans s, S.len, fun i sl q => ?_, S.sep, ?_⟩
  · by_cases z : a = p
    · subst z; rw [upd_same] at q; cases q; exact e
    · rw [upd_ne z] at q; exact S.sub a u q
  · rw [upd_ne (fun z => by rw [z, w.n0] at n; exact n rfl)]; exact S.grow a n
  · obtain ⟨ov, e1, r⟩ := S.slot i sl q
    refine ⟨ov, e1, ?_⟩
    cases sl with
    | un => trivial
    | v d => obtain ⟨v, e2, r⟩ := r; exact ⟨v, e2, r.mono s⟩
    | ol xs =>
      obtain ⟨p', vs, e2, e3, r, w'⟩ := r
      have ne : p' ≠ p := fun z => no i ⟨_, q, rfl, by rw [e1, e2, z]⟩
      exact ⟨p', vs, e2, e3, r.mono s, ⟨by rw [upd_ne ne]; exact w'.nf, w'.n0, w'.np⟩⟩
    | od ks xs =>
      obtain ⟨p', vs, e2, e3, r, w'⟩ := r
      have ne : p' ≠ p := fun z => no i ⟨_, q, rfl, by rw [e1, e2, z]⟩
      exact ⟨p', vs, e2, e3, ⟨r.1, r.2.mono s⟩, ⟨by rw [upd_ne ne]; exact w'.nf, w'.n0, w'.np⟩⟩
    | oi cn ns xs =>
      obtain ⟨p', dx, fs, e2, e3, e4, e5, r, w'⟩ := r
      have ne : p' ≠ p := fun z => no i ⟨_, q, rfl, by rw [e1, e2, z]⟩
      exact ⟨p', dx, fs, e2, e3, e4, e5, r.mono s, ⟨by rw [upd_ne ne]; exact w'.nf, w'.n0, w'.np⟩⟩
  · have h := S.pen
    unfold PenR at h ⊢
    cases hp : c.pa with
    | none => trivial
    | some q =>
      obtain ⟨q, ca⟩ := q
      rw [hp] at h
      obtain ⟨e1, e2, e3⟩ := h
      exact ⟨e1, s _ _ e2, by rw [upd_ne (fun z => w.np (by rw [hp, ← z]; rfl))]; exact e3⟩
theorem sub_upd {p : Addr} {o : HO} (w : F p = none) : Sub F (upd F p o) := fun a u q => by
  rw [upd_ne (fun z => by rw [z, w] at q; cases q)]; exact q
end
end PL

namespace PL
open PySem L2

/-! ### what is wanted behind an expression -/
abbrev RG (α β : Type) := Hp → Hp → En → St → α → β → Prop

def RepX (c : Ct) (F H : Hp) (e : Exn) (cl : Value) (dd : Option Addr) : Prop :=
  cl = .ref (c.T.cls e.cls) ∧ ∃ d fs, dd = some d ∧ H d = some (.xd fs) ∧ fs.map (·.1) = e.ns ∧ RepL c.T c.pa F e.xs (fs.map (·.2))

def post {α β : Type} (c : Ct) (E : XK) (R : RG α β) (Q : β → Hp → Prop) (σ : St) (F : Hp) (o : Out α) : Prop :=
  match o with
  | .ok a ρ ps => ∀ b F' H', Sub F F' → SR c F' H' ρ ps σ → R F' H' ρ σ a b → Q b H'
  | .ex e ρ ps => ∀ cl dd F' H', Sub F F' → SR c F' H' ρ ps σ → RepX c F' H' e cl dd → E cl dd H'
  | .stuck => False

def pG {α β : Type} (c : Ct) (E : XK) (R : RG α β) (m : EM α) : St → Hp → (β → Hp → Prop) → Prop := fun σ H Q => ∃ F ρ ps, SR c F H ρ ps σ ∧ post c E R Q σ F (m ρ ps)

def RD (c : Ct) : RG D V := fun F _ _ _ d v => Rep c.T c.pa F d v
def RB : RG Bool Bool := fun _ _ _ _ a b => a = b
def RL (c : Ct) : RG (List D) (List V) := fun F _ _ _ ds vs => RepL c.T c.pa F ds vs
/-- a fresh list, nobody's -/
def RF (c : Ct) : RG (List D) V := fun F H ρ σ ds v => ∃ p vs, v = .ref p ∧ H p = some (.lst vs) ∧ RepL c.T c.pa F ds vs ∧ Own c F p ∧ ∀ i, ¬ Owns ρ σ i p
def RO : RG (Option Int) (Option Int) := fun _ _ _ _ a b => a = b

abbrev pT (c : Ct) (E : XK) (m : EM D) : TE := pG c E (RD c) m
abbrev pTT (c : Ct) (E : XK) (m : EM Bool) : TT := pG c E RB m
abbrev pTA (c : Ct) (E : XK) (m : EM (List D)) : TA := pG c E (RL c) m
abbrev pTF (c : Ct) (E : XK) (m : EM (List D)) : TE := pG c E (RF c) m
abbrev pTO (c : Ct) (E : XK) (m : EM (Option Int)) : TO := pG c E RO m

def bindE {α β : Type} (m : EM α) (k : α → EM β) : EM β := fun ρ ps => match m ρ ps with
  | .ok a ρ' ps' => k a ρ' ps'
  | .ex e ρ' ps' => .ex e ρ' ps'
  | .stuck => .stuck
def pureE {α : Type} (a : α) : EM α := fun ρ ps => .ok a ρ ps
def stuckE {α : Type} : EM α := fun _ _ => .stuck
def liftO {α : Type} (o : Option α) : EM α := match o with
  | some a => pureE a
  | none => stuckE

section
variable {α β γ δ : Type} {c : Ct} {E : XK} {R : RG α β} {R' : RG γ δ} {Q : β → Hp → Prop} {Q' : δ → Hp → Prop} {σ : St} {F F' H : Hp} {ρ : En} {ps : Pn}
theorem post.mono {o : Out α} (s : Sub F F') (h : post c E R Q σ F o) : post c E R Q σ F' o := by
  cases o with
  | ok a ρ ps => exact fun b F2 H2 s2 => h b F2 H2 (s.trans s2)
  | ex e ρ ps => exact fun cl dd F2 H2 s2 => h cl dd F2 H2 (s.trans s2)
  | stuck => exact h
theorem post_bind {m : EM γ} {k : γ → EM α} (S : SR c F H ρ ps σ) (h : post c E R Q σ F (bindE m k ρ ps))
    (go : ∀ a b F1 ρ1 ps1 H1, Sub F F1 → SR c F1 H1 ρ1 ps1 σ → R' F1 H1 ρ1 σ a b → post c E R Q σ F1 (k a ρ1 ps1) → Q' b H1) : pG c E R' m σ H Q' := by
  refine ⟨F, ρ, ps, S, ?_⟩
  unfold bindE at h
  cases e : m ρ ps with
  | ok a ρ1 ps1 =>
    rw [e] at h
    exact fun b F1 H1 s S1 r => go a b F1 ρ1 ps1 H1 s S1 r (h.mono s)
  | ex x ρ1 ps1 => rw [e] at h; exact h
  | stuck => rw [e] at h; exact h
theorem post_ok {a : α} {b : β} (S : SR c F H ρ ps σ) (h : post c E R Q σ F (pureE a ρ ps)) (r : R F H ρ σ a b) : Q b H := h b F H (Sub.refl F) S r
theorem post_some {o : Option α} (h : post c E R Q σ F (liftO o ρ ps)) : ∃ a, o = some a ∧ post c E R Q σ F (pureE a ρ ps) := by
  cases o with
  | none => exact h.elim
  | some a => exact ⟨a, rfl, h⟩
end

section
variable {X : Cx} {e : Expr} {st : Stmt} {sts : List Stmt}
theorem _root_.L2.PE.imp {t t' : TE} (h : PE X e t) (w : ∀ σ H Q, t' σ H Q → t σ H Q) : PE X e t' := ⟨fun pins s σ H Q I q => h.run pins s σ H Q I (w σ H Q q)⟩
theorem _root_.L2.PT.imp {t t' : TT} (h : PT X e t) (w : ∀ σ H Q, t' σ H Q → t σ H Q) : PT X e t' := ⟨fun pins s σ H Q I q => h.run pins s σ H Q I (w σ H Q q)⟩
theorem _root_.L2.PW.imp {t t' : TT} (h : PW X e t) (w : ∀ σ H Q, t' σ H Q → t σ H Q) : PW X e t' := ⟨fun wh pins s σ H Q I q => h.run wh pins s σ H Q I (w σ H Q q)⟩
theorem _root_.L2.PA.imp {es : List Expr} {t t' : TA} (h : PA X es t) (w : ∀ σ H Q, t' σ H Q → t σ H Q) : PA X es t' := ⟨fun pos pins s σ H Q I q => h.run pos pins s σ H Q I (w σ H Q q)⟩
theorem _root_.L2.PS.imp {t t' : TS} (h : PS X st t) (w : ∀ D σ H, t' D σ H → t D σ H) : PS X st t' := ⟨fun pins s σ H D I q => h.run pins s σ H D I (w D σ H q)⟩
theorem _root_.L2.PSs.imp {t t' : TS} (h : PSs X sts t) (w : ∀ D σ H, t' D σ H → t D σ H) : PSs X sts t' := ⟨fun pins s σ H D I q => h.run pins s σ H D I (w D σ H q)⟩
theorem _root_.L2.PO.imp {e : Option Expr} {t t' : TO} (h : PO X e t) (w : ∀ σ H Q, t' σ H Q → t σ H Q) : PO X e t' := ⟨fun pins s σ H Q I q => h.run pins s σ H Q I (w σ H Q q)⟩
theorem _root_.L2.PTs.imp {es : List Expr} {t t' : TT} (h : PTs X es t) (w : ∀ σ H Q, t' σ H Q → t σ H Q) : PTs X es t' := ⟨fun pins s σ H Q I q => h.run pins s σ H Q I (w σ H Q q)⟩
end

/-! ### names, constants -/
def eC (d : D) : EM D := pureE d
def eVar (i : Nat) : EM D := fun ρ ps => match ρ[i]? with
  | some (.v d) => .ok d ρ ps
  | _ => .stuck

/-- a thing without a place in the heap -/
def flat : D → Bool
  | .non => true | .bl _ => true | .int _ => true | .str _ => true | .fn _ => true | _ => false
def vOf (T : Tab) : D → V
  | .bl b => .bl b | .int i => .int i | .str s => .str s | .fn f => .ref (T.fn f) | _ => .non
theorem rep_flat {T : Tab} {pa : Pa} {F : Hp} {d : D} {v : V} (f : flat d = true) : Rep T pa F d v ↔ v = vOf T d := by
  cases d <;> first | exact Iff.rfl | cases f

section
variable {X : Cx} {c : Ct} {E : XK}
theorem g_const {e : Expr} {d : D} {v : V} (h : PE X e (tC v)) (f : flat d = true) (ev : v = vOf c.T d) : PE X e (pT c E (eC d)) :=
  h.imp fun σ H Q ⟨F, ρ, ps, S, h⟩ => post_ok (b := v) S h ((rep_flat f).mpr ev)
theorem g_int {i : Int} {j pos} : PE X (.Constant (.int i) j pos) (pT c E (eC (.int i))) := g_const pe_int rfl rfl
theorem g_bl {b : Bool} {j pos} : PE X (.Constant (.bool b) j pos) (pT c E (eC (.bl b))) := g_const pe_bl rfl rfl
theorem g_non {j pos} : PE X (.Constant .none j pos) (pT c E (eC .non)) := g_const pe_non rfl rfl
theorem g_str {x : Str} {j pos} : PE X (.Constant (.str x) j pos) (pT c E (eC (.str x))) := g_const pe_str rfl rfl
theorem g_var (i : Nat) {x : Str} {pos : Pos} (hN : X.N[i]? = some x := by rfl) (hv : Vis X.env.scope x := by first | exact Or.inl rfl | exact Or.inr (Or.inl rfl) | exact Or.inr (Or.inr rfl)) (hd : (x == ("__debug__" : Str)) = false := by decide)
    (hcd : (x == ("__classdict__" : Str)) = false := by decide) : PE X (.Name x pos) (pT c E (eVar i)) :=
  (pe_var hN hv hd hcd).imp fun σ H Q ⟨F, ρ, ps, S, h⟩ => by
    unfold eVar at h
    cases e : ρ[i]? with
    | none => rw [e] at h; exact h.elim
    | some sl =>
      rw [e] at h
      cases sl with
      | v d =>
        obtain ⟨o, e1, v, e2, r⟩ := S.slot i _ e
        subst e2
        exact ⟨v, e1, h v F H (Sub.refl F) S r⟩
      | un => exact h.elim
      | ol xs => exact h.elim
      | od ks xs => exact h.elim
      | oi cn ns xs => exact h.elim
/-- a module's constant -/
theorem g_glob {x : Str} {d : D} {u : Value} {pos : Pos} (hg : Gl X x) (hm : X.mg x = some u) (f : flat d = true) (r : RelV (vOf c.T d) u) (hd : (x == ("__debug__" : Str)) = false := by decide) : PE X (.Name x pos) (pT c E (eC d)) :=
  g_const (pe_glob hg hm r hd) f rfl

/-! ### operators -/
/-- what a partial function of data gives -/
def OkD (c : Ct) (σ : St) (F : Hp) (ρ : En) (ps : Pn) (o : Option D) (Q : VK) : Prop := ∃ d, o = some d ∧ ∀ v F' H', Sub F F' → SR c F' H' ρ ps σ → Rep c.T c.pa F' d v → Q v H'
theorem okd_of {σ : St} {F : Hp} {ρ : En} {ps : Pn} {o : Option D} {Q : VK} (h : post c E (RD c) Q σ F (liftO o ρ ps)) : OkD c σ F ρ ps o Q := by
  obtain ⟨d, e, q⟩ := post_some h
  exact ⟨d, e, q⟩
theorem OkD.flat {σ : St} {F H : Hp} {ρ : En} {ps : Pn} {d : D} {Q : VK} (h : OkD c σ F ρ ps (some d) Q) (S : SR c F H ρ ps σ) (f : flat d = true) : Q (vOf c.T d) H := by
  obtain ⟨d', e, q⟩ := h
  cases e
  exact q _ F H (Sub.refl F) S ((rep_flat f).mpr rfl)
theorem OkD.rep {σ : St} {F H : Hp} {ρ : En} {ps : Pn} {d : D} {v : V} {Q : VK} (h : OkD c σ F ρ ps (some d) Q) (S : SR c F H ρ ps σ) (r : Rep c.T c.pa F d v) : Q v H := by
  obtain ⟨d', e, q⟩ := h
  cases e
  exact q _ F H (Sub.refl F) S r
/-- a new object, frozen at once -/
theorem SR.new {F H : Hp} {ρ : En} {ps : Pn} {σ : St} {p : Addr} {o : HO} (S : SR c F H ρ ps σ) (n : H p = none) : Sub F (upd F p o) ∧ SR c (upd F p o) (upd H p o) ρ ps σ := by
  have w := S.fresh n
  refine ⟨sub_upd w.nf, (S.alloc n).freeze upd_same w fun i z => S.notOwned n i z⟩
theorem OkD.tup {σ : St} {F H : Hp} {ρ : En} {ps : Pn} {ds : List D} {vs : List V} {p : Addr} {Q : VK} (h : OkD c σ F ρ ps (some (.tup ds)) Q) (S : SR c F H ρ ps σ) (r : RepL c.T c.pa F ds vs) (n : H p = none) : Q (.ref p) (upd H p (.tup vs)) := by
  obtain ⟨d', e, q⟩ := h
  cases e
  obtain ⟨s, S'⟩ := S.new (o := .tup vs) n
  exact q _ _ _ s S' ⟨p, vs, rfl, upd_same, r.mono s⟩
theorem OkD.lst {σ : St} {F H : Hp} {ρ : En} {ps : Pn} {ds : List D} {vs : List V} {p : Addr} {Q : VK} (h : OkD c σ F ρ ps (some (.lst ds)) Q) (S : SR c F H ρ ps σ) (r : RepL c.T c.pa F ds vs) (n : H p = none) : Q (.ref p) (upd H p (.lst vs)) := by
  obtain ⟨d', e, q⟩ := h
  cases e
  obtain ⟨s, S'⟩ := S.new (o := .lst vs) n
  exact q _ _ _ s S' ⟨p, vs, rfl, upd_same, r.mono s⟩

/-- the values' rule r serves the data's function f -/
def OpD (c : Ct) (r : R2) (f : D → D → Option D) : Prop := ∀ F H ρ ps σ d1 d2 v1 v2 Q, SR c F H ρ ps σ → Rep c.T c.pa F d1 v1 → Rep c.T c.pa F d2 v2 → OkD c σ F ρ ps (f d1 d2) Q → r v1 v2 H Q
def UnD (c : Ct) (r : V → Hp → VK → Prop) (f : D → Option D) : Prop := ∀ F H ρ ps σ d1 v1 Q, SR c F H ρ ps σ → Rep c.T c.pa F d1 v1 → OkD c σ F ρ ps (f d1) Q → r v1 H Q
def CallD (c : Ct) (r : List V → Hp → VK → Prop) (f : List D → Option D) : Prop := ∀ F H ρ ps σ ds vs Q, SR c F H ρ ps σ → RepL c.T c.pa F ds vs → OkD c σ F ρ ps (f ds) Q → r vs H Q
theorem OpR.or {f : Value → Value → Sem Value} {r r' : R2} (h : OpR X f r) (h' : OpR X f r') : OpR X f (fun x y H Q => r x y H Q ∨ r' x y H Q) := by
  intro pins s σ H x y v u Q I rx ry q
  rcases q with q | q
  · exact h pins s σ H x y v u Q I rx ry q
  · exact h' pins s σ H x y v u Q I rx ry q

def eOp2 (f : D → D → Option D) (a b : EM D) : EM D := bindE a fun x => bindE b fun y => liftO (f x y)
def eOp1 (f : D → Option D) (a : EM D) : EM D := bindE a fun x => liftO (f x)
def eOpN (f : List D → Option D) (a : EM (List D)) : EM D := bindE a fun x => liftO (f x)
def eNil : EM (List D) := pureE []
def eCons (a : EM D) (b : EM (List D)) : EM (List D) := bindE a fun x => bindE b fun y => pureE (x :: y)

section
variable {a b e : Expr} {es : List Expr} {ma mb : EM D} {ml : EM (List D)} {pos : Pos} {r : R2} {f : D → D → Option D}
theorem tOp_of (hd : OpD c r f) {σ : St} {H : Hp} {Q : VK} (h : pT c E (eOp2 f ma mb) σ H Q) : tOp r (pT c E ma) (pT c E mb) σ H Q := by
  obtain ⟨F, ρ, ps, S, h⟩ := h
  refine post_bind S h fun d1 v1 F1 ρ1 ps1 H1 s1 S1 r1 h1 => ?_
  refine post_bind S1 h1 fun d2 v2 F2 ρ2 ps2 H2 s2 S2 r2 h2 => ?_
  exact hd F2 H2 ρ2 ps2 σ d1 d2 v1 v2 Q S2 (Rep.mono s2 r1) r2 (okd_of h2)
theorem g_op {op : Operator} (ho : OpR X (binaryOp op) r) (hd : OpD c r f) (ha : PE X a (pT c E ma)) (hb : PE X b (pT c E mb)) : PE X (.BinOp a op b pos) (pT c E (eOp2 f ma mb)) :=
  (pe_op ho ha hb).imp fun _ _ _ h => tOp_of hd h
theorem g_cmp {op : CmpOp} (ho : OpR X (compareOp op) r) (hd : OpD c r f) (ha : PE X a (pT c E ma)) (hb : PE X b (pT c E mb)) (hm : behindInMarks op b = false := by first | exact nobehind _ (by decide) (by decide) | rfl) : PE X (.Compare a [op] [b] pos) (pT c E (eOp2 f ma mb)) :=
  (pe_cmpR ho ha hb hm).imp fun _ _ _ h => tOp_of hd h
theorem g_un {op : UnaryOp} {r : V → Hp → VK → Prop} {f : D → Option D} (ho : UnR X (unaryOp op) r) (hd : UnD c r f) (ha : PE X a (pT c E ma)) : PE X (.UnaryOp op a pos) (pT c E (eOp1 f ma)) :=
  (pe_un ho ha).imp fun σ H Q ⟨F, ρ, ps, S, h⟩ => post_bind S h fun d1 v1 F1 ρ1 ps1 H1 s1 S1 r1 h1 => hd F1 H1 ρ1 ps1 σ d1 v1 Q S1 r1 (okd_of h1)
theorem g_nil : PA X [] (pTA c E eNil) := pa_nil.imp fun σ H Q ⟨F, ρ, ps, S, h⟩ => post_ok (b := []) S h RepL.nil
theorem g_cons (ha : PE X a (pT c E ma)) (hb : PA X es (pTA c E ml)) (hs : starEach (a :: es) X.env = (false, eval a X.env) :: starEach es X.env := by rfl) : PA X (a :: es) (pTA c E (eCons ma ml)) :=
  (pa_cons ha hb hs).imp fun σ H Q ⟨F, ρ, ps, S, h⟩ => post_bind S h fun d1 v1 F1 ρ1 ps1 H1 s1 S1 r1 h1 => post_bind S1 h1 fun d2 v2 F2 ρ2 ps2 H2 s2 S2 r2 h2 => post_ok (R := RL c) S2 h2 (RepL.cons (Rep.mono s2 r1) r2)
/-- a built-in of values -/
theorem g_bi {x : Str} {p : Pos} {id : String} {r : List V → Hp → VK → Prop} {f : List D → Option D} (hc : CallR X (.builtin id) r) (hd : CallD c r f) (hg : Gl X x) (hm : X.mg x = none) (hv : bootBuiltins x = some (.builtin id)) (ha : PA X (e :: es) (pTA c E ml)) (hn : x ≠ "__name__" := by decide) (hdb : (x == ("__debug__" : Str)) = false := by decide)
    (he : starEach (e :: es) X.env = (false, eval e X.env) :: starEach es X.env := by rfl) (hpl : (backTo pos (starEach es X.env)).any (·.1) = false := by rfl) : PE X (.Call (.Name x p) (e :: es) [] pos) (pT c E (eOpN f ml)) :=
  (pe_callB hc hg hm hv ha hn hdb he hpl).imp fun σ H Q ⟨F, ρ, ps, S, h⟩ => post_bind S h fun d1 v1 F1 ρ1 ps1 H1 s1 S1 r1 h1 => hd F1 H1 ρ1 ps1 σ d1 v1 Q S1 r1 (okd_of h1)
theorem g_biT {x : Str} {p : Pos} {id : String} {r : List V → Hp → VK → Prop} {f : List D → Option D} (hc : CallR X (.type id) r) (hd : CallD c r f) (hg : Gl X x) (hm : X.mg x = none) (hv : bootBuiltins x = some (.type id)) (ha : PA X (e :: es) (pTA c E ml)) (hn : x ≠ "__name__" := by decide) (hdb : (x == ("__debug__" : Str)) = false := by decide)
    (he : starEach (e :: es) X.env = (false, eval e X.env) :: starEach es X.env := by rfl) (hpl : (backTo pos (starEach es X.env)).any (·.1) = false := by rfl) : PE X (.Call (.Name x p) (e :: es) [] pos) (pT c E (eOpN f ml)) :=
  (pe_callTy hc hg hm hv ha hn hdb he hpl).imp fun σ H Q ⟨F, ρ, ps, S, h⟩ => post_bind S h fun d1 v1 F1 ρ1 ps1 H1 s1 S1 r1 h1 => hd F1 H1 ρ1 ps1 σ d1 v1 Q S1 r1 (okd_of h1)
end

/-! ### tests, and, or, not -/
def asB (d : D) : Option Bool := match d with
  | .bl b => some b
  | _ => none
def eB (m : EM D) : EM Bool := bindE m fun d => liftO (asB d)
def bAnd (a b : EM Bool) : EM Bool := bindE a fun x => if x = true then b else pureE false
def bOr (a b : EM Bool) : EM Bool := bindE a fun x => if x = true then pureE true else b
def bNot (a : EM Bool) : EM Bool := bindE a fun x => pureE (!x)
def eAnd (a b : EM D) : EM D := bindE (eB a) fun x => if x = true then b else pureE (.bl false)
def eOr (a b : EM D) : EM D := bindE (eB a) fun x => if x = true then pureE (.bl true) else b
def eNot (a : EM D) : EM D := bindE (eB a) fun x => pureE (.bl (!x))
def eIf (t : EM Bool) (a b : EM D) : EM D := bindE t fun x => if x = true then a else b
theorem bind_bind {α β γ : Type} (m : EM α) (k : α → EM β) (l : β → EM γ) : bindE (bindE m k) l = bindE m fun x => bindE (k x) l := by
  funext ρ ps
  unfold bindE
  cases m ρ ps <;> rfl
section
variable {a b e : Expr} {es : List Expr} {ma mb : EM D} {ta tb : EM Bool} {ml : EM (List D)} {pos : Pos}
theorem asB_some {d : D} {b : Bool} (h : asB d = some b) : d = .bl b := by
  cases d <;> first | (cases h; rfl) | cases h
/-- a value's test -/
theorem t_val (h : PE X e (pT c E ma)) (he : ∀ whole, isTrue e X.env whole = (do let v ← whole; standAt e.pos; holding [v] (truthy v)) := by intro _; rfl) : PT X e (pTT c E (eB ma)) :=
  (pt_val h he).imp fun σ H Q ⟨F, ρ, ps, S, h⟩ => post_bind S h fun d1 v1 F1 ρ1 ps1 H1 s1 S1 r1 h1 => by
    obtain ⟨k, ek, q⟩ := post_some h1
    have := asB_some ek; subst this
    exact ⟨k, r1, post_ok (R := RB) S1 q rfl⟩
theorem tB_of {σ : St} {H : Hp} {Q : Bool → Hp → Prop} (h : pTT c E (eB ma) σ H Q) : tB (pT c E ma) σ H Q := by
  obtain ⟨F, ρ, ps, S, h⟩ := h
  refine post_bind S h fun d1 v1 F1 ρ1 ps1 H1 s1 S1 r1 h1 => ?_
  obtain ⟨k, ek, q⟩ := post_some h1
  have := asB_some ek; subst this
  exact ⟨k, r1, post_ok (R := RB) S1 q rfl⟩
theorem t_cmp {op : CmpOp} {r : R2} {f : D → D → Option D} (ho : OpR X (compareOp op) r) (hd : OpD c r f) (ha : PE X a (pT c E ma)) (hb : PE X b (pT c E mb)) (hm : behindInMarks op b = false := by first | exact nobehind _ (by decide) (by decide) | rfl) : PT X (.Compare a [op] [b] pos) (pTT c E (eB (eOp2 f ma mb))) :=
  (pt_cmpR ho ha hb hm).imp fun σ H Q ⟨F, ρ, ps, S, h⟩ => by
    have h' : pTT c E (eB (eOp2 f ma mb)) σ H Q := ⟨F, ρ, ps, S, h⟩
    unfold eB eOp2 at h'
    rw [bind_bind] at h'
    obtain ⟨F, ρ, ps, S, h⟩ := h'
    refine post_bind S h fun d1 v1 F1 ρ1 ps1 H1 s1 S1 r1 h1 => ?_
    rw [bind_bind] at h1
    refine post_bind S1 h1 fun d2 v2 F2 ρ2 ps2 H2 s2 S2 r2 h2 => ?_
    refine hd F2 H2 ρ2 ps2 σ d1 d2 v1 v2 _ S2 (Rep.mono s2 r1) r2 ?_
    cases ef : f d1 d2 with
    | none => rw [ef] at h2; exact h2.elim
    | some d =>
      rw [ef] at h2
      refine ⟨d, rfl, fun v F3 H3 s3 S3 r3 => ?_⟩
      have h3 : post c E RB Q σ F2 (liftO (asB d) ρ2 ps2) := h2
      obtain ⟨k, ek, q⟩ := post_some h3
      have := asB_some ek; subst this
      exact ⟨k, r3, post_ok (R := RB) S3 (q.mono s3) rfl⟩
theorem w_and1 (ha : PT X a (pTT c E ta)) : PW X (.BoolOp .And [a] pos) (pTT c E ta) := pw_and1 ha
theorem w_or1 (ha : PT X a (pTT c E ta)) : PW X (.BoolOp .Or [a] pos) (pTT c E ta) := pw_or1 ha
theorem w_and (ha : PT X a (pTT c E ta)) (hb : PW X (.BoolOp .And (b :: es) pos) (pTT c E tb)) : PW X (.BoolOp .And (a :: b :: es) pos) (pTT c E (bAnd ta tb)) :=
  (pw_and ha hb).imp fun σ H Q ⟨F, ρ, ps, S, h⟩ => post_bind S h fun d1 v1 F1 ρ1 ps1 H1 s1 S1 r1 h1 => by
    cases r1
    cases d1 with
    | true => exact iteT ⟨F1, ρ1, ps1, S1, h1⟩
    | false => exact iteF (post_ok (R := RB) S1 h1 rfl)
theorem w_or (ha : PT X a (pTT c E ta)) (hb : PW X (.BoolOp .Or (b :: es) pos) (pTT c E tb)) : PW X (.BoolOp .Or (a :: b :: es) pos) (pTT c E (bOr ta tb)) :=
  (pw_or ha hb).imp fun σ H Q ⟨F, ρ, ps, S, h⟩ => post_bind S h fun d1 v1 F1 ρ1 ps1 H1 s1 S1 r1 h1 => by
    cases r1
    cases d1 with
    | false => exact iteF ⟨F1, ρ1, ps1, S1, h1⟩
    | true => exact iteT (post_ok (R := RB) S1 h1 rfl)
theorem t_not (ha : PT X a (pTT c E ta)) : PT X (.UnaryOp .Not a pos) (pTT c E (bNot ta)) :=
  (pt_not ha).imp fun σ H Q ⟨F, ρ, ps, S, h⟩ => post_bind S h fun d1 v1 F1 ρ1 ps1 H1 s1 S1 r1 h1 => by
    cases r1; exact post_ok (R := RB) S1 h1 rfl
theorem g_one {op} (h : PE X a (pT c E ma)) : PE X (.BoolOp op [a] pos) (pT c E ma) := pe_one h
theorem eB_split {α β : Type} {R : RG α β} {Q : β → Hp → Prop} {σ : St} {F H : Hp} {ρ : En} {ps : Pn} {k : Bool → EM α} {Q' : V → Hp → Prop} (S : SR c F H ρ ps σ) (h : post c E R Q σ F (bindE (eB ma) k ρ ps))
    (go : ∀ x F1 ρ1 ps1 H1, SR c F1 H1 ρ1 ps1 σ → post c E R Q σ F1 (k x ρ1 ps1) → Q' (.bl x) H1) : pT c E ma σ H Q' := by
  unfold eB at h
  rw [bind_bind] at h
  refine post_bind S h fun d1 v1 F1 ρ1 ps1 H1 s1 S1 r1 h1 => ?_
  cases ed : asB d1 with
  | none => rw [ed] at h1; exact h1.elim
  | some x =>
    rw [ed] at h1
    have := asB_some ed; subst this
    have r1 : v1 = .bl x := r1
    subst r1
    exact go x F1 ρ1 ps1 H1 S1 h1
theorem g_and (ha : PE X a (pT c E ma)) (hb : PE X (.BoolOp .And (b :: es) pos) (pT c E mb)) : PE X (.BoolOp .And (a :: b :: es) pos) (pT c E (eAnd ma mb)) :=
  (pe_and ha hb).imp fun σ H Q ⟨F, ρ, ps, S, h⟩ => eB_split S h fun x F1 ρ1 ps1 H1 S1 h1 => by
    refine ⟨x, rfl, ?_⟩
    cases x with
    | true => exact iteT ⟨F1, ρ1, ps1, S1, h1⟩
    | false => exact iteF (post_ok (R := RD c) S1 h1 rfl)
theorem g_or (ha : PE X a (pT c E ma)) (hb : PE X (.BoolOp .Or (b :: es) pos) (pT c E mb)) : PE X (.BoolOp .Or (a :: b :: es) pos) (pT c E (eOr ma mb)) :=
  (pe_or ha hb).imp fun σ H Q ⟨F, ρ, ps, S, h⟩ => eB_split S h fun x F1 ρ1 ps1 H1 S1 h1 => by
    refine ⟨x, rfl, ?_⟩
    cases x with
    | false => exact iteF ⟨F1, ρ1, ps1, S1, h1⟩
    | true => exact iteT (post_ok (R := RD c) S1 h1 rfl)
theorem g_not (ha : PE X a (pT c E ma)) : PE X (.UnaryOp .Not a pos) (pT c E (eNot ma)) :=
  (pe_not ha).imp fun σ H Q ⟨F, ρ, ps, S, h⟩ => eB_split S h fun x F1 ρ1 ps1 H1 S1 h1 => ⟨x, rfl, post_ok (R := RD c) S1 h1 rfl⟩
theorem g_if {cc : Expr} (hc : PT X cc (pTT c E ta)) (ha : PE X a (pT c E ma)) (hb : PE X b (pT c E mb)) : PE X (.IfExp cc a b pos) (pT c E (eIf ta ma mb)) :=
  (pe_ifExp hc ha hb).imp fun σ H Q ⟨F, ρ, ps, S, h⟩ => post_bind S h fun d1 v1 F1 ρ1 ps1 H1 s1 S1 r1 h1 => by
    cases r1
    cases d1 with
    | true => exact iteT ⟨F1, ρ1, ps1, S1, h1⟩
    | false => exact iteF ⟨F1, ρ1, ps1, S1, h1⟩

/-! ### displays -/
def szOk (xs : List D) : Bool := decide (xs.length ≤ sizeLine)
def eTup (m : EM (List D)) : EM D := bindE m fun xs => if szOk xs = true then pureE (.tup xs) else stuckE
def eLst (m : EM (List D)) : EM (List D) := bindE m fun xs => if szOk xs = true then pureE xs else stuckE
/-- a fresh list as a value -/
def eFz (m : EM (List D)) : EM D := bindE m fun xs => pureE (.lst xs)
theorem g_tup {x1} (h : PA X es (pTA c E ml)) : PE X (.Tuple es x1 pos) (pT c E (eTup ml)) :=
  (pe_tup h).imp fun σ H Q ⟨F, ρ, ps, S, h⟩ => post_bind S h fun d1 v1 F1 ρ1 ps1 H1 s1 S1 r1 h1 => by
    by_cases z : szOk d1 = true
    · rw [if_pos z] at h1
      refine ⟨by rw [← RepL.length r1]; exact of_decide_eq_true z, fun p n => ?_⟩
      exact OkD.tup ⟨_, rfl, h1⟩ S1 r1 n
    · rw [if_neg z] at h1; exact h1.elim
theorem f_lst (h : PA X es (pTA c E ml)) : PE X (.List es pos) (pTF c E (eLst ml)) :=
  (pe_lst h).imp fun σ H Q ⟨F, ρ, ps, S, h⟩ => post_bind S h fun d1 v1 F1 ρ1 ps1 H1 s1 S1 r1 h1 => by
    by_cases z : szOk d1 = true
    · rw [if_pos z] at h1
      refine ⟨by rw [← RepL.length r1]; exact of_decide_eq_true z, fun p n => ?_⟩
      have S2 := S1.alloc (o := .lst v1) n
      have w := S1.fresh n
      exact post_ok (R := RF c) S2 h1 ⟨p, v1, rfl, upd_same, r1, w, fun i z => S1.notOwned n i z⟩
    · rw [if_neg z] at h1; exact h1.elim
theorem g_fz (h : PE X e (pTF c E ml)) : PE X e (pT c E (eFz ml)) :=
  h.imp fun σ H Q ⟨F, ρ, ps, S, h⟩ => post_bind S h fun d1 v1 F1 ρ1 ps1 H1 s1 S1 r1 h1 => by
    obtain ⟨p, vs, rfl, e, r, w, no⟩ := r1
    exact h1 _ _ H1 (sub_upd w.nf) (S1.freeze e w no) ⟨p, vs, rfl, upd_same, r.mono (sub_upd w.nf)⟩
end
end
end PL

namespace PL
open PySem L2

/-! ### the state changed -/
section
variable {c : Ct} {F H H' : Hp} {ρ : En} {ps : Pn} {σ : St}
theorem SR.lt (S : SR c F H ρ ps σ) {i : Nat} {s : Slot} (e : ρ[i]? = some s) : i < σ.length := by
  rw [S.len]; exact (List.getElem?_eq_some_iff.mp e).1
theorem owns_set {s : Slot} {i j : Nat} {p : Addr} {o : Option V} (h : Owns (ρ.set i s) (σ.set i o) j p) (hl : σ.length = ρ.length) : (j = i ∧ isOwn s = true ∧ o = some (.ref p)) ∨ (j ≠ i ∧ Owns ρ σ j p) := by
  obtain ⟨s', e1, e2, e3⟩ := h
  by_cases z : j = i
  · subst z
    by_cases hj : j < ρ.length
    · rw [List.getElem?_set_self hj] at e1; cases e1
      rw [List.getElem?_set_self (by omega)] at e3
      exact .inl ⟨rfl, e2, Option.some.inj e3⟩
    · rw [List.getElem?_eq_none (by simpa using hj)] at e1; cases e1
  · rw [List.getElem?_set_ne (Ne.symm z)] at e1 e3
    exact .inr ⟨z, s', e1, e2, e3⟩
theorem SR.set (S : SR c F H ρ ps σ) {i : Nat} {s : Slot} {o : Option V} (hi : i < ρ.length) (r : SlotR c F H s o) (no : isOwn s = true → ∀ p, o = some (.ref p) → ∀ j, ¬ Owns ρ σ j p) : SR c F H (ρ.set i s) ps (σ.set i o) := by
  refine ⟨S.sub, S.keep, S.grow, S.base, by rw [List.length_set, List.length_set]; exact S.len, fun j sl e => ?_, fun j k p hj hk => ?_, S.pen⟩
  · by_cases z : j = i
    · subst z
      rw [List.getElem?_set_self hi] at e; cases e
      exact ⟨o, List.getElem?_set_self (by rw [S.len]; exact hi), r⟩
    · rw [List.getElem?_set_ne (Ne.symm z)] at e ⊢
      exact S.slot j sl e
  · rcases owns_set hj S.len with ⟨rfl, a1, a2⟩ | ⟨a0, a1⟩
    · rcases owns_set hk S.len with ⟨rfl, _, _⟩ | ⟨_, b1⟩
      · rfl
      · exact absurd b1 (no a1 p a2 k)
    · rcases owns_set hk S.len with ⟨rfl, b1, b2⟩ | ⟨_, b1⟩
      · exact absurd a1 (no b1 p b2 j)
      · exact S.sep j k p a1 b1
theorem SR.setV (S : SR c F H ρ ps σ) {i : Nat} {d : D} {v : V} (hi : i < ρ.length) (r : Rep c.T c.pa F d v) : SR c F H (ρ.set i (.v d)) ps (σ.set i (some v)) :=
  S.set hi ⟨v, rfl, r⟩ fun z => by cases z
theorem SR.setUn (S : SR c F H ρ ps σ) {i : Nat} {o : Option V} (hi : i < ρ.length) : SR c F H (ρ.set i .un) ps (σ.set i o) :=
  S.set hi trivial fun z => by cases z
/-- the slot's value stands, the slot is told otherwise -/
theorem SR.retell (S : SR c F H ρ ps σ) {i : Nat} {s s' : Slot} (e : ρ[i]? = some s) (r : ∀ o, σ[i]? = some o → SlotR c F H s' o) (no : isOwn s' = true → ∀ p, σ[i]? = some (some (.ref p)) → ∀ j, j ≠ i → ¬ Owns ρ σ j p) : SR c F H (ρ.set i s') ps σ := by
  have hi := (List.getElem?_eq_some_iff.mp e).1
  have own : ∀ {j p}, Owns (ρ.set i s') σ j p → (j = i ∧ isOwn s' = true ∧ σ[i]? = some (some (.ref p))) ∨ (j ≠ i ∧ Owns ρ σ j p) := fun {j p} ⟨t, e1, e2, e3⟩ => by
    by_cases z : j = i
    · subst z
      rw [List.getElem?_set_self hi] at e1; cases e1
      exact .inl ⟨rfl, e2, e3⟩
    · rw [List.getElem?_set_ne (Ne.symm z)] at e1
      exact .inr ⟨z, t, e1, e2, e3⟩
  refine ⟨S.sub, S.keep, S.grow, S.base, by rw [List.length_set]; exact S.len, fun j sl q => ?_, fun j k p hj hk => ?_, S.pen⟩
  · by_cases z : j = i
    · subst z
      rw [List.getElem?_set_self hi] at q; cases q
      obtain ⟨o, e1, _⟩ := S.slot j s e
      exact ⟨o, e1, r o e1⟩
    · rw [List.getElem?_set_ne (Ne.symm z)] at q
      exact S.slot j sl q
  · rcases own hj with ⟨rfl, a1, a2⟩ | ⟨a0, a1⟩
    · rcases own hk with ⟨rfl, _, _⟩ | ⟨b0, b1⟩
      · rfl
      · exact absurd b1 (no a1 p a2 k b0)
    · rcases own hk with ⟨rfl, b1, b2⟩ | ⟨_, b1⟩
      · exact absurd a1 (no b1 p b2 j a0)
      · exact S.sep j k p a1 b1
/-- an owned object is written -/
theorem SR.write (S : SR c F H ρ ps σ) {i : Nat} {s s' : Slot} {p : Addr} {o' : HO} (e : ρ[i]? = some s) (ow : isOwn s = true) (ep : σ[i]? = some (some (.ref p))) (w : Own c F p) (nown : ∀ x, H p ≠ some (.own x))
    (r : SlotR c F (upd H p o') s' (some (.ref p))) : SR c F (upd H p o') (ρ.set i s') ps σ := by
  have hO : Owns ρ σ i p := ⟨s, e, ow, ep⟩
  have k : ∀ a u, a ≠ p → H a = some u → upd H p o' a = some u := fun a u n q => by rw [upd_ne n]; exact q
  have S1 : SR c F (upd H p o') (ρ.set i .un) ps σ := by
    have S0 := S.retell (s' := .un) e (fun _ _ => trivial) fun z => by cases z
    refine ⟨fun a u q => k a u (fun z => by rw [z, w.nf] at q; cases q) (S0.sub a u q), fun a u q n => k a u (fun z => by rw [z, w.n0] at q; cases q) (S0.keep a u q n), S0.grow, S0.base, S0.len, fun j sl q => ?_, S0.sep, ?_⟩
    · obtain ⟨ov, e1, r1⟩ := S0.slot j sl q
      refine ⟨ov, e1, ?_⟩
      have nej : ∀ p', isOwn sl = true → ov = some (.ref p') → p' ≠ p := fun p' o1 o2 z => by
        subst z
        by_cases hj : j = i
        · subst hj
          rw [List.getElem?_set_self (List.getElem?_eq_some_iff.mp e).1] at q; cases q; cases o1
        · rw [List.getElem?_set_ne (Ne.symm hj)] at q
          exact hj (S.sep j i p' ⟨sl, q, o1, by rw [e1, o2]⟩ hO)
      cases sl with
      | un => trivial
      | v d => exact r1
      | ol xs =>
        obtain ⟨p', vs, e2, e3, r2, w2⟩ := r1
        exact ⟨p', vs, e2, k _ _ (nej p' rfl e2) e3, r2, w2⟩
      | od ks xs =>
        obtain ⟨p', vs, e2, e3, r2, w2⟩ := r1
        exact ⟨p', vs, e2, k _ _ (nej p' rfl e2) e3, r2, w2⟩
      | oi cn ns xs =>
        obtain ⟨p', dx, fs, e2, e3, e4, e5, r2, w2⟩ := r1
        exact ⟨p', dx, fs, e2, k _ _ (nej p' rfl e2) e3, k _ _ (fun z => by rw [z] at e4; exact nown _ e4) e4, e5, r2, w2⟩
    · have h := S0.pen
      unfold PenR at h ⊢
      cases hp : c.pa with
      | none => trivial
      | some q =>
        obtain ⟨q, ca⟩ := q
        rw [hp] at h
        obtain ⟨e1, e2, e3⟩ := h
        exact ⟨k _ _ (fun z => w.np (by rw [hp, ← z]; rfl)) e1, e2, e3⟩
  have e' : (ρ.set i Slot.un)[i]? = some .un := List.getElem?_set_self (List.getElem?_eq_some_iff.mp e).1
  have S2 := S1.retell (s' := s') e' (fun o q => by rw [ep] at q; cases q; exact r) fun _ q hq j hj => fun z => by
    have eq : p = q := by rw [ep] at hq; cases hq; rfl
    subst eq
    obtain ⟨t, t1, t2, t3⟩ := z
    rw [List.getElem?_set_ne (Ne.symm hj)] at t1
    exact hj (S.sep j i p ⟨t, t1, t2, t3⟩ hO)
  rw [List.set_set] at S2
  exact S2
end

/-! ### statements -/
def spost (c : Ct) (E : XK) (D : Ends) (F : Hp) (o : SOut) : Prop :=
  match o with
  | .nx ρ ps => ∀ F' H' σ', Sub F F' → SR c F' H' ρ ps σ' → D.nx σ' H'
  | .rt d ps => ∀ v F' H' ρ' σ', Sub F F' → SR c F' H' ρ' ps σ' → Rep c.T c.pa F' d v → D.rt v H'
  | .bk ρ ps => ∀ F' H' σ', Sub F F' → SR c F' H' ρ ps σ' → D.bk σ' H'
  | .ct ρ ps => ∀ F' H' σ', Sub F F' → SR c F' H' ρ ps σ' → D.ct σ' H'
  | .ex e ρ ps => ∀ cl dd F' H' σ', Sub F F' → SR c F' H' ρ ps σ' → RepX c F' H' e cl dd → E cl dd H'
  | .stuck => False
def sT (c : Ct) (E : XK) (m : SM) : TS := fun D σ H => ∃ F ρ ps, SR c F H ρ ps σ ∧ spost c E D F (m ρ ps)
theorem spost.mono {c : Ct} {E : XK} {D : Ends} {F F' : Hp} {o : SOut} (s : Sub F F') (h : spost c E D F o) : spost c E D F' o := by
  cases o with
  | nx ρ ps => exact fun F2 H2 σ2 s2 => h F2 H2 σ2 (s.trans s2)
  | rt d ps => exact fun v F2 H2 ρ2 σ2 s2 => h v F2 H2 ρ2 σ2 (s.trans s2)
  | bk ρ ps => exact fun F2 H2 σ2 s2 => h F2 H2 σ2 (s.trans s2)
  | ct ρ ps => exact fun F2 H2 σ2 s2 => h F2 H2 σ2 (s.trans s2)
  | ex e ρ ps => exact fun cl dd F2 H2 σ2 s2 => h cl dd F2 H2 σ2 (s.trans s2)
  | stuck => exact h

def sNil : SM := fun ρ ps => .nx ρ ps
def sSeq (a b : SM) : SM := fun ρ ps => match a ρ ps with
  | .nx ρ' ps' => b ρ' ps'
  | o => o
/-- an expression, then a statement upon its value -/
def sBind {α : Type} (m : EM α) (k : α → SM) : SM := fun ρ ps => match m ρ ps with
  | .ok a ρ' ps' => k a ρ' ps'
  | .ex e ρ' ps' => .ex e ρ' ps'
  | .stuck => .stuck
def sRet (m : EM D) : SM := sBind m fun d _ ps => .rt d ps
def sDrop (m : EM D) : SM := sBind m fun _ ρ ps => .nx ρ ps
def sIf (t : EM Bool) (a b : SM) : SM := sBind t fun x => if x = true then a else b
def stuckS : SM := fun _ _ => .stuck
def sBreak : SM := fun ρ ps => .bk ρ ps
def sCont : SM := fun ρ ps => .ct ρ ps
/-- name = value -/
def sSet (i : Nat) (m : EM D) : SM := sBind m fun d ρ ps => .nx (ρ.set i (.v d)) ps
/-- name = a fresh list, owned -/
def sOwn (i : Nat) (m : EM (List D)) : SM := sBind m fun ds ρ ps => .nx (ρ.set i (.ol ds)) ps

section
variable {X : Cx} {c : Ct} {E : XK} {α β : Type} {R' : RG α β}
theorem spost_bind {D : Ends} {m : EM α} {k : α → SM} {F H : Hp} {ρ : En} {ps : Pn} {σ : St} {Q' : β → Hp → Prop} (S : SR c F H ρ ps σ) (h : spost c E D F (sBind m k ρ ps))
    (go : ∀ a b F1 ρ1 ps1 H1, Sub F F1 → SR c F1 H1 ρ1 ps1 σ → R' F1 H1 ρ1 σ a b → spost c E D F1 (k a ρ1 ps1) → Q' b H1) : pG c E R' m σ H Q' := by
  refine ⟨F, ρ, ps, S, ?_⟩
  unfold sBind at h
  cases e : m ρ ps with
  | ok a ρ1 ps1 =>
    rw [e] at h
    exact fun b F1 H1 s S1 r => go a b F1 ρ1 ps1 H1 s S1 r (h.mono s)
  | ex x ρ1 ps1 => rw [e] at h; exact fun cl dd F' H' s S' r => h cl dd F' H' σ s S' r
  | stuck => rw [e] at h; exact h
variable {st : Stmt} {sts : List Stmt} {a b : SM} {e : Expr} {me : EM D} {mf : EM (List D)} {t : EM Bool} {pos : Pos}
theorem s_nil : PSs X [] (sT c E sNil) := pss_nil.imp fun D σ H ⟨F, ρ, ps, S, h⟩ => h F H σ (Sub.refl F) S
theorem s_cons (h1 : PS X st (sT c E a)) (h2 : PSs X sts (sT c E b)) : PSs X (st :: sts) (sT c E (sSeq a b)) :=
  (pss_cons h1 h2).imp fun D σ H ⟨F, ρ, ps, S, h⟩ => by
    refine ⟨F, ρ, ps, S, ?_⟩
    unfold sSeq at h
    cases ea : a ρ ps with
    | nx ρ1 ps1 =>
      rw [ea] at h
      exact fun F1 H1 σ1 s S1 => ⟨F1, ρ1, ps1, S1, spost.mono s h⟩
    | rt d ps1 => rw [ea] at h; exact h
    | bk ρ1 ps1 => rw [ea] at h; exact h
    | ct ρ1 ps1 => rw [ea] at h; exact h
    | ex x ρ1 ps1 => rw [ea] at h; exact h
    | stuck => rw [ea] at h; exact h
theorem s_one (h1 : PS X st (sT c E a)) : PSs X [st] (sT c E a) := pss_one h1
theorem s_pass : PS X (.Pass pos) (sT c E sNil) := ps_pass.imp fun D σ H ⟨F, ρ, ps, S, h⟩ => h F H σ (Sub.refl F) S
theorem s_break : PS X (.Break pos) (sT c E sBreak) := ps_break.imp fun D σ H ⟨F, ρ, ps, S, h⟩ => h F H σ (Sub.refl F) S
theorem s_cont : PS X (.Continue pos) (sT c E sCont) := ps_continue.imp fun D σ H ⟨F, ρ, ps, S, h⟩ => h F H σ (Sub.refl F) S
theorem s_never : PS X st (sT c E stuckS) := ps_never.imp fun D σ H ⟨F, ρ, ps, S, h⟩ => h
theorem s_ret (he : PE X e (pT c E me)) : PS X (.Return (some e) pos) (sT c E (sRet me)) :=
  (ps_ret he).imp fun D σ H ⟨F, ρ, ps, S, h⟩ => spost_bind S h fun d v F1 ρ1 ps1 H1 s S1 r h1 => h1 v F1 H1 ρ1 σ (Sub.refl F1) S1 r
theorem s_expr (he : PE X e (pT c E me)) (hs : swapsWith e none pos.line X.env = pure false := by rfl) : PS X (.Expr e pos) (sT c E (sDrop me)) :=
  (ps_expr he hs).imp fun D σ H ⟨F, ρ, ps, S, h⟩ => spost_bind S h fun d v F1 ρ1 ps1 H1 s S1 r h1 => h1 F1 H1 σ (Sub.refl F1) S1
theorem s_if {cc : Expr} {sa sb : List Stmt} (hc : PT X cc (pTT c E t)) (ha : PSs X sa (sT c E a)) (hb : PSs X sb (sT c E b)) : PS X (.If cc sa sb pos) (sT c E (sIf t a b)) :=
  (ps_if hc ha hb).imp fun D σ H ⟨F, ρ, ps, S, h⟩ => spost_bind S h fun d v F1 ρ1 ps1 H1 s S1 r h1 => by
    cases r
    cases d with
    | true => exact iteT ⟨F1, ρ1, ps1, S1, h1⟩
    | false => exact iteF ⟨F1, ρ1, ps1, S1, h1⟩
theorem ix_lt {N : List Str} {i : Nat} {x : Str} (h : N[i]? = some x) : i < N.length := (List.getElem?_eq_some_iff.mp h).1
end

/-! ### targets -/
/-- what a target does to the state -/
abbrev TM := D → En → Option En
def tName (i : Nat) : TM := fun d ρ => if i < ρ.length then some (ρ.set i (.v d)) else none
def tSeqT : List TM → List D → En → Option En
  | [], [], ρ => some ρ
  | t :: ts, d :: ds, ρ => (t d ρ).bind fun ρ' => tSeqT ts ds ρ'
  | _, _, _ => none
def tTupT (ts : List TM) : TM := fun d ρ => match d with
  | .tup xs => tSeqT ts xs ρ
  | _ => none
/-- the slots outside ix stand -/
def Chg (ix : List Nat) (σ σ' : St) : Prop := σ'.length = σ.length ∧ ∀ j, j ∉ ix → σ'[j]? = σ[j]?
theorem Chg.refl (σ : St) : Chg [] σ σ := ⟨rfl, fun _ _ => rfl⟩
theorem Chg.trans {ix iy : List Nat} {σ σ1 σ2 : St} (a : Chg ix σ σ1) (b : Chg iy σ1 σ2) : Chg (ix ++ iy) σ σ2 :=
  ⟨b.1.trans a.1, fun j h => (b.2 j fun z => h (List.mem_append_right _ z)).trans (a.2 j fun z => h (List.mem_append_left _ z))⟩
def GT (X : Cx) (c : Ct) (tg : Expr) (g : TG) (t : TM) (ix : List Nat) : Prop := PG X tg g ∧ ∀ F H ρ ps σ d v Q ρ', SR c F H ρ ps σ → Rep c.T c.pa F d v → t d ρ = some ρ' → (∀ σ', Chg ix σ σ' → SR c F H ρ' ps σ' → Q σ' H) → g v σ H Q
def GTs (X : Cx) (c : Ct) (tgs : List Expr) (g : TGs) (ts : List TM) (ix : List Nat) : Prop := PGs X tgs g ∧ ∀ F H ρ ps σ ds vs Q ρ', SR c F H ρ ps σ → RepL c.T c.pa F ds vs → tSeqT ts ds ρ = some ρ' → (∀ σ', Chg ix σ σ' → SR c F H ρ' ps σ' → Q σ' H) → g vs σ H Q
section
variable {X : Cx} {c : Ct} {E : XK} {pos : Pos} {me : EM D} {mf : EM (List D)}
theorem chg_set {σ : St} {i : Nat} {o : Option V} : Chg [i] σ (σ.set i o) := ⟨by rw [List.length_set], fun j h => List.getElem?_set_ne (fun z => h (by simp [z]))⟩
theorem gt_name {i : Nat} {x : Str} (hN : X.N.Nodup) (hi : X.N[i]? = some x) (hx : Loc X.env.scope x) (hf : X.fn x = true ∨ X.env.scope.names.lookup x = some .local := by first | exact .inl rfl | exact .inr rfl) : GT X c (.Name x pos) (gName i) (tName i) [i] := by
  refine ⟨pg_name hN hi hx hf, fun F H ρ ps σ d v Q ρ' S r e q => ?_⟩
  unfold tName at e
  split at e
  · rename_i hl
    cases e
    exact q _ chg_set (S.setV hl r)
  · cases e
theorem gts_nil : GTs X c [] gNil [] [] := by
  refine ⟨pgs_nil, fun F H ρ ps σ ds vs Q ρ' S r e q => ?_⟩
  cases ds with
  | nil => cases e; cases r; exact ⟨rfl, q _ (Chg.refl σ) S⟩
  | cons d ds => cases e
theorem gts_cons {e : Expr} {es : List Expr} {t : TG} {u : TGs} {m : TM} {ms : List TM} {ix iy : List Nat} (h1 : GT X c e t m ix) (h2 : GTs X c es u ms iy)
    (hs : (assignEach (e :: es) X.env).map (·.2) = assign e X.env :: (assignEach es X.env).map (·.2) := by rfl) : GTs X c (e :: es) (gCons t u) (m :: ms) (ix ++ iy) := by
  refine ⟨pgs_cons h1.1 h2.1 hs, fun F H ρ ps σ ds vs Q ρ' S r e q => ?_⟩
  cases ds with
  | nil => cases e
  | cons d ds =>
    obtain ⟨v, vr, ev, r1, r2⟩ := r
    subst ev
    cases em : m d ρ with
    | none => simp [tSeqT, em] at e
    | some ρ1 =>
      have e' : tSeqT ms ds ρ1 = some ρ' := by simpa [tSeqT, em] using e
      exact ⟨v, vr, rfl, h1.2 F H ρ ps σ d v _ ρ1 S r1 em fun σ1 k1 S1 => h2.2 F H ρ1 ps σ1 ds vr Q ρ' S1 r2 e' fun σ2 k2 S2 => q σ2 (k1.trans k2) S2⟩
theorem tSeqT_len : ∀ {ms : List TM} {ds : List D} {ρ ρ' : En}, tSeqT ms ds ρ = some ρ' → ds.length = ms.length
  | [], [], _, _, _ => rfl
  | [], _ :: _, _, _, h => by cases h
  | _ :: _, [], _, _, h => by cases h
  | m :: ms, d :: ds, ρ, ρ', h => by
    cases em : m d ρ with
    | none => simp [tSeqT, em] at h
    | some ρ1 =>
      have e' : tSeqT ms ds ρ1 = some ρ' := by simpa [tSeqT, em] using h
      rw [List.length_cons, List.length_cons, tSeqT_len e']
theorem gt_tup {es : List Expr} {k : Nat} {t : TGs} {ms : List TM} {ix : List Nat} (hc : X.calm = true) (h : GTs X c es t ms ix) (hn : (assignEach es X.env).length = ms.length := by rfl) (hst : (assignEach es X.env).findIdx? (·.1) = none := by rfl) :
    GT X c (.Tuple es k pos) (gTup X.K ms.length t) (tTupT ms) ix := by
  refine ⟨pg_tup hc h.1 hn hst, fun F H ρ ps σ d v Q ρ' S r e q => ?_⟩
  cases d with
  | tup xs =>
    have e' : tSeqT ms xs ρ = some ρ' := e
    obtain ⟨a, vs, ev, f, rl⟩ := r
    subst ev
    exact ⟨a, vs, rfl, SqT.of (S.sub _ _ f), by rw [← rl.length]; exact tSeqT_len e', h.2 F H ρ ps σ xs vs Q ρ' S rl e' q⟩
  | _ => cases e
/-- target = value -/
def sAsg (t : TM) (m : EM D) : SM := sBind m fun d ρ ps => match t d ρ with
  | some ρ' => .nx ρ' ps
  | none => .stuck
theorem s_asg {tg e : Expr} {g : TG} {t : TM} (he : PE X e (pT c E me)) {ix : List Nat} (hg : GT X c tg g t ix) (hs : swapsWithSole [tg] e pos.line X.env = pure false := by rfl) (hw : swappedStores [tg] e X.env = pure none := by rfl)
    (h1 : (assignEach [tg] X.env).map (·.2) = [assign tg X.env] := by rfl) : PS X (.Assign [tg] e pos) (sT c E (sAsg t me)) :=
  (ps_asg he hg.1 hs hw h1).imp fun D σ H ⟨F, ρ, ps, S, h⟩ => spost_bind S h fun d v F1 ρ1 ps1 H1 s S1 r h1 => by
    cases et : t d ρ1 with
    | none => rw [et] at h1; exact h1.elim
    | some ρ2 =>
      rw [et] at h1
      exact hg.2 F1 H1 ρ1 ps1 σ d v D.nx ρ2 S1 r et fun σ2 _ S2 => h1 F1 H1 σ2 (Sub.refl F1) S2
theorem SR.wf (S : SR c F H ρ ps σ) {X : Cx} {pins : List (Addr × Obj)} {s : Shared} (I : Inv X pins σ H s) : ρ.length = X.N.length := S.len.symm.trans I.len
/-- name = value -/
theorem s_set {i : Nat} {x : Str} {e : Expr} {pos' : Pos} (hN : X.N.Nodup) (hi : X.N[i]? = some x) (hx : Loc X.env.scope x) (he : PE X e (pT c E me)) (hs : swapsWith e (some (.Name x pos')) pos.line X.env = pure false := by rfl) (hf : X.fn x = true ∨ X.env.scope.names.lookup x = some .local := by first | exact .inl rfl | exact .inr rfl) :
    PS X (.Assign [.Name x pos'] e pos) (sT c E (sAsg (tName i) me)) :=
  (ps_set hN hi hx he hs hf).imp fun D σ H ⟨F, ρ, ps, S, h⟩ => spost_bind S h fun d v F1 ρ1 ps1 H1 s S1 r h1 => by
    unfold tName at h1
    by_cases hl : i < ρ1.length
    · rw [if_pos hl] at h1
      exact h1 F1 H1 _ (Sub.refl F1) (S1.setV hl r)
    · rw [if_neg hl] at h1; exact h1.elim
/-- name = a fresh list -/
def sOwnS (i : Nat) (m : EM (List D)) : SM := sBind m fun ds ρ ps => if i < ρ.length then .nx (ρ.set i (.ol ds)) ps else .stuck
theorem s_own {i : Nat} {x : Str} {e : Expr} {pos' : Pos} (hN : X.N.Nodup) (hi : X.N[i]? = some x) (hx : Loc X.env.scope x) (he : PE X e (pTF c E mf)) (hs : swapsWith e (some (.Name x pos')) pos.line X.env = pure false := by rfl) (hf : X.fn x = true ∨ X.env.scope.names.lookup x = some .local := by first | exact .inl rfl | exact .inr rfl) :
    PS X (.Assign [.Name x pos'] e pos) (sT c E (sOwnS i mf)) :=
  (ps_set hN hi hx he hs hf).imp fun D σ H ⟨F, ρ, ps, S, h⟩ => spost_bind S h fun d v F1 ρ1 ps1 H1 s S1 r h1 => by
    by_cases hl : i < ρ1.length
    · rw [if_pos hl] at h1
      obtain ⟨p, vs, ev, e1, rl, w, no⟩ := r
      subst ev
      exact h1 F1 H1 _ (Sub.refl F1) (S1.set hl ⟨p, vs, rfl, e1, rl, w⟩ fun _ q eq => by cases eq; exact no)
    · rw [if_neg hl] at h1; exact h1.elim
end
end PL

namespace PL
open PySem L2

/-! ### what a def promises -/
structure Stp (pa : Pa) (F H F' H' : Hp) : Prop where
  ff : Sub F F'
  fh : Sub F' H'
  kp : ∀ a o, H a = some o → pa.at ≠ some a → H' a = some o
  gr : ∀ a, H a ≠ none → F' a = F a

def fpost (T : Tab) (pa : Pa) (F H : Hp) (Q : VK) (E : XK) (o : FOut) : Prop :=
  match o with
  | .ok d ps => ∀ v F' H', Stp pa F H F' H' → PenR pa F' H' ps → Rep T pa F' d v → Q v H'
  | .ex e ps => ∀ cl dd F' H', Stp pa F H F' H' → PenR pa F' H' ps → RepX ⟨T, pa, F, H, none⟩ F' H' e cl dd → E cl dd H'
  | .stuck => False
/-- n arguments of data; f says what comes -/
def spP (T : Tab) (n : Nat) (f : FM) : Sp := fun vs H Q E => ∃ pa F ds ps, ds.length = n ∧ Sub F H ∧ RepL T pa F ds vs ∧ PenR pa F H ps ∧ fpost T pa F H Q E (f ds ps)

def callE (f : FM) (ds : List D) : EM D := fun ρ ps => match f ds ps with
  | .ok d ps' => .ok d ρ ps'
  | .ex e ps' => .ex e ρ ps'
  | .stuck => .stuck
def eCall (f : FM) (ml : EM (List D)) : EM D := bindE ml fun ds => callE f ds
/-- with defaults behind -/
def eCallD (f : FM) (df : List D) (ml : EM (List D)) : EM D := bindE ml fun ds => callE f (ds ++ df)

section
variable {c : Ct} {F H F' H' : Hp} {ρ : En} {ps ps' : Pn} {σ : St} {E : XK} {Q : VK}
theorem SR.stp (S : SR c F H ρ ps σ) (t : Stp c.pa F H F' H') (pen : PenR c.pa F' H' ps') : SR c F' H' ρ ps' σ := S.step t.ff t.fh t.kp t.gr pen
/-- the callee's promise at a call -/
theorem call_post {f : FM} {ds : List D} {vs : List V} {n : Nat} (hn : ds.length = n) (S : SR c F H ρ ps σ) (r : RepL c.T c.pa F ds vs) (h : post c E (RD c) Q σ F (callE f ds ρ ps)) : spP c.T n f vs H Q E := by
  refine ⟨c.pa, F, ds, ps, hn, S.sub, r, S.pen, ?_⟩
  unfold callE at h
  cases e : f ds ps with
  | ok d ps' => rw [e] at h; exact fun v F' H' t pen r' => h v F' H' t.ff (S.stp t pen) r'
  | ex x ps' => rw [e] at h; exact fun cl dd F' H' t pen r' => h cl dd F' H' t.ff (S.stp t pen) r'
  | stuck => rw [e] at h; exact h
end

/-- flat data written as defaults -/
theorem rep_flats {T : Tab} {pa : Pa} {F : Hp} : ∀ {df : List D}, df.all flat = true → RepL T pa F df (df.map (vOf T))
  | [], _ => RepL.nil
  | d :: df, h => by
    rw [List.all_cons, Bool.and_eq_true] at h
    exact RepL.cons ((rep_flat h.1).mpr rfl) (rep_flats h.2)

/-- a def of the module that may be called by its name: level, name, what it gives -/
structure CalP (P : Program) (w : World) (K : PySem.W.Frag) (mg : Str → Option Value) (base : Heap) (T : Tab) (k : Nat) (x : Str) (n : Nat) (f : FM) : Prop where
  at_ : ∃ a fd ps, FnOk P w K mg base (L2.CX P w) k a fd ps (spP T n f) ∧ Binds K fd ps [] ∧ mg x = some (.ref a) ∧ PySem.W.keepIn K (.ref a) = true ∧ T.fn x = a
/-- .. whose last parameters have these defaults -/
structure CalD (P : Program) (w : World) (K : PySem.W.Frag) (mg : Str → Option Value) (base : Heap) (T : Tab) (k : Nat) (x : Str) (n : Nat) (f : FM) (df : List D) : Prop where
  fl : df.all flat = true
  at_ : ∃ a fd ps ds, FnOk P w K mg base (L2.CX P w) k a fd ps (spP T n f) ∧ Vals (df.map (vOf T)) ds ∧ Binds K fd ps ds ∧ mg x = some (.ref a) ∧ PySem.W.keepIn K (.ref a) = true

section
variable {X : Cx} {c : Ct} {E : XK} {e a b : Expr} {es : List Expr} {ma mb me : EM D} {ml : EM (List D)} {pos p : Pos} {x : Str} {f : FM} {n k j : Nat}
theorem g_callD {df : List D} (C : CalD X.prog X.w X.K X.mg X.base c.T k x n f df) (hr : Room j X.A) (hk : k ≤ j) (hg : Gl X x) (hx : Passes (L2.CX X.prog X.w) X E) (hl : ∀ ρ ps ds ρ' ps', ml ρ ps = .ok ds ρ' ps' → (ds ++ df).length = n) (ha : PA X (e :: es) (pTA c E ml)) (hdb : (x == ("__debug__" : Str)) = false := by decide)
    (he : starEach (e :: es) X.env = (false, eval e X.env) :: starEach es X.env := by rfl) (hpl : (backTo pos (starEach es X.env)).any (·.1) = false := by rfl) : PE X (.Call (.Name x p) (e :: es) [] pos) (pT c E (eCallD f df ml)) := by
  obtain ⟨fa, fd, ps, ds, F, hd, hb, hm, kp⟩ := C.at_
  refine (pe_call F (hr.mono hk) hg hm kp hb hd hx ha hdb he hpl).imp fun σ H Q ⟨F, ρ, ps, S, h⟩ => ?_
  unfold eCallD at h
  refine ⟨F, ρ, ps, S, ?_⟩
  unfold bindE at h
  cases em : ml ρ ps with
  | ok ds ρ1 ps1 =>
    rw [em] at h
    exact fun vs F1 H1 s S1 r => call_post (hl _ _ _ _ _ em) S1 (RepL.append r (rep_flats C.fl)) (h.mono s)
  | ex x ρ1 ps1 => rw [em] at h; exact h
  | stuck => rw [em] at h; exact h
end

/-- how many arguments -/
def Many (n : Nat) (ml : EM (List D)) : Prop := ∀ ρ ps ds ρ' ps', ml ρ ps = .ok ds ρ' ps' → ds.length = n
theorem many_nil : Many 0 eNil := fun ρ ps ds ρ' ps' h => by
  have h' : Out.ok ([] : List D) ρ ps = .ok ds ρ' ps' := h
  cases h'; rfl
theorem many_cons {n : Nat} {a : EM D} {ml : EM (List D)} (h : Many n ml) : Many (n + 1) (eCons a ml) := fun ρ ps ds ρ' ps' e => by
  unfold eCons bindE at e
  cases ea : a ρ ps with
  | ok d ρ1 ps1 =>
    rw [ea] at e
    dsimp only at e
    cases el : ml ρ1 ps1 with
    | ok ds2 ρ2 ps2 =>
      rw [el] at e
      have e' : Out.ok (d :: ds2) ρ2 ps2 = .ok ds ρ' ps' := e
      cases e'
      rw [List.length_cons, h _ _ _ _ _ el]
    | ex x ρ2 ps2 => rw [el] at e; cases e
    | stuck => rw [el] at e; cases e
  | ex x ρ1 ps1 => rw [ea] at e; cases e
  | stuck => rw [ea] at e; cases e

section
variable {X : Cx} {c : Ct} {E : XK} {e a b : Expr} {es : List Expr} {ma mb me : EM D} {ml mk : EM (List D)} {pos p : Pos} {x : Str} {f : FM} {n k j : Nat}
/-- the arguments' reading with their number told -/
theorem args_n (hn : Many n ml) {F H : Hp} {ρ : En} {ps : Pn} {σ : St} {α β : Type} {R : RG α β} {Q : β → Hp → Prop} {k : List D → EM α} {Q' : List V → Hp → Prop} (S : SR c F H ρ ps σ) (h : post c E R Q σ F (bindE ml k ρ ps))
    (go : ∀ ds vs F1 ρ1 ps1 H1, ds.length = n → Sub F F1 → SR c F1 H1 ρ1 ps1 σ → RepL c.T c.pa F1 ds vs → post c E R Q σ F1 (k ds ρ1 ps1) → Q' vs H1) : pTA c E ml σ H Q' := by
  refine ⟨F, ρ, ps, S, ?_⟩
  unfold bindE at h
  cases em : ml ρ ps with
  | ok ds ρ1 ps1 =>
    rw [em] at h
    exact fun vs F1 H1 s S1 r => go ds vs F1 ρ1 ps1 H1 (hn _ _ _ _ _ em) s S1 r (h.mono s)
  | ex x ρ1 ps1 => rw [em] at h; exact h
  | stuck => rw [em] at h; exact h
theorem g_call (C : CalP X.prog X.w X.K X.mg X.base c.T k x n f) (hr : Room j X.A) (hk : k ≤ j) (hg : Gl X x) (hx : Passes (L2.CX X.prog X.w) X E) (hn : Many n ml) (ha : PA X (e :: es) (pTA c E ml)) (hdb : (x == ("__debug__" : Str)) = false := by decide)
    (he : starEach (e :: es) X.env = (false, eval e X.env) :: starEach es X.env := by rfl) (hpl : (backTo pos (starEach es X.env)).any (·.1) = false := by rfl) : PE X (.Call (.Name x p) (e :: es) [] pos) (pT c E (eCall f ml)) := by
  obtain ⟨fa, fd, ps, F, hb, hm, kp, _⟩ := C.at_
  refine (pe_call F (hr.mono hk) hg hm kp hb .nil hx ha hdb he hpl).imp fun σ H Q ⟨F, ρ, ps, S, h⟩ => ?_
  refine args_n hn S h fun ds vs F1 ρ1 ps1 H1 hl s S1 r h1 => ?_
  show spP c.T n f (vs ++ []) H1 Q E
  rw [List.append_nil]
  exact call_post hl S1 r h1
theorem g_call0 (C : CalP X.prog X.w X.K X.mg X.base c.T k x 0 f) (hr : Room j X.A) (hk : k ≤ j) (hg : Gl X x) (hx : Passes (L2.CX X.prog X.w) X E) (hdb : (x == ("__debug__" : Str)) = false := by decide) : PE X (.Call (.Name x p) [] [] pos) (pT c E (eCall f eNil)) := by
  obtain ⟨fa, fd, ps, F, hb, hm, kp, _⟩ := C.at_
  refine (pe_call0 F (hr.mono hk) hg hm kp hb .nil hx hdb).imp fun σ H Q ⟨F, ρ, ps, S, h⟩ => ?_
  exact call_post rfl S RepL.nil h
/-- a keyword call: g puts positional and keyword values in the parameters' order -/
structure CalK (P : Program) (w : World) (K : PySem.W.Frag) (mg : Str → Option Value) (base : Heap) (T : Tab) (k : Nat) (x : Str) (n np : Nat) (ks : List Str) (f : FM) (g : List D → List D → List D) : Prop where
  at_ : ∃ a fd ps gg gV, FnOk P w K mg base (L2.CX P w) k a fd ps (spP T n f) ∧ KBn K fd ps np ks gg gV ∧ mg x = some (.ref a) ∧ PySem.W.keepIn K (.ref a) = true ∧
    ∀ pa F ds es vs ws, ds.length = np → es.length = ks.length → RepL T pa F ds vs → RepL T pa F es ws → RepL T pa F (g ds es) (gV vs ws) ∧ (g ds es).length = n
def eCallK (f : FM) (g : List D → List D → List D) (ml mk : EM (List D)) : EM D := bindE ml fun ds => bindE mk fun es => callE f (g ds es)
theorem g_knil : PK X [] (pTA c E eNil) := ⟨fun pos pins s σ H Q I ⟨F, ρ, ps, S, h⟩ => pk_nil.run pos pins s σ H Q I (post_ok (R := RL c) (b := []) S h RepL.nil)⟩
theorem g_kcons {nm : Option Str} {kpos : Pos} {kws : List Keyword} (ha : PE X e (pT c E ma)) (hr : PK X kws (pTA c E ml)) : PK X (⟨nm, e, kpos⟩ :: kws) (pTA c E (eCons ma ml)) :=
  ⟨fun pos pins s σ H Q I ⟨F, ρ, ps, S, h⟩ => (pk_cons ha hr).run pos pins s σ H Q I (post_bind S h fun d1 v1 F1 ρ1 ps1 H1 s1 S1 r1 h1 => post_bind S1 h1 fun d2 v2 F2 ρ2 ps2 H2 s2 S2 r2 h2 => post_ok (R := RL c) S2 h2 (RepL.cons (Rep.mono s2 r1) r2))⟩
theorem g_callK {np : Nat} {ks : List Str} {g : List D → List D → List D} {kws : List Keyword} (C : CalK X.prog X.w X.K X.mg X.base c.T k x n np ks f g) (hr : Room j X.A) (hk : k ≤ j) (hg : Gl X x) (hx : Passes (L2.CX X.prog X.w) X E) (hn : Many np ml) (hkn : Many ks.length mk)
    (ha : PA X (e :: es) (pTA c E ml)) (hkw : PK X kws (pTA c E mk)) (hall : (backToKw pos (keywordEach kws X.env)).all (·.1.isSome) = true := by rfl) (hks : (backToKw pos (keywordEach kws X.env)).filterMap (·.1) = ks := by rfl) (hdb : (x == ("__debug__" : Str)) = false := by decide)
    (he : starEach (e :: es) X.env = (false, eval e X.env) :: starEach es X.env := by rfl)
    (hpl : ((backTo pos (starEach (e :: es) X.env)).any (·.1) || (backToKw pos (keywordEach kws X.env)).any (·.1.isNone)) = false := by rfl) : PE X (.Call (.Name x p) (e :: es) kws pos) (pT c E (eCallK f g ml mk)) := by
  obtain ⟨fa, fd, ps, gg, gV, F, hb, hm, kp, hg2⟩ := C.at_
  refine (pe_callN F (hr.mono hk) hg hm kp hb hx ha hkw hall hks hdb he hpl).imp fun σ H Q ⟨F, ρ, ps, S, h⟩ => ?_
  refine args_n hn S h fun ds vs F1 ρ1 ps1 H1 hl s S1 r h1 => ?_
  refine args_n hkn S1 h1 fun es ws F2 ρ2 ps2 H2 hl2 s2 S2 r2 h2 => ?_
  obtain ⟨z1, z2⟩ := hg2 c.pa F2 ds es vs ws hl hl2 (RepL.mono s2 r) r2
  exact ⟨by rw [← r.length]; exact hl, by rw [← r2.length]; exact hl2, call_post z2 S2 z1 h2⟩
/-- f(k = v, ..), keywords alone -/
theorem pe_callN0 {CX : CXT} {fa : Addr} {fd : FuncData} {ps ks : List Str} {sp : Sp} {tk : TA} {kws : List Keyword} {gg : List Value → List Value → List Value} {gV : List V → List V → List V} (F : FnOk X.prog X.w X.K X.mg X.base CX k fa fd ps sp) (hr : Room k X.A) (hg : Gl X x) (hm : X.mg x = some (.ref fa)) (hk : PySem.W.keepIn X.K (.ref fa) = true) (hb : KBn X.K fd ps 0 ks gg gV) (hx : Passes CX X E)
    (hkw : PK X kws tk) (hall : (backToKw pos (keywordEach kws X.env)).all (·.1.isSome) = true := by rfl) (hks : (backToKw pos (keywordEach kws X.env)).filterMap (·.1) = ks := by rfl)
    (hdb : (x == ("__debug__" : Str)) = false := by decide) (hpl : ((backTo pos (starEach [] X.env)).any (·.1) || (backToKw pos (keywordEach kws X.env)).any (·.1.isNone)) = false := by rfl) :
    PE X (.Call (.Name x p) [] kws pos) (tCallN 0 ks.length sp gV E tNil tk) := by
  refine ⟨fun pins s σ H Q I h => ?_⟩
  refine PySem.wpAny_Call_Name_kw (ld_glob I hg hm ?_ hdb)
  refine PySem.W.callWith_KW0 (h₀ := X.base) I.ok.mod.kin hk hall ?_ hpl
  refine thn (hkw.run pos pins s σ H _ I h) fun ws s2 ⟨zs, H2, I2, rz, l1, l2, q2⟩ => ⟨I2.kIn, ?_⟩
  rw [hks]
  exact run_fnN (us := []) (vs := []) F hr hb hx I2 .nil rz rfl l2 q2
theorem g_callK0 {ks : List Str} {g : List D → List D → List D} {kws : List Keyword} (C : CalK X.prog X.w X.K X.mg X.base c.T k x n 0 ks f g) (hr : Room j X.A) (hk : k ≤ j) (hg : Gl X x) (hx : Passes (L2.CX X.prog X.w) X E) (hkn : Many ks.length mk)
    (hkw : PK X kws (pTA c E mk)) (hall : (backToKw pos (keywordEach kws X.env)).all (·.1.isSome) = true := by rfl) (hks : (backToKw pos (keywordEach kws X.env)).filterMap (·.1) = ks := by rfl) (hdb : (x == ("__debug__" : Str)) = false := by decide)
    (hpl : ((backTo pos (starEach [] X.env)).any (·.1) || (backToKw pos (keywordEach kws X.env)).any (·.1.isNone)) = false := by rfl) : PE X (.Call (.Name x p) [] kws pos) (pT c E (eCallK f g eNil mk)) := by
  obtain ⟨fa, fd, ps, gg, gV, F, hb, hm, kp, hg2⟩ := C.at_
  refine (pe_callN0 F (hr.mono hk) hg hm kp hb hx hkw hall hks hdb hpl).imp fun σ H Q ⟨F, ρ, ps, S, h⟩ => ?_
  refine args_n hkn S h fun es ws F2 ρ2 ps2 H2 hl2 s2 S2 r2 h2 => ?_
  obtain ⟨z1, z2⟩ := hg2 c.pa F2 [] es [] ws rfl hl2 RepL.nil r2
  exact ⟨rfl, by rw [← r2.length]; exact hl2, call_post z2 S2 z1 h2⟩
end

/-! ### a def by its body -/
def runB (np nl : Nat) (m : SM) : FM := fun ds ps => if ds.length = np then
    match m (ds.map .v ++ List.replicate (nl - np) .un) ps with
    | .nx _ ps' => .ok .non ps'
    | .rt d ps' => .ok d ps'
    | .ex e _ ps' => .ex e ps'
    | _ => .stuck
  else .stuck
theorem SR.start {T : Tab} {pa : Pa} {F H : Hp} {ds : List D} {vs : List V} {ps : Pn} {N : List Str} {np : Nat} (hs : Sub F H) (r : RepL T pa F ds vs) (pen : PenR pa F H ps) (hn : ds.length = np) :
    SR ⟨T, pa, F, H, none⟩ F H (ds.map .v ++ List.replicate (N.length - np) .un) ps (L2.start N vs) := by
  have hl := r.length
  have get : ∀ (i : Nat) s, (ds.map Slot.v ++ List.replicate (N.length - np) Slot.un)[i]? = some s → (∃ d, s = .v d ∧ ds[i]? = some d) ∨ s = .un := fun i s e => by
    by_cases hi : i < ds.length
    · rw [List.getElem?_append_left (by simpa using hi), List.getElem?_map] at e
      cases ed : ds[i]? with
      | none => rw [ed] at e; cases e
      | some d => rw [ed] at e; cases e; exact .inl ⟨d, rfl, rfl⟩
    · rw [List.getElem?_append_right (by simpa using hi), List.getElem?_replicate] at e
      split at e
      · cases e; exact .inr rfl
      · cases e
  have sl : (L2.start N vs).length = (ds.map Slot.v ++ List.replicate (N.length - np) Slot.un).length := by
    unfold L2.start
    simp only [List.length_append, List.length_map, List.length_replicate]
    rw [← hl, hn]
  refine ⟨hs, fun a o e _ => e, fun a _ => rfl, Sub.refl F, sl, fun i s e => ?_, fun i j p ⟨s, e1, e2, _⟩ => ?_, pen⟩
  · have hi : i < (L2.start N vs).length := by rw [sl]; exact (List.getElem?_eq_some_iff.mp e).1
    rcases get i s e with ⟨d, rfl, ed⟩ | rfl
    · obtain ⟨v, ev, rv⟩ := r.get ed
      refine ⟨some v, ?_, v, rfl, rv⟩
      unfold L2.start
      rw [List.getElem?_append_left (by rw [List.length_map]; exact (List.getElem?_eq_some_iff.mp ev).1), List.getElem?_map, ev]
      rfl
    · exact ⟨_, List.getElem?_eq_getElem hi, trivial⟩
  · rcases get i s e1 with ⟨d, rfl, _⟩ | rfl <;> cases e2
theorem SR.stpOf {T : Tab} {pa : Pa} {F H F' H' : Hp} {ρ : En} {ps : Pn} {σ : St} (S : SR ⟨T, pa, F, H, none⟩ F' H' ρ ps σ) : Stp pa F H F' H' :=
  ⟨S.base, S.sub, S.keep, S.grow⟩
/-- THE RULE -/
theorem fn_P {P : Program} {w : World} {K : PySem.W.Frag} {mg : Str → Option Value} {base : Heap} {x qual : Str} {st : Stmt} {f : Addr} {fd : FuncData} {N ps : List Str} {k : Nat} {T : Tab} {m : SM} (F : Fun K x qual st f fd) (S : FnScope N ps (defScope st))
    (body : ∀ (cdv : Value) (A : Around) (outer : List Env) (s : Shared) (H : Hp) (E : XK) (c : Ct), c.T = T → Room k (A.deeper (PyProof.Rows.envOfC qual (defScope st) s.heap.objs.size f cdv)) →
      PSs (cxOf (L2.CX P w) P w K mg base N qual (defScope st) f cdv A outer s H E) (defBody st) (sT c E m)) : FnOk P w K mg base (L2.CX P w) (k + 1) f fd ps (spP T ps.length (runB ps.length N.length m)) := by
  refine F.okX S (fun vs H Q E ⟨pa, F, ds, pn, hn, _, r, _⟩ => by rw [← r.length]; exact hn) fun cdv A outer s H vs Q E hr h => ?_
  obtain ⟨pa, F, ds, pn, hn, hs, r, pen, hp⟩ := h
  refine ⟨_, body cdv A outer s H E ⟨T, pa, F, H, none⟩ rfl hr, F, _, pn, SR.start (N := N) hs r pen hn, ?_⟩
  unfold runB at hp
  rw [if_pos hn] at hp
  cases e : m (ds.map .v ++ List.replicate (N.length - ps.length) .un) pn with
  | nx ρ ps' => rw [e] at hp; exact fun F' H' σ' s' S' => hp .non F' H' S'.stpOf S'.pen rfl
  | rt d ps' => rw [e] at hp; exact fun v F' H' ρ' σ' s' S' r' => hp v F' H' S'.stpOf S'.pen r'
  | bk ρ ps' => rw [e] at hp; exact hp.elim
  | ct ρ ps' => rw [e] at hp; exact hp.elim
  | ex x ρ ps' => rw [e] at hp; exact fun cl dd F' H' σ' s' S' r' => hp cl dd F' H' S'.stpOf S'.pen r'
  | stuck => rw [e] at hp; exact hp.elim
section
open PySem.Spec PyProof.Rows
theorem mulOne (l : Addr) (its : Array Value) (n : Nat) (dd : Option Addr) (sl : Array (Option Value)) (u : Tok) :
    Meets (Builtin.«tuple.__mul__» ⟨[.ref l, .int 1 u], []⟩) (fun _ R s => s.heap.get? l = some ⟨.type "tuple", dd, .seq its n, sl⟩ ∧ R (.ok (.ret (.ref l))) s) :=
  .of_wp fun prog w A R s h => by
    obtain ⟨hp, g, d, tk, os⟩ := s
    obtain ⟨hl, h⟩ := h
    have fi := AutoSeq1.idx_int
    wp_walk using wpAny_loadPart' hl
    exact ⟨_, rfl, h⟩
def rRepOne (K : PySem.W.Frag) : R2 := fun x y H Q => ∃ l xs, x = .ref l ∧ y = .int 1 ∧ SqT K H l xs ∧ Q (.ref l) H
variable {X : Cx}
theorem op_repOne : OpR X (binaryOp .Mult) (rRepOne X.K) := by
  intro pins s σ H x y v u Q I rx ry h
  obtain ⟨l, xs, rfl, rfl, hT, q⟩ := h
  cases rx
  obtain ⟨t, rfl⟩ := ry
  obtain ⟨its, r, ⟨⟨cls, dd, data, sl⟩, ho, hc, n, hd⟩, hs⟩ := I.tuple hT
  simp only at hc hd
  subst hc hd
  refine wpAny_binaryOp_repeat_ref (T := "tuple") (U := "int") (by decide) ⟨_, ho, rfl⟩ (fun s' => typeIs_int s' 1 t) noFill_tuple_mul
    F.fills_int_mul F.slot_int_rmul repeat_tuple F.slot_int_index.lookup
    (call_meets F.slot_int_rmul (typeIs_int s 1 t) F.entry_int_rmul (F.args_int_rmul_2 _ _) (int_rmul_tuple 1 t l its.toArray n dd sl)
      ⟨ho, rfl, ⟨_, ho, rfl⟩, call_meets F.slot_tuple_mul ⟨_, ho, rfl⟩ F.entry_tuple_mul (F.args_tuple_mul_2 _ _)
        (mulOne l its.toArray n dd sl t) ⟨ho, ?_⟩⟩)
  exact ⟨.ref l, H, I, rfl, q⟩
end
end PL

namespace PL
open PySem L2

/-! ### equality of data -/
mutual
def toPy : D → PyData
  | .non => .none
  | .bl b => .bool b
  | .int i => .int i
  | .str s => .str s
  | .tup xs => .tuple (toPyL xs)
  | .lst xs => .list (toPyL xs)
  | _ => .none
def toPyL : List D → List PyData
  | [] => []
  | d :: ds => toPy d :: toPyL ds
end
/-- read through by ==: no dicts, objects; its strings are strings; at most k deep -/
def okS (s : Str) : Bool := s.cps.all (· < 0x110000)
mutual
def okD : Nat → D → Bool
  | _, .non => true
  | _, .bl _ => true
  | _, .int _ => true
  | _, .str s => okS s
  | 0, .tup _ => false
  | k + 1, .tup xs => okDL k xs
  | 0, .lst _ => false
  | k + 1, .lst xs => okDL k xs
  | _, _ => false
def okDL : Nat → List D → Bool
  | _, [] => true
  | k, d :: ds => okD k d && okDL k ds
end
mutual
def eqv : D → D → Bool
  | .non, .non => true
  | .bl a, .bl b => a == b
  | .bl a, .int j => (if a then 1 else 0) == j
  | .int i, .bl b => i == (if b then 1 else 0)
  | .int i, .int j => i == j
  | .str x, .str y => x == y
  | .lst xs, .lst ys => eqvL xs ys
  | .tup xs, .tup ys => eqvL xs ys
  | _, _ => false
def eqvL : List D → List D → Bool
  | [], [] => true
  | x :: xs, y :: ys => eqv x y && eqvL xs ys
  | _, _ => false
end
mutual
theorem okD_py : ∀ (k : Nat) (d : D), okD k d = true → (toPy d).canLay0 = true ∧ (toPy d).depth ≤ k
  | _, .non, _ => ⟨by simp [toPy, PyData.canLay0], by simp [toPy, PyData.depth]⟩
  | _, .bl _, _ => ⟨by simp [toPy, PyData.canLay0], by simp [toPy, PyData.depth]⟩
  | _, .int _, _ => ⟨by simp [toPy, PyData.canLay0], by simp [toPy, PyData.depth]⟩
  | _, .str s, h => ⟨by simp only [toPy, PyData.canLay0]; simp only [okD] at h; exact h, by simp [toPy, PyData.depth]⟩
  | 0, .tup _, h => by simp [okD] at h
  | k + 1, .tup xs, h => by
    have h' : okDL k xs = true := by simpa [okD] using h
    obtain ⟨a, b⟩ := okDL_py k xs h'
    exact ⟨by simpa [toPy, PyData.canLay0] using a, by simp only [toPy, PyData.depth]; omega⟩
  | 0, .lst _, h => by simp [okD] at h
  | k + 1, .lst xs, h => by
    have h' : okDL k xs = true := by simpa [okD] using h
    obtain ⟨a, b⟩ := okDL_py k xs h'
    exact ⟨by simpa [toPy, PyData.canLay0] using a, by simp only [toPy, PyData.depth]; omega⟩
  | _, .dic _ _, h => by simp [okD] at h
  | _, .ins _ _ _, h => by simp [okD] at h
  | _, .fn _, h => by simp [okD] at h
  | _, .pen, h => by simp [okD] at h
theorem okDL_py : ∀ (k : Nat) (ds : List D), okDL k ds = true → PyData.canLayAll0 (toPyL ds) = true ∧ PyData.depthAll (toPyL ds) ≤ k
  | _, [], _ => ⟨by simp [toPyL, PyData.canLayAll0], by simp [toPyL, PyData.depthAll]⟩
  | k, d :: ds, h => by
    have h' : okD k d = true ∧ okDL k ds = true := by simpa [okDL, Bool.and_eq_true] using h
    obtain ⟨a1, a2⟩ := okD_py k d h'.1
    obtain ⟨b1, b2⟩ := okDL_py k ds h'.2
    exact ⟨by simp [toPyL, PyData.canLayAll0, a1, b1], by simp only [toPyL, PyData.depthAll]; omega⟩
end
mutual
theorem eqv_py : ∀ (k j : Nat) (d e : D), okD k d = true → okD j e = true → PyData.eqv (toPy d) (toPy e) = eqv d e
  | k, j, d, e, h1, h2 => by
    cases d <;> cases e <;> first
      | (simp [okD] at h1; done)
      | (simp [okD] at h2; done)
      | (simp [toPy, PyData.eqv, eqv]; done)
      | skip
    case tup.tup xs ys =>
      cases k with
      | zero => simp [okD] at h1
      | succ k =>
        cases j with
        | zero => simp [okD] at h2
        | succ j =>
          have := eqvL_py k j xs ys (by simpa [okD] using h1) (by simpa [okD] using h2)
          simpa [toPy, PyData.eqv, eqv] using this
    case lst.lst xs ys =>
      cases k with
      | zero => simp [okD] at h1
      | succ k =>
        cases j with
        | zero => simp [okD] at h2
        | succ j =>
          have := eqvL_py k j xs ys (by simpa [okD] using h1) (by simpa [okD] using h2)
          simpa [toPy, PyData.eqv, eqv] using this
theorem eqvL_py : ∀ (k j : Nat) (ds es : List D), okDL k ds = true → okDL j es = true → PyData.eqvAll (toPyL ds) (toPyL es) = eqvL ds es
  | _, _, [], [], _, _ => by simp [toPyL, PyData.eqvAll, eqvL]
  | _, _, [], _ :: _, _, _ => by simp [toPyL, PyData.eqvAll, eqvL]
  | _, _, _ :: _, [], _, _ => by simp [toPyL, PyData.eqvAll, eqvL]
  | k, j, d :: ds, e :: es, h1, h2 => by
    have a : okD k d = true ∧ okDL k ds = true := by simpa [okDL, Bool.and_eq_true] using h1
    have b : okD j e = true ∧ okDL j es = true := by simpa [okDL, Bool.and_eq_true] using h2
    simp only [toPyL, PyData.eqvAll, eqvL]
    rw [eqv_py k j d e a.1 b.1, eqvL_py k j ds es a.2 b.2]
end
mutual
theorem rep_dp {T : Tab} {pa : Pa} {F H : Hp} {K : PySem.W.Frag} (s : Sub F H) : ∀ (k : Nat) (d : D) (v : V), okD k d = true → Rep T pa F d v → Dp K H v (toPy d)
  | _, .non, _, _, r => by cases r; exact .non
  | _, .bl b, _, _, r => by cases r; exact .bl b
  | _, .int i, _, _, r => by cases r; exact .int i
  | _, .str x, _, _, r => by cases r; exact .str x
  | 0, .tup _, _, h, _ => by simp [okD] at h
  | k + 1, .tup xs, _, h, r => by
    obtain ⟨a, vs, rfl, f, rl⟩ := r
    exact .tup (SqT.of (s _ _ f)) (repL_dp s k xs vs (by simpa [okD] using h) rl)
  | 0, .lst _, _, h, _ => by simp [okD] at h
  | k + 1, .lst xs, _, h, r => by
    obtain ⟨a, vs, rfl, f, rl⟩ := r
    exact .lst (SqL.of (s _ _ f)) (repL_dp s k xs vs (by simpa [okD] using h) rl)
  | _, .dic _ _, _, h, _ => by simp [okD] at h
  | _, .ins _ _ _, _, h, _ => by simp [okD] at h
  | _, .fn _, _, h, _ => by simp [okD] at h
  | _, .pen, _, h, _ => by simp [okD] at h
theorem repL_dp {T : Tab} {pa : Pa} {F H : Hp} {K : PySem.W.Frag} (s : Sub F H) : ∀ (k : Nat) (ds : List D) (vs : List V), okDL k ds = true → RepL T pa F ds vs → DpAll K H vs (toPyL ds)
  | _, [], _, _, r => by cases r; exact .nil
  | k, d :: ds, _, h, ⟨v, vr, e, r1, r2⟩ => by
    subst e
    have h' : okD k d = true ∧ okDL k ds = true := by simpa [okDL, Bool.and_eq_true] using h
    exact .cons (rep_dp s k d v h'.1 r1) (repL_dp s k ds vr h'.2 r2)
end
/-- scalars that == tells apart at once -/
def scD : D → D → Bool
  | .non, .non => true | .non, .int _ => true | .int _, .non => true | .non, .bl _ => true | .bl _, .non => true | .non, .str _ => true | .str _, .non => true
  | .int _, .int _ => true | .bl _, .bl _ => true | .str _, .str _ => true
  | .int _, .str _ => true | .str _, .int _ => true | .bl _, .str _ => true | .str _, .bl _ => true
  | _, _ => false
def eqD (d e : D) : Option D := if scD d e = true then some (.bl (eqv d e)) else if okD 60 d = true ∧ okD 60 e = true then some (.bl (eqv d e)) else none
def neD (d e : D) : Option D := if scD d e = true then some (.bl (!eqv d e)) else if okD 60 d = true ∧ okD 60 e = true then some (.bl (!eqv d e)) else none
theorem shaped_of {d : D} (h : okD 60 d = true) : SeqAt.shaped (toPy d) = true := by
  obtain ⟨a, b⟩ := okD_py 60 d h
  unfold SeqAt.shaped
  rw [a, Bool.true_and]
  exact decide_eq_true (by omega)
theorem sc_eq {T : Tab} {pa : Pa} {F : Hp} {d e : D} {v u : V} (h : scD d e = true) (r : Rep T pa F d v) (q : Rep T pa F e u) : scal v u = true ∧ decide (v = u) = eqv d e := by
  cases d <;> cases e <;> first
    | (cases (show false = true from h); done)
    | (cases r; cases q; refine ⟨rfl, ?_⟩; simp only [eqv]; first | exact dec_bl | exact dec_int | exact dec_str | simp)
section
variable {X : Cx} {c : Ct}
theorem hu64 {k : Nat} (hr : Room k X.A) : X.A.units + 64 < cLine := hr.units
theorem o_eq (hu : X.A.units + 64 < cLine) : ∃ r, OpR X (compareOp .Eq) r ∧ OpD c r eqD := by
  refine ⟨_, OpR.or op_eq (op_eqD hu), fun F H ρ ps σ d1 d2 v1 v2 Q S r1 r2 h => ?_⟩
  unfold eqD at h
  by_cases hs : scD d1 d2 = true
  · rw [if_pos hs] at h
    obtain ⟨a, b⟩ := sc_eq hs r1 r2
    refine .inl ⟨a, ?_⟩
    rw [b]
    exact h.flat S rfl
  · rw [if_neg hs] at h
    by_cases ho : okD 60 d1 = true ∧ okD 60 d2 = true
    · rw [if_pos ho] at h
      refine .inr ⟨_, _, rep_dp S.sub 60 d1 v1 ho.1 r1, rep_dp S.sub 60 d2 v2 ho.2 r2, shaped_of ho.1, shaped_of ho.2, ?_⟩
      rw [eqv_py 60 60 _ _ ho.1 ho.2]
      exact h.flat S rfl
    · rw [if_neg ho] at h
      obtain ⟨d, e, _⟩ := h
      cases e
theorem o_ne (hu : X.A.units + 64 < cLine) : ∃ r, OpR X (compareOp .NotEq) r ∧ OpD c r neD := by
  refine ⟨_, OpR.or op_ne (op_neD hu), fun F H ρ ps σ d1 d2 v1 v2 Q S r1 r2 h => ?_⟩
  unfold neD at h
  by_cases hs : scD d1 d2 = true
  · rw [if_pos hs] at h
    obtain ⟨a, b⟩ := sc_eq hs r1 r2
    refine .inl ⟨a, ?_⟩
    rw [b]
    exact h.flat S rfl
  · rw [if_neg hs] at h
    by_cases ho : okD 60 d1 = true ∧ okD 60 d2 = true
    · rw [if_pos ho] at h
      refine .inr ⟨_, _, rep_dp S.sub 60 d1 v1 ho.1 r1, rep_dp S.sub 60 d2 v2 ho.2 r2, shaped_of ho.1, shaped_of ho.2, ?_⟩
      rw [eqv_py 60 60 _ _ ho.1 ho.2]
      exact h.flat S rfl
    · rw [if_neg ho] at h
      obtain ⟨d, e, _⟩ := h
      cases e
end

/-! ### arithmetic, joining -/
def i64 (i : Int) : Bool := decide (-(2 ^ 64) < i) && decide (i < 2 ^ 64)
def addD : D → D → Option D
  | .int i, .int j => some (.int (i + j))
  | .str a, .str b => if a.length + b.length ≤ sizeLine then some (.str (a ++ b)) else none
  | .tup xs, .tup ys => if xs.length + ys.length ≤ sizeLine then some (.tup (xs ++ ys)) else none
  | _, _ => none
def subD : D → D → Option D
  | .int i, .int j => some (.int (i - j))
  | _, _ => none
def mulD : D → D → Option D
  | .int i, .int j => if i64 i = true ∨ i64 j = true then some (.int (i * j)) else none
  | .tup xs, .int k => if k = 1 then some (.tup xs) else if xs ≠ [] ∧ 2 ≤ k ∧ k ≤ 1000 ∧ xs.length ≤ 1000 then some (.tup (List.replicate k.toNat xs).flatten) else none
  | _, _ => none
def modD : D → D → Option D
  | .int i, .int j => if 0 < j then some (.int (i % j)) else none
  | _, _ => none
def fdivD : D → D → Option D
  | .int i, .int j => if 0 < j ∧ j < 1073741824 then some (.int (i / j)) else none
  | _, _ => none
def powD : D → D → Option D
  | .int i, .int j => if 0 ≤ j ∧ j ≤ 1000000 ∧ i.natAbs < 2 ^ 64 then some (.int (i ^ j.toNat)) else none
  | _, _ => none
def ltD : D → D → Option D
  | .int i, .int j => some (.bl (decide (i < j)))
  | _, _ => none
def leD : D → D → Option D
  | .int i, .int j => some (.bl (decide (i ≤ j)))
  | _, _ => none
def gtD : D → D → Option D
  | .int i, .int j => some (.bl (decide (j < i)))
  | _, _ => none
def geD : D → D → Option D
  | .int i, .int j => some (.bl (decide (j ≤ i)))
  | _, _ => none
def negD : D → Option D
  | .int i => some (.int (-i))
  | _ => none
theorem okd_none {c : Ct} {σ : St} {F : Hp} {ρ : En} {ps : Pn} {Q : VK} (h : OkD c σ F ρ ps none Q) : False := by
  obtain ⟨d, e, _⟩ := h; cases e
section
variable {X : Cx} {c : Ct}
theorem o_int {g : Int → Int → V} {f : D → D → Option D} (hf : ∀ d e, (∃ i j, d = .int i ∧ e = .int j ∧ ∃ x, f d e = some x ∧ flat x = true ∧ ∀ T, vOf T x = g i j) ∨ f d e = none) : OpD c (rI0 g) f := fun F H ρ ps σ d1 d2 v1 v2 Q S r1 r2 h => by
  rcases hf d1 d2 with ⟨i, j, rfl, rfl, x, e, fx, ev⟩ | e
  · rw [e] at h
    have q := h.flat S fx
    rw [ev] at q
    exact ⟨i, j, r1, r2, q⟩
  · rw [e] at h; exact (okd_none h).elim
theorem o_add : ∃ r, OpR X (binaryOp .Add) r ∧ OpD c r addD := by
  refine ⟨_, OpR.or op_add (OpR.or op_add_str op_catA), fun F H ρ ps σ d1 d2 v1 v2 Q S r1 r2 h => ?_⟩
  cases d1 <;> cases d2 <;> first
    | exact (okd_none h).elim
    | skip
  case int.int i j => exact .inl ⟨i, j, r1, r2, h.flat S rfl⟩
  case str.str a b =>
    simp only [addD] at h
    split at h
    · rename_i hz
      exact .inr (.inl ⟨a, b, r1, r2, hz, h.flat S rfl⟩)
    · exact (okd_none h).elim
  case tup.tup xs ys =>
    simp only [addD] at h
    split at h
    · rename_i hz
      obtain ⟨a, vs, rfl, f1, l1⟩ := r1
      obtain ⟨b, ws, rfl, f2, l2⟩ := r2
      refine .inr (.inr ⟨a, b, vs, ws, rfl, rfl, SqT.of (S.sub _ _ f1), SqT.of (S.sub _ _ f2), by rw [← l1.length, ← l2.length]; exact hz, fun e => ?_, fun _ e => ?_, fun _ _ p n => ?_⟩)
      · have ex : xs = [] := by have := l1.length; rw [e] at this; exact List.eq_nil_of_length_eq_zero this
        subst ex
        exact h.rep S ⟨b, ws, rfl, f2, l2⟩
      · have ey : ys = [] := by have := l2.length; rw [e] at this; exact List.eq_nil_of_length_eq_zero this
        subst ey
        rw [List.append_nil] at h
        exact h.rep S ⟨a, vs, rfl, f1, l1⟩
      · exact OkD.tup h S (l1.append l2) n
    · exact (okd_none h).elim
theorem o_sub : OpD c (rI0 fun i j => .int (i - j)) subD := o_int fun d e => by
  cases d <;> cases e <;> first | exact .inr rfl | exact .inl ⟨_, _, rfl, rfl, _, rfl, rfl, fun _ => rfl⟩
theorem o_lt : OpD c (rI0 fun i j => .bl (decide (i < j))) ltD := o_int fun d e => by
  cases d <;> cases e <;> first | exact .inr rfl | exact .inl ⟨_, _, rfl, rfl, _, rfl, rfl, fun _ => rfl⟩
theorem o_le : OpD c (rI0 fun i j => .bl (decide (i ≤ j))) leD := o_int fun d e => by
  cases d <;> cases e <;> first | exact .inr rfl | exact .inl ⟨_, _, rfl, rfl, _, rfl, rfl, fun _ => rfl⟩
theorem o_gt : OpD c (rI0 fun i j => .bl (decide (j < i))) gtD := o_int fun d e => by
  cases d <;> cases e <;> first | exact .inr rfl | exact .inl ⟨_, _, rfl, rfl, _, rfl, rfl, fun _ => rfl⟩
theorem o_ge : OpD c (rI0 fun i j => .bl (decide (j ≤ i))) geD := o_int fun d e => by
  cases d <;> cases e <;> first | exact .inr rfl | exact .inl ⟨_, _, rfl, rfl, _, rfl, rfl, fun _ => rfl⟩
theorem o_mul : ∃ r, OpR X (binaryOp .Mult) r ∧ OpD c r mulD := by
  refine ⟨_, OpR.or op_mul (OpR.or op_repOne op_repT), fun F H ρ ps σ d1 d2 v1 v2 Q S r1 r2 h => ?_⟩
  cases d1 <;> cases d2 <;> first
    | exact (okd_none h).elim
    | skip
  case int.int i j =>
    simp only [mulD] at h
    split at h
    · rename_i hz
      refine .inl ⟨i, j, r1, r2, ?_, h.flat S rfl⟩
      simp only [i64, Bool.and_eq_true, decide_eq_true_eq] at hz
      exact hz
    · exact (okd_none h).elim
  case tup.int xs k =>
    simp only [mulD] at h
    by_cases k1 : k = 1
    · rw [if_pos k1] at h
      subst k1
      obtain ⟨a, vs, rfl, f1, l1⟩ := r1
      cases r2
      exact .inr (.inl ⟨a, vs, rfl, rfl, SqT.of (S.sub _ _ f1), OkD.rep h S ⟨a, vs, rfl, f1, l1⟩⟩)
    rw [if_neg k1] at h
    split at h
    · rename_i hz
      obtain ⟨a, vs, rfl, f1, l1⟩ := r1
      cases r2
      refine .inr (.inr ⟨a, k, vs, rfl, rfl, SqT.of (S.sub _ _ f1), fun e => hz.1 ?_, hz.2.1, hz.2.2.1, by rw [← l1.length]; exact hz.2.2.2, fun p n => OkD.tup h S (l1.rep _) n⟩)
      have := l1.length; rw [e] at this; exact List.eq_nil_of_length_eq_zero this
    · exact (okd_none h).elim
theorem o_mod : OpD c (rI (fun _ j => 0 < j) fun i j => .int (i % j)) modD := fun F H ρ ps σ d1 d2 v1 v2 Q S r1 r2 h => by
  cases d1 <;> cases d2 <;> first
    | exact (okd_none h).elim
    | skip
  rename_i i j
  simp only [modD] at h
  split at h
  · rename_i hz; exact ⟨i, j, r1, r2, hz, h.flat S rfl⟩
  · exact (okd_none h).elim
theorem o_fdiv : OpD c (rI CDiv fun i j => .int (i / j)) fdivD := fun F H ρ ps σ d1 d2 v1 v2 Q S r1 r2 h => by
  cases d1 <;> cases d2 <;> first
    | exact (okd_none h).elim
    | skip
  rename_i i j
  simp only [fdivD] at h
  split at h
  · rename_i hz; exact ⟨i, j, r1, r2, hz, h.flat S rfl⟩
  · exact (okd_none h).elim
theorem o_pow : OpD c (rI CPow fun i j => .int (i ^ j.toNat)) powD := fun F H ρ ps σ d1 d2 v1 v2 Q S r1 r2 h => by
  cases d1 <;> cases d2 <;> first
    | exact (okd_none h).elim
    | skip
  rename_i i j
  simp only [powD] at h
  split at h
  · rename_i hz; exact ⟨i, j, r1, r2, hz, h.flat S rfl⟩
  · exact (okd_none h).elim
theorem o_neg : UnD c (rU fun i => .int (-i)) negD := fun F H ρ ps σ d1 v1 Q S r1 h => by
  cases d1 <;> first
    | exact (okd_none h).elim
    | skip
  rename_i i
  exact ⟨i, r1, h.flat S rfl⟩
end

/-! ### is None, is True -/
def isND (d : D) : Bool := match d with
  | .non => true
  | _ => false
def isD (d e : D) : Option D := match e with
  | .non => some (.bl (isND d))
  | .bl b => match d with
    | .bl a => some (.bl (a == b))
    | _ => none
  | _ => none
def isnD (d e : D) : Option D := match e with
  | .non => some (.bl (!isND d))
  | .bl b => match d with
    | .bl a => some (.bl (!(a == b)))
    | _ => none
  | _ => none
theorem rep_non {T : Tab} {pa : Pa} {F : Hp} {d : D} {v : V} (r : Rep T pa F d v) : decide (v = .non) = isND d := by
  cases d <;> first
    | (cases r; simp [isND]; done)
    | (obtain ⟨a, vs, rfl, _⟩ := r; simp [isND]; done)
    | (obtain ⟨a, dx, fs, rfl, _⟩ := r; simp [isND]; done)
    | (obtain ⟨a, _, rfl⟩ := r; simp [isND]; done)
section
variable {X : Cx} {c : Ct}
theorem dec_bb {a b : Bool} : (decide (a = b)) = (a == b) := by cases a <;> cases b <;> rfl
theorem o_is : ∃ r, OpR X (compareOp .Is) r ∧ OpD c r isD := by
  refine ⟨_, OpR.or op_isN op_isBl, fun F H ρ ps σ d1 d2 v1 v2 Q S r1 r2 h => ?_⟩
  cases d2 <;> first
    | exact (okd_none h).elim
    | skip
  case non =>
    refine .inl ⟨r2, ?_⟩
    rw [rep_non r1]
    exact h.flat S rfl
  case bl b =>
    cases d1 <;> first
      | exact (okd_none h).elim
      | skip
    rename_i a
    refine .inr ⟨a, b, r1, r2, ?_⟩
    rw [dec_bb]
    exact h.flat S rfl
theorem o_isn : ∃ r, OpR X (compareOp .IsNot) r ∧ OpD c r isnD := by
  refine ⟨_, OpR.or op_notN op_notBl, fun F H ρ ps σ d1 d2 v1 v2 Q S r1 r2 h => ?_⟩
  cases d2 <;> first
    | exact (okd_none h).elim
    | skip
  case non =>
    refine .inl ⟨r2, ?_⟩
    rw [rep_non r1]
    exact h.flat S rfl
  case bl b =>
    cases d1 <;> first
      | exact (okd_none h).elim
      | skip
    rename_i a
    refine .inr ⟨a, b, r1, r2, ?_⟩
    rw [dec_bb]
    exact h.flat S rfl
end

/-! ### in, not in -/
def flatC : D → Bool
  | .non => true | .bl _ => true | .int _ => true | .str _ => true | _ => false
def lookD : List Key → List D → Key → Option D
  | k :: ks, d :: ds, j => if k = j then some d else lookD ks ds j
  | _, _, _ => none
def keyOf : D → Option Key
  | .int i => some (.inl i)
  | .str s => some (.inr s)
  | _ => none
/-- x in a list, a tuple of flat things; a text in a text -/
def inB : D → D → Option Bool
  | x, .lst xs => if flatC x = true ∧ xs.all flatC = true then some (xs.any fun y => eqv y x) else if okD 60 x = true ∧ okD 60 (.lst xs) = true then some (xs.any fun y => eqv y x) else none
  | x, .tup xs => if flatC x = true ∧ xs.all flatC = true then some (xs.any fun y => eqv y x) else if okD 60 x = true ∧ okD 60 (.tup xs) = true then some (xs.any fun y => eqv y x) else none
  | .str a, .str b => some (!(Builtin.Str.occurrences b a 0 b.length 1).isEmpty)
  | _, _ => none
def inD (x y : D) : Option D := (inB x y).map .bl
def ninD (x y : D) : Option D := (inB x y).map fun b => .bl (!b)
theorem flat_rep {T : Tab} {pa : Pa} {F : Hp} {d : D} {v : V} (f : flatC d = true) (r : Rep T pa F d v) : flatV v = true := by
  cases d <;> first | (cases (show false = true from f); done) | (cases r; rfl)
theorem eqv_rep {T : Tab} {pa : Pa} {F : Hp} {d e : D} {v u : V} (f : flatC d = true) (g : flatC e = true) (r : Rep T pa F d v) (q : Rep T pa F e u) : eqV v u = eqv d e := by
  cases d <;> first
    | (cases (show false = true from f); done)
    | (cases e <;> first | (cases (show false = true from g); done) | (cases r; cases q; simp [eqV, eqv]; done))
theorem flats_rep {T : Tab} {pa : Pa} {F : Hp} : ∀ {ds : List D} {vs : List V}, ds.all flatC = true → RepL T pa F ds vs → vs.all flatV = true
  | [], _, _, r => by cases r; rfl
  | d :: ds, _, h, ⟨v, vr, e, r1, r2⟩ => by
    subst e
    rw [List.all_cons, Bool.and_eq_true] at h
    rw [List.all_cons, flat_rep h.1 r1, flats_rep h.2 r2]; rfl
theorem inV_rep {T : Tab} {pa : Pa} {F : Hp} {x : D} {u : V} (fx : flatC x = true) (q : Rep T pa F x u) : ∀ {ds : List D} {vs : List V}, ds.all flatC = true → RepL T pa F ds vs → inV u vs = ds.any fun y => eqv y x
  | [], _, _, r => by cases r; rfl
  | d :: ds, _, h, ⟨v, vr, e, r1, r2⟩ => by
    subst e
    rw [List.all_cons, Bool.and_eq_true] at h
    have := inV_rep fx q h.2 r2
    unfold inV at this ⊢
    rw [List.any_cons, List.any_cons, this, eqv_rep h.1 fx r1 q]
theorem anyPy {x : D} (hx : okD 60 x = true) : ∀ (k : Nat) {ds : List D}, okDL k ds = true → ((toPyL ds).any fun z => PyData.eqv z (toPy x)) = ds.any fun y => eqv y x
  | _, [], _ => rfl
  | k, d :: ds, h => by
    have h' : okD k d = true ∧ okDL k ds = true := by simpa [okDL, Bool.and_eq_true] using h
    simp only [toPyL, List.any_cons]
    rw [anyPy hx k h'.2, eqv_py k 60 d x h'.1 hx]
theorem roomD {A : Around} {xs : List PyData} {d : PyData} (hd : SeqAt.shaped d = true) (hu : A.units + 65 < cLine) : A.units + 1 + min (PyData.depthAll xs) d.depth < cLine := by
  have h1 : d.depth ≤ 60 + 4 := by
    unfold SeqAt.shaped at hd
    rw [Bool.and_eq_true] at hd
    have := of_decide_eq_true hd.2
    omega
  have h2 : min (PyData.depthAll xs) d.depth ≤ d.depth := Nat.min_le_right _ _
  omega
def rInDT (K : PySem.W.Frag) : R2 := fun x y H Q => ∃ d ds, Dp K H x d ∧ Dp K H y (.tuple ds) ∧ SeqAt.shaped d = true ∧ SeqAt.shaped (.tuple ds) = true ∧ Q (.bl (ds.any fun z => PyData.eqv z d)) H
def rNotInDT (K : PySem.W.Frag) : R2 := fun x y H Q => ∃ d ds, Dp K H x d ∧ Dp K H y (.tuple ds) ∧ SeqAt.shaped d = true ∧ SeqAt.shaped (.tuple ds) = true ∧ Q (.bl (!ds.any fun z => PyData.eqv z d)) H
theorem op_inDT {X : Cx} (hu : X.A.units + 65 < cLine) : OpR X (compareOp .In) (rInDT X.K) := by
  intro pins s σ H x y v u Q I rx ry h
  obtain ⟨d, ds, hd, he, sd, se, q⟩ := h
  obtain ⟨as, r1⟩ := Dp.reads I d x v hd rx
  obtain ⟨bs, r2⟩ := Dp.reads I (.tuple ds) y u he ry
  exact SeqAt.in_tuple_reads r2 r1 (SeqAt.canLay_of_shaped se) (SeqAt.canLay_of_shaped sd) (roomD sd hu) ⟨.bl _, H, I, rfl, q⟩
theorem op_notInDT {X : Cx} (hu : X.A.units + 65 < cLine) : OpR X (compareOp .NotIn) (rNotInDT X.K) := by
  intro pins s σ H x y v u Q I rx ry h
  obtain ⟨d, ds, hd, he, sd, se, q⟩ := h
  obtain ⟨as, r1⟩ := Dp.reads I d x v hd rx
  obtain ⟨bs, r2⟩ := Dp.reads I (.tuple ds) y u he ry
  exact SeqAt.notIn_tuple_reads r2 r1 (SeqAt.canLay_of_shaped se) (SeqAt.canLay_of_shaped sd) (roomD sd hu) ⟨.bl _, H, I, rfl, q⟩
section
variable {X : Cx} {c : Ct}
theorem o_in (hu : X.A.units + 65 < cLine) : ∃ r, OpR X (compareOp .In) r ∧ OpD c r inD := by
  refine ⟨_, OpR.or op_in_seq (OpR.or (op_inD hu) (OpR.or op_in_str (op_inDT hu))), fun F H ρ ps σ d1 d2 v1 v2 Q S r1 r2 h => ?_⟩
  unfold inD at h
  cases d2 with
  | lst xs =>
    simp only [inB] at h
    by_cases hf : flatC d1 = true ∧ xs.all flatC = true
    · rw [if_pos hf] at h
      obtain ⟨a, vs, rfl, f, l⟩ := r2
      refine .inl ⟨a, vs, rfl, .inl (SqL.of (S.sub _ _ f)), flat_rep hf.1 r1, flats_rep hf.2 l, ?_⟩
      rw [if_neg Bool.false_ne_true, inV_rep hf.1 r1 hf.2 l]
      exact OkD.flat h S rfl
    · rw [if_neg hf] at h
      by_cases ho : okD 60 d1 = true ∧ okD 60 (.lst xs) = true
      · rw [if_pos ho] at h
        have ho2 : okDL 59 xs = true := by simpa [okD] using ho.2
        refine .inr (.inl ⟨toPy d1, toPyL xs, rep_dp S.sub 60 d1 v1 ho.1 r1, rep_dp S.sub 60 (.lst xs) v2 ho.2 r2, shaped_of ho.1, shaped_of (d := .lst xs) ho.2, ?_⟩)
        rw [anyPy ho.1 59 ho2]
        exact OkD.flat h S rfl
      · rw [if_neg ho] at h
        exact (okd_none h).elim
  | tup xs =>
    simp only [inB] at h
    by_cases hf : flatC d1 = true ∧ xs.all flatC = true
    · rw [if_pos hf] at h
      obtain ⟨a, vs, rfl, f, l⟩ := r2
      refine .inl ⟨a, vs, rfl, .inr (SqT.of (S.sub _ _ f)), flat_rep hf.1 r1, flats_rep hf.2 l, ?_⟩
      rw [if_neg Bool.false_ne_true, inV_rep hf.1 r1 hf.2 l]
      exact OkD.flat h S rfl
    · rw [if_neg hf] at h
      by_cases ho : okD 60 d1 = true ∧ okD 60 (.tup xs) = true
      · rw [if_pos ho] at h
        have ho2 : okDL 59 xs = true := by simpa [okD] using ho.2
        refine .inr (.inr (.inr ⟨toPy d1, toPyL xs, rep_dp S.sub 60 d1 v1 ho.1 r1, rep_dp S.sub 60 (.tup xs) v2 ho.2 r2, shaped_of ho.1, shaped_of (d := .tup xs) ho.2, ?_⟩))
        rw [anyPy ho.1 59 ho2]
        exact OkD.flat h S rfl
      · rw [if_neg ho] at h
        exact (okd_none h).elim
  | str b =>
    cases d1 with
    | str a => exact .inr (.inr (.inl ⟨a, b, r1, r2, OkD.flat h S rfl⟩))
    | _ => exact (okd_none h).elim
  | _ => cases d1 <;> exact (okd_none h).elim
theorem o_nin (hu : X.A.units + 65 < cLine) : ∃ r, OpR X (compareOp .NotIn) r ∧ OpD c r ninD := by
  refine ⟨_, OpR.or op_notIn_seq (OpR.or (op_notInD hu) (OpR.or L2.op_notin_str (op_notInDT hu))), fun F H ρ ps σ d1 d2 v1 v2 Q S r1 r2 h => ?_⟩
  unfold ninD at h
  cases d2 with
  | lst xs =>
    simp only [inB] at h
    by_cases hf : flatC d1 = true ∧ xs.all flatC = true
    · rw [if_pos hf] at h
      obtain ⟨a, vs, rfl, f, l⟩ := r2
      refine .inl ⟨a, vs, rfl, .inl (SqL.of (S.sub _ _ f)), flat_rep hf.1 r1, flats_rep hf.2 l, ?_⟩
      rw [if_pos rfl, inV_rep hf.1 r1 hf.2 l]
      exact OkD.flat h S rfl
    · rw [if_neg hf] at h
      by_cases ho : okD 60 d1 = true ∧ okD 60 (.lst xs) = true
      · rw [if_pos ho] at h
        have ho2 : okDL 59 xs = true := by simpa [okD] using ho.2
        refine .inr (.inl ⟨toPy d1, toPyL xs, rep_dp S.sub 60 d1 v1 ho.1 r1, rep_dp S.sub 60 (.lst xs) v2 ho.2 r2, shaped_of ho.1, shaped_of (d := .lst xs) ho.2, ?_⟩)
        rw [anyPy ho.1 59 ho2]
        exact OkD.flat h S rfl
      · rw [if_neg ho] at h
        exact (okd_none h).elim
  | tup xs =>
    simp only [inB] at h
    by_cases hf : flatC d1 = true ∧ xs.all flatC = true
    · rw [if_pos hf] at h
      obtain ⟨a, vs, rfl, f, l⟩ := r2
      refine .inl ⟨a, vs, rfl, .inr (SqT.of (S.sub _ _ f)), flat_rep hf.1 r1, flats_rep hf.2 l, ?_⟩
      rw [if_pos rfl, inV_rep hf.1 r1 hf.2 l]
      exact OkD.flat h S rfl
    · rw [if_neg hf] at h
      by_cases ho : okD 60 d1 = true ∧ okD 60 (.tup xs) = true
      · rw [if_pos ho] at h
        have ho2 : okDL 59 xs = true := by simpa [okD] using ho.2
        refine .inr (.inr (.inr ⟨toPy d1, toPyL xs, rep_dp S.sub 60 d1 v1 ho.1 r1, rep_dp S.sub 60 (.tup xs) v2 ho.2 r2, shaped_of ho.1, shaped_of (d := .tup xs) ho.2, ?_⟩))
        rw [anyPy ho.1 59 ho2]
        exact OkD.flat h S rfl
      · rw [if_neg ho] at h
        exact (okd_none h).elim
  | str b =>
    cases d1 with
    | str a => exact .inr (.inr (.inl ⟨a, b, r1, r2, OkD.flat h S rfl⟩))
    | _ => exact (okd_none h).elim
  | _ => cases d1 <;> exact (okd_none h).elim
end
end PL

namespace PL
open PySem L2

/-! ### built-ins of values -/
def lenD : List D → Option D
  | [.str s] => if s.length ≤ sizeLine then some (.int s.length) else none
  | [.lst xs] => some (.int xs.length)
  | [.tup xs] => some (.int xs.length)
  | [.dic ks _] => some (.int ks.length)
  | _ => none
def blsOf : List D → Option (List Bool)
  | [] => some []
  | .bl b :: ds => (blsOf ds).map (b :: ·)
  | _ => none
def allD : List D → Option D
  | [.lst xs] => (blsOf xs).map fun bs => .bl (bs.all id)
  | _ => none
def anyD : List D → Option D
  | [.lst xs] => (blsOf xs).map fun bs => .bl (bs.any id)
  | _ => none
def tupleD : List D → Option D
  | [.lst xs] => some (.tup xs)
  | [.tup xs] => some (.tup xs)
  | _ => none
def intD : List D → Option D
  | [.int i] => some (.int i)
  | [.bl b] => some (.int (if b then 1 else 0))
  | _ => none
def boolD : List D → Option D
  | [.bl b] => some (.bl b)
  | [.int i] => some (.bl (i != 0))
  | _ => none
def absD : List D → Option D
  | [.int i] => some (.int (if i < 0 then -i else i))
  | _ => none
theorem CallR.or3 {X : Cx} {f : Value} {r r' : List V → Hp → VK → Prop} (h : CallR X f r) (h' : CallR X f r') : CallR X f (fun xs H Q => r xs H Q ∨ r' xs H Q) := L2.CallR.or h h'
theorem call_lenDk {X : Cx} : CallR X (.builtin "len") (fun xs H Q => ∃ a kvs, xs = [.ref a] ∧ H a = some (.dK kvs) ∧ Q (.int kvs.length) H) := by
  intro pins s σ H xs us Q I r h
  obtain ⟨a, kvs, rfl, e, q⟩ := h
  obtain ⟨u, rfl, ru⟩ := vals1 r
  cases ru
  exact d_len I (.inl e) fun t s' I' => ⟨.int kvs.length, H, I', ⟨t, rfl⟩, q⟩
section
variable {X : Cx} {c : Ct}
theorem rep1 {T : Tab} {pa : Pa} {F : Hp} {d : D} {vs : List V} (r : RepL T pa F [d] vs) : ∃ v, vs = [v] ∧ Rep T pa F d v := by
  obtain ⟨v, vr, e, r1, r2⟩ := r
  cases r2
  exact ⟨v, e, r1⟩
theorem repN {T : Tab} {pa : Pa} {F : Hp} {vs : List V} (r : RepL T pa F [] vs) : vs = [] := r
theorem b_len : ∃ r, CallR X (.builtin "len") r ∧ CallD c r lenD := by
  refine ⟨_, CallR.or call_len call_lenDk, fun F H ρ ps σ ds vs Q S r h => ?_⟩
  match ds, r, h with
  | [.str s], r, h =>
    obtain ⟨v, rfl, rv⟩ := rep1 r
    simp only [lenD] at h
    split at h
    · rename_i hz
      cases rv
      exact .inl ⟨_, s.length, rfl, ⟨hz, rfl⟩, OkD.flat h S rfl⟩
    · exact (okd_none h).elim
  | [.lst xs], r, h =>
    obtain ⟨v, rfl, a, vs, rfl, f, l⟩ := rep1 r
    refine .inl ⟨_, xs.length, rfl, .inl ⟨vs, SqL.of (S.sub _ _ f), l.length⟩, OkD.flat h S rfl⟩
  | [.tup xs], r, h =>
    obtain ⟨v, rfl, a, vs, rfl, f, l⟩ := rep1 r
    refine .inl ⟨_, xs.length, rfl, .inr ⟨vs, SqT.of (S.sub _ _ f), l.length⟩, OkD.flat h S rfl⟩
  | [.dic ks xs], r, h =>
    obtain ⟨v, rfl, a, kvs, rfl, f, hk, l⟩ := rep1 r
    refine .inr ⟨a, kvs, rfl, S.sub _ _ f, ?_⟩
    have : kvs.length = ks.length := by rw [← hk, List.length_map]
    rw [this]
    exact OkD.flat h S rfl
  | [], _, h => exact (okd_none h).elim
  | _ :: _ :: _, _, h => exact (okd_none (by simpa [lenD] using h)).elim
  | [.non], _, h => exact (okd_none h).elim
  | [.bl _], _, h => exact (okd_none h).elim
  | [.int _], _, h => exact (okd_none h).elim
  | [.ins _ _ _], _, h => exact (okd_none h).elim
  | [.fn _], _, h => exact (okd_none h).elim
  | [.pen], _, h => exact (okd_none h).elim
theorem bls_rep {T : Tab} {pa : Pa} {F : Hp} : ∀ {ds : List D} {vs : List V} {bs : List Bool}, blsOf ds = some bs → RepL T pa F ds vs → vs = bs.map V.bl
  | [], _, bs, e, r => by cases e; cases r; rfl
  | d :: ds, _, bs, e, ⟨v, vr, ev, r1, r2⟩ => by
    subst ev
    cases d <;> first
      | (cases (show (none : Option (List Bool)) = some bs from e); done)
      | skip
    rename_i b
    cases eb : blsOf ds with
    | none => simp [blsOf, eb] at e
    | some bs' =>
      have e' : b :: bs' = bs := by simpa [blsOf, eb] using e
      subst e'
      rw [bls_rep eb r2]
      cases r1
      rfl
theorem b_all (hc : X.calm = true) : CallD c (rAll X.K) allD := fun F H ρ ps σ ds vs Q S r h => by
  match ds, r, h with
  | [.lst xs], r, h =>
    obtain ⟨v, rfl, a, vs, rfl, f, l⟩ := rep1 r
    simp only [allD] at h
    cases eb : blsOf xs with
    | none => rw [eb] at h; exact (okd_none h).elim
    | some bs =>
      rw [eb] at h
      have := bls_rep eb l
      subst this
      exact ⟨a, bs, rfl, SqL.of (S.sub _ _ f), OkD.flat h S rfl⟩
  | [], _, h => exact (okd_none h).elim
  | _ :: _ :: _, _, h => exact (okd_none (by simpa [allD] using h)).elim
  | [.non], _, h => exact (okd_none h).elim
  | [.bl _], _, h => exact (okd_none h).elim
  | [.int _], _, h => exact (okd_none h).elim
  | [.str _], _, h => exact (okd_none h).elim
  | [.tup _], _, h => exact (okd_none h).elim
  | [.dic _ _], _, h => exact (okd_none h).elim
  | [.ins _ _ _], _, h => exact (okd_none h).elim
  | [.fn _], _, h => exact (okd_none h).elim
  | [.pen], _, h => exact (okd_none h).elim
theorem b_any (hc : X.calm = true) : CallD c (rAny X.K) anyD := fun F H ρ ps σ ds vs Q S r h => by
  match ds, r, h with
  | [.lst xs], r, h =>
    obtain ⟨v, rfl, a, vs, rfl, f, l⟩ := rep1 r
    simp only [anyD] at h
    cases eb : blsOf xs with
    | none => rw [eb] at h; exact (okd_none h).elim
    | some bs =>
      rw [eb] at h
      have := bls_rep eb l
      subst this
      exact ⟨a, bs, rfl, SqL.of (S.sub _ _ f), OkD.flat h S rfl⟩
  | [], _, h => exact (okd_none h).elim
  | _ :: _ :: _, _, h => exact (okd_none (by simpa [anyD] using h)).elim
  | [.non], _, h => exact (okd_none h).elim
  | [.bl _], _, h => exact (okd_none h).elim
  | [.int _], _, h => exact (okd_none h).elim
  | [.str _], _, h => exact (okd_none h).elim
  | [.tup _], _, h => exact (okd_none h).elim
  | [.dic _ _], _, h => exact (okd_none h).elim
  | [.ins _ _ _], _, h => exact (okd_none h).elim
  | [.fn _], _, h => exact (okd_none h).elim
  | [.pen], _, h => exact (okd_none h).elim
theorem b_tuple : ∃ r, CallR X (.type "tuple") r ∧ CallD c r tupleD := by
  refine ⟨_, call_tuple_of, fun F H ρ ps σ ds vs Q S r h => ?_⟩
  match ds, r, h with
  | [.lst xs], r, h =>
    obtain ⟨v, rfl, a, vs, rfl, f, l⟩ := rep1 r
    exact ⟨a, vs, rfl, .inl ⟨SqL.of (S.sub _ _ f), fun p n => OkD.tup h S l n⟩⟩
  | [.tup xs], r, h =>
    obtain ⟨v, rfl, a, vs, rfl, f, l⟩ := rep1 r
    exact ⟨a, vs, rfl, .inr ⟨SqT.of (S.sub _ _ f), OkD.rep h S ⟨a, vs, rfl, f, l⟩⟩⟩
  | [], _, h => exact (okd_none h).elim
  | _ :: _ :: _, _, h => exact (okd_none (by simpa [tupleD] using h)).elim
  | [.non], _, h => exact (okd_none h).elim
  | [.bl _], _, h => exact (okd_none h).elim
  | [.int _], _, h => exact (okd_none h).elim
  | [.str _], _, h => exact (okd_none h).elim
  | [.dic _ _], _, h => exact (okd_none h).elim
  | [.ins _ _ _], _, h => exact (okd_none h).elim
  | [.fn _], _, h => exact (okd_none h).elim
  | [.pen], _, h => exact (okd_none h).elim
theorem b_int : ∃ r, CallR X (.type "int") r ∧ CallD c r intD := by
  refine ⟨_, call_int1, fun F H ρ ps σ ds vs Q S r h => ?_⟩
  match ds, r, h with
  | [.int i], r, h =>
    obtain ⟨v, rfl, rv⟩ := rep1 r
    cases rv
    exact .inl ⟨i, rfl, OkD.flat h S rfl⟩
  | [.bl b], r, h =>
    obtain ⟨v, rfl, rv⟩ := rep1 r
    cases rv
    exact .inr ⟨b, rfl, OkD.flat h S rfl⟩
  | [], _, h => exact (okd_none h).elim
  | _ :: _ :: _, _, h => exact (okd_none (by simpa [intD] using h)).elim
  | [.non], _, h => exact (okd_none h).elim
  | [.lst _], _, h => exact (okd_none h).elim
  | [.tup _], _, h => exact (okd_none h).elim
  | [.str _], _, h => exact (okd_none h).elim
  | [.dic _ _], _, h => exact (okd_none h).elim
  | [.ins _ _ _], _, h => exact (okd_none h).elim
  | [.fn _], _, h => exact (okd_none h).elim
  | [.pen], _, h => exact (okd_none h).elim
theorem b_bool : ∃ r, CallR X (.type "bool") r ∧ CallD c r boolD := by
  refine ⟨_, call_bool1, fun F H ρ ps σ ds vs Q S r h => ?_⟩
  match ds, r, h with
  | [.int i], r, h =>
    obtain ⟨v, rfl, rv⟩ := rep1 r
    cases rv
    exact .inl ⟨i, rfl, OkD.flat h S rfl⟩
  | [.bl b], r, h =>
    obtain ⟨v, rfl, rv⟩ := rep1 r
    cases rv
    exact .inr ⟨b, rfl, OkD.flat h S rfl⟩
  | [], _, h => exact (okd_none h).elim
  | _ :: _ :: _, _, h => exact (okd_none (by simpa [boolD] using h)).elim
  | [.non], _, h => exact (okd_none h).elim
  | [.lst _], _, h => exact (okd_none h).elim
  | [.tup _], _, h => exact (okd_none h).elim
  | [.str _], _, h => exact (okd_none h).elim
  | [.dic _ _], _, h => exact (okd_none h).elim
  | [.ins _ _ _], _, h => exact (okd_none h).elim
  | [.fn _], _, h => exact (okd_none h).elim
  | [.pen], _, h => exact (okd_none h).elim
theorem b_abs : ∃ r, CallR X (.builtin "abs") r ∧ CallD c r absD := by
  refine ⟨_, call_abs, fun F H ρ ps σ ds vs Q S r h => ?_⟩
  match ds, r, h with
  | [.int i], r, h =>
    obtain ⟨v, rfl, rv⟩ := rep1 r
    cases rv
    exact ⟨i, rfl, OkD.flat h S rfl⟩
  | [], _, h => exact (okd_none h).elim
  | _ :: _ :: _, _, h => exact (okd_none (by simpa [absD] using h)).elim
  | [.non], _, h => exact (okd_none h).elim
  | [.bl _], _, h => exact (okd_none h).elim
  | [.lst _], _, h => exact (okd_none h).elim
  | [.tup _], _, h => exact (okd_none h).elim
  | [.str _], _, h => exact (okd_none h).elim
  | [.dic _ _], _, h => exact (okd_none h).elim
  | [.ins _ _ _], _, h => exact (okd_none h).elim
  | [.fn _], _, h => exact (okd_none h).elim
  | [.pen], _, h => exact (okd_none h).elim
end

/-! ### isinstance of built-in kinds -/
def tyD : D → Option String
  | .non => some "NoneType" | .bl _ => some "bool" | .int _ => some "int" | .str _ => some "str"
  | .tup _ => some "tuple" | .lst _ => some "list" | .dic _ _ => some "dict"
  | _ => none
theorem ty_rep {T : Tab} {pa : Pa} {F H : Hp} {K : PySem.W.Frag} (s : Sub F H) {d : D} {v : V} {t : String} (r : Rep T pa F d v) (e : tyD d = some t) : TyX K H v (.type t) := by
  cases d <;> first
    | (cases (show (none : Option String) = some t from e); done)
    | (cases e; cases r; first | exact .base .non | exact .base (.bl _) | exact .base (.int _) | exact .base (.str _); done)
    | skip
  case tup xs => cases e; obtain ⟨a, vs, rfl, f, _⟩ := r; exact .base (.tup (s _ _ f))
  case lst xs => cases e; obtain ⟨a, vs, rfl, f, _⟩ := r; exact .base (.lst (s _ _ f))
  case dic ks xs => cases e; obtain ⟨a, kvs, rfl, f, _⟩ := r; exact .base (.dK (s _ _ f))
/-- isinstance(x, T): T one of list, tuple, str, int, bool, dict -/
def kindB (t : String) (d : D) : Option Bool := (tyD d).bind fun u => kitB u t
def isiD (t : String) (d : D) : Option D := (kindB t d).map .bl
/-- isinstance(x, (T, U)) -/
def isi2D (t u : String) (d : D) : Option D := (kindB t d).bind fun a => (kindB u d).bind fun b => some (.bl (a || b))
section
variable {X : Cx} {c : Ct} {E : XK} {e : Expr} {me : EM D} {pos p p2 : Pos}
theorem g_isi {t : String} {y : Str} (he : PE X e (pT c E me)) (hg : Gl X "isinstance") (hm : X.mg "isinstance" = none) (hgy : Gl X y) (hmy : X.mg y = none) (hy : bootBuiltins y = some (.type t)) (hyn : y ≠ "__name__" := by decide) (hyd : (y == ("__debug__" : Str)) = false := by decide)
    (hs : starEach [e, .Name y p2] X.env = (false, eval e X.env) :: starEach [.Name y p2] X.env := by rfl) (hs2 : starEach [.Name y p2] X.env = (false, eval (.Name y p2) X.env) :: starEach [] X.env := by rfl) (hpl : (backTo pos (starEach [.Name y p2] X.env)).any (·.1) = false := by rfl)
    (hv : bootBuiltins "isinstance" = some (.builtin "isinstance") := by decide +kernel) : PE X (.Call (.Name "isinstance" p) [e, .Name y p2] [] pos) (pT c E (eOp1 (isiD t) me)) :=
  (pe_callB call_isi hg hm hv (pa_cons he (pa_cons (pe_bltn (v := .ty t) hgy hmy hy rfl hyn hyd) pa_nil hs2) hs) (by decide) (by decide) hs hpl).imp fun σ H Q ⟨F, ρ, ps, S, h⟩ =>
    post_bind S h fun d v F1 ρ1 ps1 H1 s1 S1 r1 h1 => by
      obtain ⟨b, eb, q⟩ := okd_of h1
      have h1' := okd_of h1
      unfold isiD kindB at h1'
      cases et : tyD d with
      | none => rw [et] at h1'; exact (okd_none h1').elim
      | some u =>
        rw [et] at h1'
        cases ek : kitB u t with
        | none => simp only [Option.bind_some, ek] at h1'; exact (okd_none h1').elim
        | some k =>
          simp only [Option.bind_some, ek] at h1'
          exact ⟨v, .ty t, .type u, .type t, k, rfl, .ty t, ty_rep S1.sub r1 et, kit_ty ek, OkD.flat h1' S1 rfl⟩
theorem g_isi2 {t u : String} {y z : Str} {p3 p4 : Pos} {k4} (he : PE X e (pT c E me)) (hg : Gl X "isinstance") (hm : X.mg "isinstance" = none) (hgy : Gl X y) (hmy : X.mg y = none) (hy : bootBuiltins y = some (.type t)) (hgz : Gl X z) (hmz : X.mg z = none) (hz : bootBuiltins z = some (.type u))
    (hyn : y ≠ "__name__" := by decide) (hyd : (y == ("__debug__" : Str)) = false := by decide) (hzn : z ≠ "__name__" := by decide) (hzd : (z == ("__debug__" : Str)) = false := by decide)
    (hs : starEach [e, .Tuple [.Name y p2, .Name z p3] k4 p4] X.env = (false, eval e X.env) :: starEach [.Tuple [.Name y p2, .Name z p3] k4 p4] X.env := by rfl)
    (hs2 : starEach [.Tuple [.Name y p2, .Name z p3] k4 p4] X.env = (false, eval (.Tuple [.Name y p2, .Name z p3] k4 p4) X.env) :: starEach [] X.env := by rfl)
    (hs3 : starEach [.Name y p2, .Name z p3] X.env = (false, eval (.Name y p2) X.env) :: starEach [.Name z p3] X.env := by rfl) (hs4 : starEach [.Name z p3] X.env = (false, eval (.Name z p3) X.env) :: starEach [] X.env := by rfl)
    (hpl : (backTo pos (starEach [.Tuple [.Name y p2, .Name z p3] k4 p4] X.env)).any (·.1) = false := by rfl)
    (hv : bootBuiltins "isinstance" = some (.builtin "isinstance") := by decide +kernel) : PE X (.Call (.Name "isinstance" p) [e, .Tuple [.Name y p2, .Name z p3] k4 p4] [] pos) (pT c E (eOp1 (isi2D t u) me)) :=
  (pe_callB call_isiT hg hm hv (pa_cons he (pa_cons (pe_tup (pa_cons (pe_bltn (v := .ty t) hgy hmy hy rfl hyn hyd) (pa_cons (pe_bltn (v := .ty u) hgz hmz hz rfl hzn hzd) pa_nil hs4) hs3)) pa_nil hs2) hs) (by decide) (by decide) hs hpl).imp fun σ H Q ⟨F, ρ, ps, S, h⟩ =>
    post_bind S h fun d v F1 ρ1 ps1 H1 s1 S1 r1 h1 => by
      have h1' := okd_of h1
      unfold isi2D kindB at h1'
      cases et : tyD d with
      | none => rw [et] at h1'; exact (okd_none h1').elim
      | some w =>
        rw [et] at h1'
        cases ek : kitB w t with
        | none => simp only [Option.bind_some, ek, Option.bind_none] at h1'; exact (okd_none h1').elim
        | some k =>
          cases ek2 : kitB w u with
          | none => simp only [Option.bind_some, ek, ek2, Option.bind_none] at h1'; exact (okd_none h1').elim
          | some k2 =>
            simp only [Option.bind_some, ek, ek2] at h1'
            refine ⟨by show 2 ≤ sizeLine; rw [sizeLine_eq]; decide, fun tp n => ?_⟩
            obtain ⟨s2, S2⟩ := S1.new (o := .tup [.ty t, .ty u]) n
            refine ⟨v, tp, [.ty t, .ty u], .type w, [.type t, .type u], k || k2, rfl, upd_same, .cons (.ty t) (.cons (.ty u) .nil), ty_rep S2.sub (Rep.mono s2 r1) et, kitAny_cons (kit_ty ek) (fun hk => kitAny_cons (kit_ty ek2) (fun hk2 => by subst hk hk2; exact kitAny_nil) fun hk2 => by subst hk hk2; rfl) fun hk => by subst hk; rfl, ?_⟩
            obtain ⟨d', e', q⟩ := h1'
            cases e'
            exact q _ _ _ s2 S2 rfl
end

/-! ### items, slices -/
def idxD : D → D → Option D
  | .lst xs, .int i => atI xs i
  | .tup xs, .int i => atI xs i
  | .str s, .int i => if s.length ≤ sizeLine then (atI s.cps.toList i).map fun c => .str ⟨#[c]⟩ else none
  | _, _ => none
/-- an item; of the pen too -/
def penE : D → EM D
  | .int k => fun ρ ps => if k = 0 then .ok (.lst (ps.cells.map .int)) ρ ps else if k = 1 then .ok (.int ps.turn) ρ ps else if k = 2 then .ok (.int ps.rest) ρ ps else .stuck
  | _ => stuckE
def idxE (x i : D) : EM D := match x with
  | .pen => penE i
  | _ => liftO (idxD x i)
def eIdx (a b : EM D) : EM D := bindE a fun x => bindE b fun y => idxE x y
theorem atI_rep {T : Tab} {pa : Pa} {F : Hp} {ds : List D} {vs : List V} {i : Int} {d : D} (r : RepL T pa F ds vs) (e : atI ds i = some d) : ∃ v, atI vs i = some v ∧ Rep T pa F d v := by
  unfold atI at e ⊢
  rw [r.length] at e
  cases ej : ixN vs.length i with
  | none => rw [ej] at e; cases e
  | some j =>
    rw [ej] at e
    exact r.get (by simpa using e)
theorem ints_rep {T : Tab} {pa : Pa} {F : Hp} : ∀ ns : List Int, RepL T pa F (ns.map D.int) (ns.map V.int)
  | [] => RepL.nil
  | n :: ns => RepL.cons rfl (ints_rep ns)
section
variable {X : Cx} {c : Ct} {E : XK} {e a b : Expr} {ma mb me : EM D} {mf ml : EM (List D)} {pos p p2 : Pos}
theorem idx_ix {x i : D} {v w : V} {F H : Hp} {ρ : En} {ps : Pn} {σ : St} {Q : VK} (S : SR c F H ρ ps σ) (r1 : Rep c.T c.pa F x v) (r2 : Rep c.T c.pa F i w) (h : post c E (RD c) Q σ F (idxE x i ρ ps)) : rIx X.K v w H Q := by
  unfold idxE at h
  cases x with
  | pen =>
    obtain ⟨pa, ea, rfl⟩ := r1
    obtain ⟨ca, p1, p2, p3⟩ := PenR.at S.pen ea
    cases i with
    | int k =>
      cases r2
      have h' : post c E (RD c) Q σ F (if k = 0 then .ok (.lst (ps.cells.map .int)) ρ ps else if k = 1 then .ok (.int ps.turn) ρ ps else if k = 2 then .ok (.int ps.rest) ρ ps else .stuck) := h
      by_cases k0 : k = 0
      · rw [if_pos k0] at h'
        subst k0
        exact .inl ⟨pa, _, 0, _, rfl, rfl, SqL.of p1, rfl, h' _ F H (Sub.refl F) S ⟨ca, _, rfl, p2, ints_rep _⟩⟩
      · rw [if_neg k0] at h'
        by_cases k1 : k = 1
        · rw [if_pos k1] at h'
          subst k1
          exact .inl ⟨pa, _, 1, _, rfl, rfl, SqL.of p1, rfl, h' _ F H (Sub.refl F) S rfl⟩
        · rw [if_neg k1] at h'
          by_cases k2 : k = 2
          · rw [if_pos k2] at h'
            subst k2
            exact .inl ⟨pa, _, 2, _, rfl, rfl, SqL.of p1, rfl, h' _ F H (Sub.refl F) S rfl⟩
          · rw [if_neg k2] at h'
            exact h'.elim
    | _ => exact h.elim
  | lst xs =>
    have h' := okd_of h
    cases i with
    | int k =>
      obtain ⟨d, ed, q⟩ := h'
      obtain ⟨a, vs, rfl, f, l⟩ := r1
      obtain ⟨v, ev, rv⟩ := atI_rep l ed
      exact .inl ⟨a, vs, k, v, rfl, r2, SqL.of (S.sub _ _ f), ev, q v F H (Sub.refl F) S rv⟩
    | _ => exact (okd_none h').elim
  | tup xs =>
    have h' := okd_of h
    cases i with
    | int k =>
      obtain ⟨d, ed, q⟩ := h'
      obtain ⟨a, vs, rfl, f, l⟩ := r1
      obtain ⟨v, ev, rv⟩ := atI_rep l ed
      exact .inr (.inl ⟨a, vs, k, v, rfl, r2, SqT.of (S.sub _ _ f), ev, q v F H (Sub.refl F) S rv⟩)
    | _ => exact (okd_none h').elim
  | str s =>
    have h' := okd_of h
    cases i with
    | int k =>
      simp only [idxD] at h'
      split at h'
      · rename_i hz
        cases ec : atI s.cps.toList k with
        | none => rw [ec] at h'; exact (okd_none h').elim
        | some ch =>
          rw [ec] at h'
          exact .inr (.inr ⟨s, k, ch, r1, r2, hz, ec, OkD.flat h' S rfl⟩)
      · exact (okd_none h').elim
    | _ => exact (okd_none h').elim
  | _ => exact (okd_none (okd_of h)).elim
theorem g_ix (ha : PE X a (pT c E ma)) (hb : PE X b (pT c E mb)) (hs : PlainIx b := by exact fun _ _ => rfl) : PE X (.Subscript a b pos) (pT c E (eIdx ma mb)) :=
  (pe_ix ix_seq ha hb hs).imp fun σ H Q ⟨F, ρ, ps, S, h⟩ => post_bind S h fun d1 v1 F1 ρ1 ps1 H1 s1 S1 r1 h1 => post_bind S1 h1 fun d2 v2 F2 ρ2 ps2 H2 s2 S2 r2 h2 => idx_ix S2 (Rep.mono s2 r1) r2 h2
/-- d[k], a dict -/
def dgetD : D → D → Option D
  | .dic ks xs, k => (keyOf k).bind fun j => lookD ks xs j
  | _, _ => none
theorem key_rep {T : Tab} {pa : Pa} {F : Hp} {d : D} {v : V} {k : Key} (e : keyOf d = some k) (r : Rep T pa F d v) : v = kV k := by
  cases d <;> first
    | (cases (show (none : Option Key) = some k from e); done)
    | (cases e; cases r; rfl)
theorem look_rep {T : Tab} {pa : Pa} {F : Hp} : ∀ {xs : List D} {kvs : List (Key × V)} {k : Key}, RepL T pa F xs (kvs.map (·.2)) →
    (∀ d, lookD (kvs.map (·.1)) xs k = some d → ∃ v, valV kvs k = some v ∧ Rep T pa F d v) ∧ (lookD (kvs.map (·.1)) xs k = none → valV kvs k = none)
  | xs, [], k, r => by
    refine ⟨fun d e => ?_, fun _ => rfl⟩
    cases xs <;> cases e
  | [], p :: kvs, k, r => by cases r
  | x :: xs, p :: kvs, k, ⟨v, vr, e, r1, r2⟩ => by
    have e1 : p.2 = v := (List.cons.inj e).1
    have e2 : kvs.map (·.2) = vr := (List.cons.inj e).2
    subst e1 e2
    obtain ⟨i1, i2⟩ := look_rep (k := k) r2
    by_cases hk : p.1 = k
    · refine ⟨fun d e => ?_, fun e => ?_⟩
      · simp only [List.map_cons, lookD, if_pos hk] at e
        cases e
        exact ⟨p.2, valV_pos hk, r1⟩
      · simp only [List.map_cons, lookD, if_pos hk] at e
        cases e
    · refine ⟨fun d e => ?_, fun e => ?_⟩
      · simp only [List.map_cons, lookD, if_neg hk] at e
        rw [valV_neg hk]
        exact i1 d e
      · simp only [List.map_cons, lookD, if_neg hk] at e
        rw [valV_neg hk]
        exact i2 e
theorem g_dget (hu : X.A.units + 1 < cLine) (ha : PE X a (pT c E ma)) (hb : PE X b (pT c E mb)) (hs : NoSl b := by exact fun _ _ => rfl) : PE X (.Subscript a b pos) (pT c E (eOp2 dgetD ma mb)) :=
  (pe_dget hu ha hb hs).imp fun σ H Q ⟨F, ρ, ps, S, h⟩ => post_bind S h fun d1 v1 F1 ρ1 ps1 H1 s1 S1 r1 h1 => post_bind S1 h1 fun d2 v2 F2 ρ2 ps2 H2 s2 S2 r2 h2 => by
    have h3 := okd_of h2
    cases d1 <;> first
      | exact (okd_none h3).elim
      | skip
    rename_i ks xs
    simp only [dgetD] at h3
    cases ek : keyOf d2 with
    | none => rw [ek] at h3; exact (okd_none h3).elim
    | some k =>
      rw [ek] at h3
      obtain ⟨d, ed, q⟩ := h3
      obtain ⟨a, kvs, rfl, f, hk, l⟩ := Rep.mono s2 r1
      subst hk
      obtain ⟨v, ev, rv⟩ := (look_rep l).1 d ed
      have e2 := key_rep ek r2
      subst e2
      refine ⟨a, v, rfl, ?_, q v F2 H2 (Sub.refl F2) S2 rv⟩
      rw [← ev]
      exact DGet.k (S2.sub _ _ f)
/-- k in d, a dict -/
def dinD (neg : Bool) : D → D → Option D
  | k, .dic ks xs => (keyOf k).bind fun j => some (.bl (if neg then !(lookD ks xs j).isSome else (lookD ks xs j).isSome))
  | _, _ => none
theorem look_some {T : Tab} {pa : Pa} {F : Hp} {xs : List D} {kvs : List (Key × V)} {k : Key} (l : RepL T pa F xs (kvs.map (·.2))) : (valV kvs k).isSome = (lookD (kvs.map (·.1)) xs k).isSome := by
  cases e : lookD (kvs.map (·.1)) xs k with
  | none => rw [(look_rep l).2 e]; rfl
  | some d =>
    obtain ⟨v, ev, _⟩ := (look_rep l).1 d e
    rw [ev]; rfl
theorem _root_.L2.PC.imp {op : CmpOp} {t t' : TE} (h : PC X op a b t) (w : ∀ σ H Q, t' σ H Q → t σ H Q) : PC X op a b t' := ⟨fun pins s σ H Q I q => h.run pins s σ H Q I (w σ H Q q)⟩
theorem c_din (hu : X.A.units + 1 < cLine) (ha : PE X a (pT c E ma)) (hb : PE X b (pT c E mb)) : PC X .In a b (pT c E (eOp2 (dinD false) ma mb)) :=
  (pc_din hu ha hb).imp fun σ H Q ⟨F, ρ, ps, S, h⟩ => post_bind S h fun d1 v1 F1 ρ1 ps1 H1 s1 S1 r1 h1 => post_bind S1 h1 fun d2 v2 F2 ρ2 ps2 H2 s2 S2 r2 h2 => by
    have h3 := okd_of h2
    cases d2 <;> first
      | exact (okd_none h3).elim
      | skip
    rename_i ks xs
    simp only [dinD] at h3
    cases ek : keyOf d1 with
    | none => rw [ek] at h3; exact (okd_none h3).elim
    | some k =>
      rw [ek] at h3
      obtain ⟨a, kvs, rfl, f, hk, l⟩ := r2
      subst hk
      have e2 := key_rep ek (Rep.mono s2 r1)
      subst e2
      refine ⟨a, _, rfl, DGet.k (S2.sub _ _ f), ?_⟩
      rw [look_some l]
      exact OkD.flat h3 S2 rfl

theorem c_dnin (hu : X.A.units + 1 < cLine) (ha : PE X a (pT c E ma)) (hb : PE X b (pT c E mb)) : PC X .NotIn a b (pT c E (eOp2 (dinD true) ma mb)) :=
  (pc_dnotin hu ha hb).imp fun σ H Q ⟨F, ρ, ps, S, h⟩ => post_bind S h fun d1 v1 F1 ρ1 ps1 H1 s1 S1 r1 h1 => post_bind S1 h1 fun d2 v2 F2 ρ2 ps2 H2 s2 S2 r2 h2 => by
    have h3 := okd_of h2
    cases d2 <;> first
      | exact (okd_none h3).elim
      | skip
    rename_i ks xs
    simp only [dinD] at h3
    cases ek : keyOf d1 with
    | none => rw [ek] at h3; exact (okd_none h3).elim
    | some k =>
      rw [ek] at h3
      obtain ⟨a, kvs, rfl, f, hk, l⟩ := r2
      subst hk
      have e2 := key_rep ek (Rep.mono s2 r1)
      subst e2
      refine ⟨a, _, rfl, DGet.k (S2.sub _ _ f), ?_⟩
      rw [look_some l]
      exact OkD.flat h3 S2 rfl

theorem g_din (hu : X.A.units + 1 < cLine) (ha : PE X a (pT c E ma)) (hb : PE X b (pT c E mb)) (hm : behindInMarks .In b = false := by rfl) : PE X (.Compare a [.In] [b] pos) (pT c E (eOp2 (dinD false) ma mb)) := pe_cmp (c_din hu ha hb) hm
theorem g_dnin (hu : X.A.units + 1 < cLine) (ha : PE X a (pT c E ma)) (hb : PE X b (pT c E mb)) (hm : behindInMarks .NotIn b = false := by rfl) : PE X (.Compare a [.NotIn] [b] pos) (pT c E (eOp2 (dinD true) ma mb)) := pe_cmp (c_dnin hu ha hb) hm
theorem t_din (hu : X.A.units + 1 < cLine) (ha : PE X a (pT c E ma)) (hb : PE X b (pT c E mb)) (hm : behindInMarks .In b = false := by rfl) : PT X (.Compare a [.In] [b] pos) (pTT c E (eB (eOp2 (dinD false) ma mb))) := (pt_cmp (c_din hu ha hb) hm).imp fun _ _ _ h => tB_of h
theorem t_dnin (hu : X.A.units + 1 < cLine) (ha : PE X a (pT c E ma)) (hb : PE X b (pT c E mb)) (hm : behindInMarks .NotIn b = false := by rfl) : PT X (.Compare a [.NotIn] [b] pos) (pTT c E (eB (eOp2 (dinD true) ma mb))) := (pt_cmp (c_dnin hu ha hb) hm).imp fun _ _ _ h => tB_of h
/-! slices -/
def oNone : EM (Option Int) := pureE none
def oSome (m : EM D) : EM (Option Int) := bindE m fun d => liftO (match d with | .int i => some (some i) | _ => none)
theorem p_none : PO X none (pTO c E oNone) := po_none.imp fun σ H Q ⟨F, ρ, ps, S, h⟩ => post_ok (R := RO) S h rfl
theorem p_some (h : PE X e (pT c E me)) : PO X (some e) (pTO c E (oSome me)) := (po_some h).imp fun σ H Q ⟨F, ρ, ps, S, h⟩ => post_bind S h fun d v F1 ρ1 ps1 H1 s1 S1 r1 h1 => by
  cases d <;> first
    | exact h1.elim
    | skip
  rename_i i
  exact ⟨i, r1, post_ok (R := RO) S1 h1 rfl⟩
def cutD (xs : List D) (lo hi : Option Int) : List D := (xs.drop (HT.sIx xs.length 0 lo)).take (HT.sIx xs.length xs.length hi - HT.sIx xs.length 0 lo)
theorem cut_rep {T : Tab} {pa : Pa} {F : Hp} {ds : List D} {vs : List V} (r : RepL T pa F ds vs) (lo hi : Option Int) : RepL T pa F (cutD ds lo hi) (cutV vs lo hi) := by
  unfold cutD cutV
  rw [r.length]
  exact (r.drop _).take _
/-- t[lo:hi], a tuple -/
def slTD (lo hi : Option Int) : D → Option D
  | .tup xs => some (.tup (cutD xs lo hi))
  | _ => none
def eSlT (m : EM D) (lo hi : EM (Option Int)) : EM D := bindE m fun x => bindE lo fun l => bindE hi fun u => liftO (slTD l u x)
theorem g_slT {lo hi : Option Expr} {ml mh : EM (Option Int)} (he : PE X e (pT c E me)) (hl : PO X lo (pTO c E ml)) (hh : PO X hi (pTO c E mh)) : PE X (.Subscript e (.Slice lo hi none p2) pos) (pT c E (eSlT me ml mh)) :=
  (pe_slice sl_tupA he hl hh).imp fun σ H Q ⟨F, ρ, ps, S, h⟩ => post_bind S h fun d1 v1 F1 ρ1 ps1 H1 s1 S1 r1 h1 => post_bind S1 h1 fun l l' F2 ρ2 ps2 H2 s2 S2 r2 h2 => post_bind S2 h2 fun u u' F3 ρ3 ps3 H3 s3 S3 r3 h3 => by
    cases r2; cases r3
    have h4 := okd_of h3
    cases d1 <;> first
      | exact (okd_none h4).elim
      | skip
    rename_i xs
    obtain ⟨a, vs, rfl, f, rl⟩ := Rep.mono s3 (Rep.mono s2 r1)
    have cr := cut_rep rl l u
    refine ⟨a, vs, rfl, SqT.of (S3.sub _ _ f), fun hw => ?_, fun _ p n => OkD.tup h4 S3 cr n⟩
    have ew : cutD xs l u = xs := by
      unfold cutD
      rw [rl.length, hw.1, hw.2, List.drop_zero, Nat.sub_zero, ← rl.length, List.take_length]
    rw [slTD, ew] at h4
    exact h4.rep S3 ⟨a, vs, rfl, f, rl⟩
/-- xs[lo:hi], a list: a fresh one -/
def lstO : D → Option (List D)
  | .lst xs => some xs
  | _ => none
def fSl (m : EM D) (lo hi : EM (Option Int)) : EM (List D) := bindE m fun x => bindE lo fun l => bindE hi fun u => liftO ((lstO x).map fun xs => cutD xs l u)
theorem new_fresh {F H : Hp} {ρ : En} {ps : Pn} {σ : St} {Q : VK} {ds : List D} {vs : List V} {p : Addr} (S : SR c F H ρ ps σ) (r : RepL c.T c.pa F ds vs) (h : post c E (RF c) Q σ F (pureE ds ρ ps)) (n : H p = none) : Q (.ref p) (upd H p (.lst vs)) :=
  post_ok (R := RF c) (S.alloc (o := .lst vs) n) h ⟨p, vs, rfl, upd_same, r, S.fresh n, fun i z => S.notOwned n i z⟩
theorem lstO_some {d : D} {xs : List D} (h : lstO d = some xs) : d = .lst xs := by
  cases d <;> first | (cases h; rfl) | cases h
theorem f_sl {lo hi : Option Expr} {ml mh : EM (Option Int)} (he : PE X e (pT c E me)) (hl : PO X lo (pTO c E ml)) (hh : PO X hi (pTO c E mh)) : PE X (.Subscript e (.Slice lo hi none p2) pos) (pTF c E (fSl me ml mh)) :=
  (pe_slice sl_list he hl hh).imp fun σ H Q ⟨F, ρ, ps, S, h⟩ => post_bind S h fun d1 v1 F1 ρ1 ps1 H1 s1 S1 r1 h1 => post_bind S1 h1 fun l l' F2 ρ2 ps2 H2 s2 S2 r2 h2 => post_bind S2 h2 fun u u' F3 ρ3 ps3 H3 s3 S3 r3 h3 => by
    cases r2; cases r3
    obtain ⟨zs, ez, h4⟩ := post_some h3
    cases ex : lstO d1 with
    | none => rw [ex] at ez; cases ez
    | some xs =>
      rw [ex] at ez
      cases ez
      have := lstO_some ex; subst this
      obtain ⟨a, vs, rfl, f, rl⟩ := Rep.mono s3 (Rep.mono s2 r1)
      exact ⟨a, vs, rfl, SqL.of (S3.sub _ _ f), fun p n => new_fresh S3 (cut_rep rl l u) h4 n⟩
/-- xs[::-1], a list -/
def fRev (m : EM D) : EM (List D) := bindE m fun x => liftO ((lstO x).map List.reverse)
theorem f_rev {k p1 p3} (he : PE X e (pT c E me)) : PE X (.Subscript e (.Slice none none (some (.UnaryOp .USub (.Constant (.int 1) k p1) p2)) p3) pos) (pTF c E (fRev me)) :=
  (pe_revL he).imp fun σ H Q ⟨F, ρ, ps, S, h⟩ => post_bind S h fun d1 v1 F1 ρ1 ps1 H1 s1 S1 r1 h1 => by
    obtain ⟨zs, ez, h4⟩ := post_some h1
    cases ex : lstO d1 with
    | none => rw [ex] at ez; cases ez
    | some xs =>
      rw [ex] at ez
      cases ez
      have := lstO_some ex; subst this
      obtain ⟨a, vs, rfl, f, rl⟩ := r1
      exact ⟨a, vs, rfl, SqL.of (S1.sub _ _ f), fun p n => new_fresh S1 rl.reverse h4 n⟩
/-- list(x) -/
def seqO : D → Option (List D)
  | .lst xs => some xs
  | .tup xs => some xs
  | _ => none
def fList (ml : EM (List D)) : EM (List D) := bindE ml fun ds => liftO (match ds with | [x] => seqO x | _ => none)
theorem f_list {es : List Expr} (hg : Gl X "list") (hm : X.mg "list" = none) (ha : PA X (e :: es) (pTA c E ml))
    (he : starEach (e :: es) X.env = (false, eval e X.env) :: starEach es X.env := by rfl) (hpl : (backTo pos (starEach es X.env)).any (·.1) = false := by rfl) (hv : bootBuiltins "list" = some (.type "list") := by decide +kernel) : PE X (.Call (.Name "list" p) (e :: es) [] pos) (pTF c E (fList ml)) :=
  (pe_callTy call_list_of hg hm hv ha (by decide) (by decide) he hpl).imp fun σ H Q ⟨F, ρ, ps, S, h⟩ => post_bind S h fun ds vs F1 ρ1 ps1 H1 s1 S1 r1 h1 => by
    obtain ⟨zs, ez, h4⟩ := post_some h1
    cases ds with
    | nil => cases ez
    | cons d ds =>
      cases ds with
      | cons _ _ => cases ez
      | nil =>
        obtain ⟨v, rfl, rv⟩ := rep1 r1
        cases d with
        | lst xs =>
          cases ez
          obtain ⟨a, vs, rfl, f, l⟩ := rv
          exact ⟨a, vs, rfl, .inl (SqL.of (S1.sub _ _ f)), fun p n => new_fresh S1 l h4 n⟩
        | tup xs =>
          cases ez
          obtain ⟨a, vs, rfl, f, l⟩ := rv
          exact ⟨a, vs, rfl, .inr (SqT.of (S1.sub _ _ f)), fun p n => new_fresh S1 l h4 n⟩
        | _ => cases ez
/-- xs + ys, lists -/
def fCat (a b : EM D) : EM (List D) := bindE a fun x => bindE b fun y => liftO ((lstO x).bind fun xs => (lstO y).bind fun ys => if xs.length + ys.length ≤ sizeLine then some (xs ++ ys) else none)
theorem f_cat (ha : PE X a (pT c E ma)) (hb : PE X b (pT c E mb)) : PE X (.BinOp a .Add b pos) (pTF c E (fCat ma mb)) :=
  (pe_op op_cat ha hb).imp fun σ H Q ⟨F, ρ, ps, S, h⟩ => post_bind S h fun d1 v1 F1 ρ1 ps1 H1 s1 S1 r1 h1 => post_bind S1 h1 fun d2 v2 F2 ρ2 ps2 H2 s2 S2 r2 h2 => by
    obtain ⟨zs, ez, h4⟩ := post_some h2
    cases ex : lstO d1 with
    | none => rw [ex] at ez; cases ez
    | some xs =>
      cases ey : lstO d2 with
      | none => rw [ex, ey] at ez; cases ez
      | some ys =>
        rw [ex, ey] at ez
        simp only [Option.bind_some] at ez
        split at ez
        · rename_i hz
          cases ez
          have := lstO_some ex; subst this
          have := lstO_some ey; subst this
          obtain ⟨a, vs, rfl, f, l⟩ := Rep.mono s2 r1
          obtain ⟨b, ws, rfl, g, m⟩ := r2
          exact ⟨a, b, vs, ws, rfl, rfl, S2.sub _ _ f, S2.sub _ _ g, by rw [← l.length, ← m.length]; exact hz, fun p n => new_fresh S2 (l.append m) h4 n⟩
        · cases ez
/-- xs * k, a list -/
def fRep (a b : EM D) : EM (List D) := bindE a fun x => bindE b fun y => liftO ((lstO x).bind fun xs => match y with
  | .int k => if -(2 ^ 63) ≤ k ∧ k < 2 ^ 63 ∧ xs.length * k.toNat ≤ sizeLine then some (List.replicate k.toNat xs).flatten else none
  | _ => none)
theorem f_rep (ha : PE X a (pT c E ma)) (hb : PE X b (pT c E mb)) : PE X (.BinOp a .Mult b pos) (pTF c E (fRep ma mb)) :=
  (pe_op op_rep ha hb).imp fun σ H Q ⟨F, ρ, ps, S, h⟩ => post_bind S h fun d1 v1 F1 ρ1 ps1 H1 s1 S1 r1 h1 => post_bind S1 h1 fun d2 v2 F2 ρ2 ps2 H2 s2 S2 r2 h2 => by
    obtain ⟨zs, ez, h4⟩ := post_some h2
    cases ex : lstO d1 with
    | none => rw [ex] at ez; cases ez
    | some xs =>
      rw [ex] at ez
      cases d2 <;> first
        | (cases (show (none : Option (List D)) = some zs from ez); done)
        | skip
      rename_i k
      simp only [Option.bind_some] at ez
      split at ez
      · rename_i hz
        cases ez
        have := lstO_some ex; subst this
        obtain ⟨a, vs, rfl, f, l⟩ := Rep.mono s2 r1
        exact ⟨a, k, vs, rfl, r2, S2.sub _ _ f, hz.1, hz.2.1, by rw [← l.length]; exact hz.2.2, fun p n => new_fresh S2 (l.rep _) h4 n⟩
      · cases ez
end
end PL

namespace PL
open PySem L2

/-! ### what is walked -/
/-- from F on the walk J yields the items, one a turn -/
def IterOk (c : Ct) (J : It) (items : List D) (F : Hp) : Prop :=
  ∀ (i : Nat) F' H' ρ ps σ, Sub F F' → SR c F' H' ρ ps σ →
    (∀ d, items[i]? = some d → J.go i H' ∧ ∀ x H'', J.yld i H' x H'' → ∃ F'', Sub F' F'' ∧ SR c F'' H'' ρ ps σ ∧ Rep c.T c.pa F'' d x) ∧ (items.length ≤ i → J.stop i H')
def RI (c : Ct) : RG (List D) It := fun F _ _ _ items J => (∀ h : Hp, (∀ a, h a ≠ none → c.H0 a ≠ none ∨ F a = c.F0 a) → IterOk { c with H0 := h } J items F)
abbrev pTI (c : Ct) (E : XK) (m : EM (List D)) : TI := pG c E (RI c) m
theorem _root_.L2.PI.imp {X : Cx} {tg e : Expr} {w w' : TI} (h : PI X tg e w) (k : ∀ σ H R, w' σ H R → w σ H R) : PI X tg e w' := ⟨fun pins s σ H R I q => h.run pins s σ H R I (k σ H R q)⟩

def iSeq (K : PySem.W.Frag) (tl : TE) : TI := fun σ H R => tl σ H fun x H1 => ∃ a, x = .ref a ∧ (((∃ xs, SqL K H1 a xs) ∧ R (Itl K a) H1) ∨ ((∃ xs, SqT K H1 a xs) ∧ R (Itt K a) H1))
theorem pi_seq {X : Cx} {tg l : Expr} {tl : TE} (hl : PE X l tl) : PI X tg l (iSeq X.K tl) := by
  refine ⟨fun pins s σ H R I h => ?_⟩
  refine thn (hl.run pins s σ H _ I h) fun v s1 ⟨x, H1, I1, r1, q1⟩ => ?_
  obtain ⟨a, e, ⟨⟨xs, hq⟩, q⟩ | ⟨⟨xs, hq⟩, q⟩⟩ := q1
  · subst e
    cases r1
    obtain ⟨its, rv, p, hz⟩ := I1.list hq
    refine wpAny_pyIter_list p.isList ?_
    refine ⟨s1.heap.objs.size, [s1.heap.objs.size], _, _, H1, rfl, I1.kept (t' := s1.toks) fun b o e => Heap.get?_push_of_some _ e, turn_list a _, ⟨_, Heap.get?_push_size _ rfl, rfl, rfl⟩, fun b hb => ?_, q⟩
    have e : b = s1.heap.objs.size := by simpa using hb
    subst e
    exact I1.fpOk (Nat.le_refl _) (I1.hok.fresh (Nat.le_refl _))
  · subst e
    cases r1
    obtain ⟨its, rv, p, hz⟩ := I1.tuple hq
    refine wpAny_pyIter_tuple (show s1.heap.IsTuple a its.toArray from p) ?_
    refine ⟨s1.heap.objs.size, [s1.heap.objs.size], _, _, H1, rfl, I1.kept (t' := s1.toks) fun b o e => Heap.get?_push_of_some _ e, turn_tuple a _, ⟨_, Heap.get?_push_size _ rfl, rfl, rfl⟩, fun b hb => ?_, q⟩
    have e : b = s1.heap.objs.size := by simpa using hb
    subst e
    exact I1.fpOk (Nat.le_refl _) (I1.hok.fresh (Nat.le_refl _))

section
variable {X : Cx} {c : Ct} {E : XK} {e a b : Expr} {me ma mb : EM D} {ml : EM (List D)} {tg : Expr} {pos p p2 : Pos}
def iSq (m : EM D) : EM (List D) := bindE m fun d => liftO (seqO d)
theorem ok_itl {c : Ct} {K : PySem.W.Frag} {a : Addr} {vs : List V} {xs : List D} {F : Hp} (f : F a = some (.lst vs)) (l : RepL c.T c.pa F xs vs) : IterOk c (Itl K a) xs F := fun i F' H' ρ ps σ s S => by
  have q : SqL K H' a vs := SqL.of (S.sub _ _ (s _ _ f))
  refine ⟨fun d e => ?_, fun h => ⟨vs, q, by rw [← l.length]; exact h⟩⟩
  obtain ⟨v, ev, rv⟩ := l.get e
  exact ⟨⟨vs, v, q, ev⟩, fun x H'' ⟨e1, e2⟩ => by subst e1; have := e2 vs q; rw [ev] at this; cases this; exact ⟨F', Sub.refl F', S, rv.mono s⟩⟩
theorem ok_itt {c : Ct} {K : PySem.W.Frag} {a : Addr} {vs : List V} {xs : List D} {F : Hp} (f : F a = some (.tup vs)) (l : RepL c.T c.pa F xs vs) : IterOk c (Itt K a) xs F := fun i F' H' ρ ps σ s S => by
  have q : SqT K H' a vs := SqT.of (S.sub _ _ (s _ _ f))
  refine ⟨fun d e => ?_, fun h => ⟨vs, q, by rw [← l.length]; exact h⟩⟩
  obtain ⟨v, ev, rv⟩ := l.get e
  exact ⟨⟨vs, v, q, ev⟩, fun x H'' ⟨e1, e2⟩ => by subst e1; have := e2 vs q; rw [ev] at this; cases this; exact ⟨F', Sub.refl F', S, rv.mono s⟩⟩
theorem i_seq (he : PE X e (pT c E me)) : PI X tg e (pTI c E (iSq me)) :=
  (pi_seq he).imp fun σ H R ⟨F, ρ, ps, S, h⟩ => post_bind S h fun d v F1 ρ1 ps1 H1 s1 S1 r1 h1 => by
    obtain ⟨zs, ez, h4⟩ := post_some h1
    cases d with
    | lst xs =>
      cases ez
      obtain ⟨a, vs, rfl, f, l⟩ := r1
      exact ⟨a, rfl, .inl ⟨⟨vs, SqL.of (S1.sub _ _ f)⟩, post_ok (R := RI c) S1 h4 (fun h _ => ok_itl (c := { c with H0 := h }) f l)⟩⟩
    | tup xs =>
      cases ez
      obtain ⟨a, vs, rfl, f, l⟩ := r1
      exact ⟨a, rfl, .inr ⟨⟨vs, SqT.of (S1.sub _ _ f)⟩, post_ok (R := RI c) S1 h4 (fun h _ => ok_itt (c := { c with H0 := h }) f l)⟩⟩
    | _ => cases ez
/-- a text's signs -/
def iSt (m : EM D) : EM (List D) := bindE m fun d => liftO (match d with | .str s => some (s.cps.toList.map fun ch => .str ⟨#[ch]⟩) | _ => none)
theorem i_str (he : PE X e (pT c E me)) : PI X tg e (pTI c E (iSt me)) :=
  (pi_str he).imp fun σ H R ⟨F, ρ, ps, S, h⟩ => post_bind S h fun d v F1 ρ1 ps1 H1 s1 S1 r1 h1 => by
    obtain ⟨zs, ez, h4⟩ := post_some h1
    cases d with
    | str s =>
      cases ez
      cases r1
      refine ⟨s, rfl, post_ok (R := RI c) S1 h4 (fun h _ i F' H' ρ' ps' σ' sb S' => ⟨fun d e => ?_, fun hl => ?_⟩)⟩
      · rw [List.getElem?_map] at e
        cases ec : s.cps.toList[i]? with
        | none => rw [ec] at e; cases e
        | some ch =>
          rw [ec] at e
          cases e
          have hi : i < s.cps.size := by have := (List.getElem?_eq_some_iff.mp ec).1; simpa using this
          refine ⟨hi, fun x H'' ⟨e1, c', e2, e3⟩ => ?_⟩
          subst e1
          have : c' = ch := by rw [Array.getElem?_toList] at ec; rw [ec] at e2; exact (Option.some.inj e2).symm
          subst this
          exact ⟨F', Sub.refl F', S', e3⟩
      · rw [List.length_map] at hl
        exact (show s.cps.size ≤ i from by simpa using hl)
    | _ => cases ez
/-- range(n), range(a, b) -/
def rngL (lo : Int) (n : Nat) : List D := (List.range n).map fun (k : Nat) => D.int (lo + k)
theorem rng_get {lo : Int} {n i : Nat} : (rngL lo n)[i]? = if i < n then some (.int (lo + i)) else none := by
  unfold rngL
  rw [List.getElem?_map]
  by_cases h : i < n
  · rw [List.getElem?_range h, if_pos h]; rfl
  · rw [List.getElem?_eq_none (by simpa using h), if_neg h]; rfl
theorem rng_len {lo : Int} {n : Nat} : (rngL lo n).length = n := by simp [rngL]
theorem ok_itr {c : Ct} {lo : Int} {n : Nat} {F : Hp} : IterOk c (Itr lo n) (rngL lo n) F := fun i F' H' ρ ps σ s S => by
  refine ⟨fun d e => ?_, fun h => by rw [rng_len] at h; exact h⟩
  rw [rng_get] at e
  split at e
  · rename_i hi
    cases e
    exact ⟨hi, fun x H'' ⟨e1, e2⟩ => by subst e1; exact ⟨F', Sub.refl F', S, e2⟩⟩
  · cases e
def i62 (i : Int) : Bool := decide (-(2 ^ 62) ≤ i) && decide (i < 2 ^ 62)
def iRg (ml : EM (List D)) : EM (List D) := bindE ml fun ds => liftO (match ds with
  | [.int n] => if i62 n = true then some (rngL 0 n.toNat) else none
  | [.int a, .int b] => if i62 a = true ∧ i62 b = true then some (rngL a (b - a).toNat) else none
  | _ => none)
theorem i62_iff {i : Int} (h : i62 i = true) : -(2 ^ 62) ≤ i ∧ i < 2 ^ 62 := by simpa [i62, Bool.and_eq_true] using h
theorem i_rg1 (hg : Gl X "range") (hm : X.mg "range" = none) (ha : PA X [a] (pTA c E ml)) (hs : starEach [a] X.env = [(false, eval a X.env)] := by rfl) (hn : Many 1 ml) : PI X tg (.Call (.Name "range" p) [a] [] pos) (pTI c E (iRg ml)) :=
  (pi_range1 hg hm ha hs).imp fun σ H R ⟨F, ρ, ps, S, h⟩ => args_n hn S h fun ds vs F1 ρ1 ps1 H1 hl s1 S1 r1 h1 => by
    obtain ⟨zs, ez, h4⟩ := post_some h1
    match ds, hl with
    | [d], _ =>
      obtain ⟨v, rfl, rv⟩ := rep1 r1
      cases d with
      | int n =>
        simp only at ez
        split at ez
        · rename_i hz
          cases ez
          cases rv
          obtain ⟨z1, z2⟩ := i62_iff hz
          exact ⟨n, rfl, z1, z2, post_ok (R := RI c) S1 h4 (fun h _ => ok_itr)⟩
        · cases ez
      | _ => cases ez
theorem rep2 {T : Tab} {pa : Pa} {F : Hp} {d e : D} {vs : List V} (r : RepL T pa F [d, e] vs) : ∃ v u, vs = [v, u] ∧ Rep T pa F d v ∧ Rep T pa F e u := by
  obtain ⟨v, vr, ev, r1, r2⟩ := r
  obtain ⟨u, rfl, r3⟩ := rep1 r2
  exact ⟨v, u, ev, r1, r3⟩
theorem i_rg2 (hg : Gl X "range") (hm : X.mg "range" = none) (ha : PA X [a, b] (pTA c E ml)) (hn : Many 2 ml) (hs : starEach [a, b] X.env = [(false, eval a X.env), (false, eval b X.env)] := by rfl) (hs2 : starEach [b] X.env = [(false, eval b X.env)] := by rfl) : PI X tg (.Call (.Name "range" p) [a, b] [] pos) (pTI c E (iRg ml)) :=
  (pi_range2 hg hm ha hs hs2).imp fun σ H R ⟨F, ρ, ps, S, h⟩ => args_n hn S h fun ds vs F1 ρ1 ps1 H1 hl s1 S1 r1 h1 => by
    obtain ⟨zs, ez, h4⟩ := post_some h1
    match ds, hl with
    | [d, d'], _ =>
      obtain ⟨v, u, rfl, rv, ru⟩ := rep2 r1
      cases d with
      | int n =>
        cases d' with
        | int k =>
          simp only at ez
          split at ez
          · rename_i hz
            cases ez
            cases rv; cases ru
            obtain ⟨z1, z2⟩ := i62_iff hz.1
            obtain ⟨z3, z4⟩ := i62_iff hz.2
            exact ⟨n, k, rfl, ⟨z1, z2, z3, z4⟩, post_ok (R := RI c) S1 h4 (fun h _ => ok_itr)⟩
          · cases ez
        | _ => cases ez
      | _ => cases ez
/-- enumerate(list) -/
def enumL : Nat → List D → List D
  | _, [] => []
  | k, d :: ds => .tup [.int k, d] :: enumL (k + 1) ds
theorem enum_get : ∀ (k : Nat) (ds : List D) (i : Nat), (enumL k ds)[i]? = ds[i]?.map fun d => .tup [.int ((k + i : Nat) : Int), d]
  | _, [], i => by simp [enumL]
  | k, d :: ds, 0 => by simp [enumL]
  | k, d :: ds, i + 1 => by
    simp only [enumL, List.getElem?_cons_succ]
    rw [enum_get (k + 1) ds i]
    congr 1
    funext d
    congr 3
    omega
theorem enum_len : ∀ (k : Nat) (ds : List D), (enumL k ds).length = ds.length
  | _, [] => rfl
  | k, d :: ds => by simp [enumL, enum_len (k + 1) ds]
def iEn (ml : EM (List D)) : EM (List D) := bindE ml fun ds => liftO (match ds with | [.lst xs] => some (enumL 0 xs) | _ => none)
theorem pair_new {c : Ct} {F H : Hp} {ρ : En} {ps : Pn} {σ : St} {T : Addr} {d e : D} {x y : V} (S : SR c F H ρ ps σ) (n : H T = none) (r1 : Rep c.T c.pa F d x) (r2 : Rep c.T c.pa F e y) :
    ∃ F'', Sub F F'' ∧ SR c F'' (upd H T (.tup [x, y])) ρ ps σ ∧ Rep c.T c.pa F'' (.tup [d, e]) (.ref T) := by
  obtain ⟨s, S'⟩ := S.new (o := .tup [x, y]) n
  exact ⟨_, s, S', T, [x, y], rfl, upd_same, RepL.cons (r1.mono s) (RepL.one (r2.mono s))⟩
theorem i_en {elts : List Expr} {kk : Nat} {tpos : Pos} (hg : Gl X "enumerate") (hm : X.mg "enumerate" = none) (ha : PA X [a] (pTA c E ml)) (hn : Many 1 ml) (hs : starEach [a] X.env = [(false, eval a X.env)] := by rfl) : PI X (.Tuple elts kk tpos) (.Call (.Name "enumerate" p) [a] [] pos) (pTI c E (iEn ml)) :=
  (pi_enum hg hm ha hs).imp fun σ H R ⟨F, ρ, ps, S, h⟩ => args_n hn S h fun ds vs F1 ρ1 ps1 H1 hl s1 S1 r1 h1 => by
    obtain ⟨zs, ez, h4⟩ := post_some h1
    match ds, hl with
    | [d], _ =>
      obtain ⟨v, rfl, rv⟩ := rep1 r1
      cases d with
      | lst xs =>
        cases ez
        obtain ⟨a, vs, rfl, f, l⟩ := rv
        refine ⟨a, vs, rfl, SqL.of (S1.sub _ _ f), post_ok (R := RI c) S1 h4 (fun h _ i F' H' ρ' ps' σ' sb S' => ?_)⟩
        have q : SqL X.K H' a vs := SqL.of (S'.sub _ _ (sb _ _ f))
        refine ⟨fun d e => ?_, fun hl => ⟨vs, q, by rw [enum_len, l.length] at hl; exact hl⟩⟩
        rw [enum_get] at e
        cases ex : xs[i]? with
        | none => rw [ex] at e; cases e
        | some d' =>
          rw [ex] at e
          cases e
          obtain ⟨v, ev, rv⟩ := l.get ex
          refine ⟨⟨vs, v, q, ev⟩, fun x H'' ⟨T, y1, e1, n, e2, e3⟩ => ?_⟩
          subst e1 e2
          have := e3 vs q
          rw [ev] at this; cases this
          rw [Nat.zero_add]
          exact pair_new S' n rfl (rv.mono sb)
      | _ => cases ez
end

/-! ### for -/
def forL (t : TM) (body : SM) : List D → SM
  | [] => sNil
  | x :: r => fun ρ ps => match t x ρ with
    | none => .stuck
    | some ρ1 => match body ρ1 ps with
      | .nx ρ2 ps2 => forL t body r ρ2 ps2
      | .ct ρ2 ps2 => forL t body r ρ2 ps2
      | .bk ρ2 ps2 => .nx ρ2 ps2
      | .rt d ps2 => .rt d ps2
      | .ex e ρ2 ps2 => .ex e ρ2 ps2
      | .stuck => .stuck
def sFor (mi : EM (List D)) (t : TM) (body : SM) : SM := sBind mi fun items => forL t body items
section
variable {X : Cx} {c : Ct} {E : XK} {tg iter : Expr} {body : List Stmt} {mi : EM (List D)} {g : TG} {t : TM} {ix : List Nat} {mb : SM} {pos : Pos}
theorem s_for (hp : PassesOwn (model X.prog X.w) X.A X.env X.xe) (hc : X.calm = true) (hi : PI X tg iter (pTI c E mi)) (hg : GT X c tg g t ix) (hb : PSs X body (sT c E mb)) (hs : ∀ x, foldedSetIterable iter X.env x = pure x := by intro _; rfl) :
    PS X (.For tg iter body [] pos) (sT c E (sFor mi t mb)) :=
  (ps_for hp hc hi hg.1 hb hs).imp fun D σ H ⟨F, ρ, ps, S, h⟩ => spost_bind S h fun items J F1 ρ1 ps1 H1 s1 S1 r1 h1 => by
    have ok : IterOk c J items F1 := r1 c.H0 fun a n => .inl n
    refine ⟨fun i m σ' H' => m = items.length - i ∧ i ≤ items.length ∧ ∃ F' ρ' ps', Sub F1 F' ∧ SR c F' H' ρ' ps' σ' ∧ spost c E D F' (forL t mb (items.drop i) ρ' ps'), ⟨items.length, by simp, Nat.zero_le _, F1, ρ1, ps1, Sub.refl F1, S1, h1⟩, ?_⟩
    rintro i m σ' H' ⟨rfl, hi, F', ρ', ps', s', S', q⟩
    obtain ⟨k1, k2⟩ := ok i F' H' ρ' ps' σ' s' S'
    by_cases hlt : i < items.length
    · have ei : items[i]? = some items[i] := List.getElem?_eq_getElem hlt
      obtain ⟨go, yl⟩ := k1 _ ei
      refine .inr ⟨go, fun σ2 H2 => ∃ F2 ρ2 ps2, Sub F1 F2 ∧ SR c F2 H2 ρ2 ps2 σ2 ∧ spost c E D F2 (forL t mb (items.drop (i + 1)) ρ2 ps2), fun σ2 H2 ⟨F2, ρ2, ps2, a1, a2, a3⟩ => ⟨items.length - (i + 1), by omega, rfl, hlt, F2, ρ2, ps2, a1, a2, a3⟩, fun x H2 y => ?_⟩
      obtain ⟨F2, s2, S2, rx⟩ := yl x H2 y
      rw [List.drop_eq_getElem_cons hlt] at q
      simp only [forL] at q
      cases et : t items[i] ρ' with
      | none => rw [et] at q; exact q.elim
      | some ρ3 =>
        rw [et] at q
        dsimp only at q
        refine hg.2 F2 H2 ρ' ps' σ' _ x _ ρ3 S2 rx et fun σ3 _ S3 => ⟨F2, ρ3, ps', S3, ?_⟩
        have q := spost.mono s2 q
        cases eb : mb ρ3 ps' with
        | nx ρ4 ps4 => rw [eb] at q; exact fun F4 H4 σ4 s4 S4 => ⟨F4, ρ4, ps4, s'.trans (s2.trans s4), S4, spost.mono s4 q⟩
        | ct ρ4 ps4 => rw [eb] at q; exact fun F4 H4 σ4 s4 S4 => ⟨F4, ρ4, ps4, s'.trans (s2.trans s4), S4, spost.mono s4 q⟩
        | bk ρ4 ps4 => rw [eb] at q; exact q
        | rt d ps4 => rw [eb] at q; exact q
        | ex e ρ4 ps4 => rw [eb] at q; exact q
        | stuck => rw [eb] at q; exact q
    · have e : i = items.length := by omega
      subst e
      rw [List.drop_length] at q
      exact .inl ⟨k2 (Nat.le_refl _), q F' H' σ' (Sub.refl F') S'⟩
end

/-! ### comprehensions -/
def wipeE (ρ : En) : List Nat → En
  | [] => ρ
  | v :: vs => (wipeE ρ vs).set v .un
def backE (ρ0 : En) : List Nat → En → En
  | [], ρ => ρ
  | v :: vs, ρ => (backE ρ0 vs ρ).set v (ρ0.getD v .un)
def tYesE : EM Bool := pureE true
def compL (t : TM) (own : List Nat) (test : EM Bool) (elt : EM D) : List D → List D → EM (List D)
  | [], acc => pureE acc
  | x :: r, acc => fun ρ ps => match t x ρ with
    | none => .stuck
    | some ρ1 => match test ρ1 ps with
      | .ok true ρ2 ps2 => match elt ρ2 ps2 with
        | .ok d ρ3 ps3 => if acc.length < sizeLine then compL t own test elt r (acc ++ [d]) (wipeE ρ3 own) ps3 else .stuck
        | _ => .stuck
      | .ok false ρ2 ps2 => compL t own test elt r acc (wipeE ρ2 own) ps2
      | _ => .stuck
/-- [elt for t in items if test], the block's own names at own -/
def fComp (mi : EM (List D)) (t : TM) (own : List Nat) (test : EM Bool) (elt : EM D) : EM (List D) := bindE mi fun items => fun ρ ps =>
  if own.all (fun i => decide (i < ρ.length) && !isOwn (ρ.getD i .un)) = true then
    match compL t own test elt items [] (wipeE ρ own) ps with
    | .ok acc ρ' ps' => .ok acc (backE ρ own ρ') ps'
    | _ => .stuck
  else .stuck
theorem SR.wipe {c : Ct} {F H : Hp} {ρ : En} {ps : Pn} {σ : St} (S : SR c F H ρ ps σ) : ∀ {own : List Nat}, (∀ i ∈ own, i < ρ.length) → SR c F H (wipeE ρ own) ps (wipe σ own) ∧ (wipeE ρ own).length = ρ.length
  | [], _ => ⟨S, rfl⟩
  | v :: vs, h => by
    obtain ⟨S1, l1⟩ := SR.wipe S (own := vs) fun i hi => h i (List.mem_cons_of_mem _ hi)
    refine ⟨S1.setUn (by rw [l1]; exact h v List.mem_cons_self), ?_⟩
    show ((wipeE ρ vs).set v .un).length = _
    rw [List.length_set, l1]
theorem back_len (ρ0 ρ : En) : ∀ own : List Nat, (backE ρ0 own ρ).length = ρ.length
  | [] => rfl
  | v :: vs => by show ((backE ρ0 vs ρ).set v _).length = _; rw [List.length_set, back_len ρ0 ρ vs]
theorem back_get (ρ0 ρ : En) (j : Nat) : ∀ own : List Nat, (backE ρ0 own ρ)[j]? = if j ∈ own ∧ j < ρ.length then some (ρ0.getD j .un) else ρ[j]?
  | [] => by simp [backE]
  | v :: vs => by
    show ((backE ρ0 vs ρ).set v _)[j]? = _
    by_cases e : v = j
    · subst e
      by_cases hl : v < ρ.length
      · rw [List.getElem?_set_self (by rw [back_len]; exact hl), if_pos ⟨List.mem_cons_self, hl⟩]
      · rw [if_neg (fun z => hl z.2), List.getElem?_eq_none (by rw [List.length_set, back_len]; omega), List.getElem?_eq_none (by omega)]
    · rw [List.getElem?_set_ne e, back_get ρ0 ρ j vs]
      have : (j ∈ v :: vs ∧ j < ρ.length) ↔ (j ∈ vs ∧ j < ρ.length) := by
        rw [List.mem_cons]
        constructor
        · rintro ⟨h | h, h2⟩
          · exact absurd h.symm e
          · exact ⟨h, h2⟩
        · exact fun ⟨h, h2⟩ => ⟨.inr h, h2⟩
      by_cases hc : j ∈ vs ∧ j < ρ.length
      · rw [if_pos hc, if_pos (this.mpr hc)]
      · rw [if_neg hc, if_neg (fun z => hc (this.mp z))]
theorem wipe_get {σ : St} {j : Nat} : ∀ {own : List Nat}, j ∉ own → (wipe σ own)[j]? = σ[j]?
  | [], _ => rfl
  | v :: vs, h => by
    show ((wipe σ vs).set v none)[j]? = _
    rw [List.getElem?_set_ne (fun z => h (by simp [z])), wipe_get fun z => h (List.mem_cons_of_mem _ z)]
theorem wipe_in {σ : St} {j : Nat} : ∀ {own : List Nat}, j ∈ own → j < σ.length → (wipe σ own)[j]? = some none
  | v :: vs, h, hl => by
    show ((wipe σ vs).set v none)[j]? = _
    by_cases e : v = j
    · subst e
      exact List.getElem?_set_self (by rw [wipe_length]; exact hl)
    · rw [List.getElem?_set_ne e]
      exact wipe_in (by rcases List.mem_cons.mp h with z | z; exact absurd z.symm e; exact z) hl
theorem wipe_chg {σ σ' : St} {ix own : List Nat} (k : Chg ix σ σ') (h : ∀ i ∈ ix, i ∈ own) : wipe σ' own = wipe σ own := by
  apply List.ext_getElem?
  intro j
  by_cases hj : j ∈ own
  · by_cases hl : j < σ.length
    · rw [wipe_in hj hl, wipe_in hj (by rw [k.1]; exact hl)]
    · rw [List.getElem?_eq_none (by rw [wipe_length, k.1]; omega), List.getElem?_eq_none (by rw [wipe_length]; omega)]
  · rw [wipe_get hj, wipe_get hj]
    exact k.2 j fun z => hj (h j z)
theorem wipe_wipe {σ : St} (own : List Nat) : wipe (wipe σ own) own = wipe σ own := by
  apply List.ext_getElem?
  intro j
  by_cases hj : j ∈ own
  · by_cases hl : j < σ.length
    · rw [wipe_in hj (by rw [wipe_length]; exact hl), wipe_in hj hl]
    · rw [List.getElem?_eq_none (by rw [wipe_length, wipe_length]; omega), List.getElem?_eq_none (by rw [wipe_length]; omega)]
  · rw [wipe_get hj]
/-- behind the block the outer names stand as they stood -/
theorem SR.back {c : Ct} {F0 F H0 H : Hp} {ρ0 ρ : En} {ps0 ps : Pn} {σ : St} {own : List Nat} (S0 : SR c F0 H0 ρ0 ps0 σ) (s : Sub F0 F) (S : SR c F H ρ ps (L2.wipe σ own)) (no : ∀ i ∈ own, isOwn (ρ0.getD i .un) = false) : SR c F H (backE ρ0 own ρ) ps σ := by
  have lw : (L2.wipe σ own).length = σ.length := wipe_length σ own
  have own1 : ∀ i p, Owns (backE ρ0 own ρ) σ i p → Owns ρ (L2.wipe σ own) i p := fun i p ⟨sl, e1, e2, e3⟩ => by
    rw [back_get] at e1
    by_cases hc : i ∈ own ∧ i < ρ.length
    · rw [if_pos hc] at e1
      cases e1
      rw [no i hc.1] at e2; cases e2
    · rw [if_neg hc] at e1
      have hi : i ∉ own := fun z => hc ⟨z, (List.getElem?_eq_some_iff.mp e1).1⟩
      exact ⟨sl, e1, e2, by rw [wipe_get hi]; exact e3⟩
  refine ⟨S.sub, S.keep, S.grow, S.base, by rw [back_len, ← S.len, lw], fun i sl e => ?_, fun i j p a b => S.sep i j p (own1 i p a) (own1 j p b), S.pen⟩
  rw [back_get] at e
  by_cases hc : i ∈ own ∧ i < ρ.length
  · rw [if_pos hc] at e
    cases e
    have hi : i < ρ0.length := by rw [← S0.len, ← lw, S.len]; exact hc.2
    have hg : ρ0[i]? = some (ρ0.getD i .un) := by
      rw [List.getD_eq_getElem?_getD, List.getElem?_eq_getElem hi]; rfl
    obtain ⟨o, e1, r⟩ := S0.slot i _ hg
    refine ⟨o, e1, ?_⟩
    have nn := no i hc.1
    revert r nn
    generalize ρ0.getD i Slot.un = sl
    intro r nn
    cases sl with
    | un => trivial
    | v d => obtain ⟨v, e2, r2⟩ := r; exact ⟨v, e2, r2.mono s⟩
    | ol xs => cases nn
    | od ks xs => cases nn
    | oi cn ns xs => cases nn
  · rw [if_neg hc] at e
    have hi : i ∉ own := fun z => hc ⟨z, (List.getElem?_eq_some_iff.mp e).1⟩
    obtain ⟨o, e1, r⟩ := S.slot i sl e
    exact ⟨o, by rw [wipe_get hi] at e1; exact e1, r⟩
/-- one thing more is to be kept -/
abbrev Ct.and (c : Ct) (p : Addr) (o : HO) : Ct := { c with H0 := upd c.H0 p o }
theorem SR.and {c : Ct} {F H : Hp} {ρ : En} {ps : Pn} {σ : St} {p : Addr} {o : HO} (S : SR c F H ρ ps σ) (e : H p = some o) (w : Own c F p) (no : ∀ i, ¬ Owns ρ σ i p) : SR (c.and p o) F H ρ ps σ := by
  have nb : c.F0 p = none := by
    cases q : c.F0 p with
    | none => rfl
    | some u => have := S.base _ _ q; rw [w.nf] at this; cases this
  refine ⟨S.sub, fun a u q n => ?_, fun a n => ?_, S.base, S.len, fun i sl q => ?_, S.sep, S.pen⟩
  · by_cases z : a = p
    · subst z
      have : upd c.H0 a o a = some u := q
      rw [upd_same] at this; cases this; exact e
    · have : upd c.H0 p o a = some u := q
      rw [upd_ne z] at this
      exact S.keep a u this n
  · by_cases z : a = p
    · subst z; rw [w.nf]; exact nb.symm
    · have : upd c.H0 p o a ≠ none := n
      rw [upd_ne z] at this
      exact S.grow a this
  · obtain ⟨ov, e1, r⟩ := S.slot i sl q
    refine ⟨ov, e1, ?_⟩
    cases sl with
    | un => trivial
    | v d => exact r
    | ol xs =>
      obtain ⟨p', vs, e2, e3, r, w'⟩ := r
      have ne : p' ≠ p := fun z => no i ⟨_, q, rfl, by rw [e1, e2, z]⟩
      exact ⟨p', vs, e2, e3, r, ⟨w'.nf, by show upd c.H0 p o p' = none; rw [upd_ne ne]; exact w'.n0, w'.np⟩⟩
    | od ks xs =>
      obtain ⟨p', vs, e2, e3, r, w'⟩ := r
      have ne : p' ≠ p := fun z => no i ⟨_, q, rfl, by rw [e1, e2, z]⟩
      exact ⟨p', vs, e2, e3, r, ⟨w'.nf, by show upd c.H0 p o p' = none; rw [upd_ne ne]; exact w'.n0, w'.np⟩⟩
    | oi cn ns xs =>
      obtain ⟨p', dx, fs, e2, e3, e4, e5, r, w'⟩ := r
      have ne : p' ≠ p := fun z => no i ⟨_, q, rfl, by rw [e1, e2, z]⟩
      exact ⟨p', dx, fs, e2, e3, e4, e5, r, ⟨w'.nf, by show upd c.H0 p o p' = none; rw [upd_ne ne]; exact w'.n0, w'.np⟩⟩
theorem SR.un {c : Ct} {F H : Hp} {ρ : En} {ps : Pn} {σ : St} {p : Addr} {o : HO} (n0 : c.H0 p = none) (np : c.pa.at ≠ some p) (S : SR (c.and p o) F H ρ ps σ) : SR c F H ρ ps σ ∧ H p = some o ∧ F p = c.F0 p ∧ ∀ i, ¬ Owns ρ σ i p := by
  have up : ∀ a u, c.H0 a = some u → (c.and p o).H0 a = some u := fun a u q => by
    show upd c.H0 p o a = some u
    rw [upd_ne (ne_of_none q n0)]; exact q
  have at_ : (c.and p o).H0 p = some o := upd_same
  have wk : ∀ p', Own (c.and p o) F p' → Own c F p' := fun p' w => by
    refine ⟨w.nf, ?_, w.np⟩
    cases q : c.H0 p' with
    | none => rfl
    | some u =>
      have z := up _ _ q
      rw [w.n0] at z
      cases z
  refine ⟨⟨S.sub, fun a u q n => S.keep a u (up a u q) n, fun a n => ?_, S.base, S.len, fun i sl q => ?_, S.sep, S.pen⟩, S.keep p o at_ np, S.grow p (by rw [at_]; simp), fun i ⟨sl, e1, e2, e3⟩ => ?_⟩
  · cases q : c.H0 a with
    | none => exact absurd q n
    | some u => exact S.grow a (by rw [up a u q]; simp)
  · obtain ⟨ov, e1, r⟩ := S.slot i sl q
    refine ⟨ov, e1, ?_⟩
    cases sl with
    | un => trivial
    | v d => exact r
    | ol xs => obtain ⟨p', vs, e2, e3, r, w⟩ := r; exact ⟨p', vs, e2, e3, r, wk p' w⟩
    | od ks xs => obtain ⟨p', vs, e2, e3, r, w⟩ := r; exact ⟨p', vs, e2, e3, r, wk p' w⟩
    | oi cn ns xs => obtain ⟨p', dx, fs, e2, e3, e4, e5, r, w⟩ := r; exact ⟨p', dx, fs, e2, e3, e4, e5, r, wk p' w⟩
  · obtain ⟨ov, e4, r⟩ := S.slot i sl e1
    rw [e3] at e4; cases e4
    cases sl with
    | un => cases e2
    | v d => cases e2
    | ol xs => obtain ⟨p', vs, e5, e6, r, w⟩ := r; cases e5; rw [w.n0] at at_; cases at_
    | od ks xs => obtain ⟨p', vs, e5, e6, r, w⟩ := r; cases e5; rw [w.n0] at at_; cases at_
    | oi cn ns xs => obtain ⟨p', dx, fs, e5, e6, e7, e8, r, w⟩ := r; cases e5; rw [w.n0] at at_; cases at_

section
variable {X : Cx} {c : Ct} {E : XK} {elt tg iter : Expr} {ifs : List Expr} {scope : Scope} {own : List (Str × Nat)} {pos : Pos} {mi : EM (List D)} {g : TG} {t : TM} {ix : List Nat} {mt : EM Bool} {me : EM D}
theorem ts_nil {c : Ct} {E : XK} : PTs X [] (pTT c E tYesE) := pts_nil.imp fun σ H Q ⟨F, ρ, ps, S, h⟩ => post_ok (R := RB) S h rfl
theorem ts_one {c : Ct} {E : XK} {cc : Expr} {m : EM Bool} (h : PT X cc (pTT c E m)) : PTs X [cc] (pTT c E m) := pts_one h
abbrev cT (c : Ct) (mt : EM Bool) : TT := fun σ H Q => ∃ h : Hp, pTT { c with H0 := h } E0 mt σ H Q
abbrev cE (c : Ct) (me : EM D) : TE := fun σ H Q => ∃ h : Hp, pT { c with H0 := h } E0 me σ H Q
theorem comp_read (hix : ∀ i ∈ ix, i ∈ own.map (·.2))
    (hg2 : ∀ (h : Hp) (F H : Hp) (ρ : En) (ps : Pn) (σ : St) (d : D) (v : V) (Q : St → Hp → Prop) (ρ' : En), SR { c with H0 := h } F H ρ ps σ → Rep c.T c.pa F d v → t d ρ = some ρ' → (∀ σ', Chg ix σ σ' → SR { c with H0 := h } F H ρ' ps σ' → Q σ' H) → g v σ H Q)
    {σ : St} {H : Hp} {Q : VK} (h : pTF c E (fComp mi t (own.map (·.2)) mt me) σ H Q) : tLc (pTI c E mi) g (cT c mt) (cE c me) (own.map (·.2)) σ H Q := by
  obtain ⟨F, ρ, ps, S, h⟩ := h
  refine post_bind S h fun items J F1 ρ1 ps1 H1 s1 S1 r1 h1 => ?_
  intro Dd nD
  generalize hown : own.map (·.2) = ow at h1 hix ⊢
  by_cases hal : ow.all (fun i => decide (i < ρ1.length) && !isOwn (ρ1.getD i .un)) = true
  case neg => rw [if_neg hal] at h1; exact h1.elim
  rw [if_pos hal] at h1
  have hal' : ∀ i ∈ ow, i < ρ1.length ∧ isOwn (ρ1.getD i .un) = false := fun i hi => by
    have := List.all_eq_true.mp hal i hi
    simpa [Bool.and_eq_true] using this
  obtain ⟨Sw, _⟩ := S1.wipe (own := ow) fun i hi => (hal' i hi).1
  have w0 := S1.fresh nD
  have nb : c.F0 Dd = none := by
    cases q : c.F0 Dd with
    | none => rfl
    | some u => have := S1.base _ _ q; rw [w0.nf] at this; cases this
  -- the invariant
  refine ⟨fun i m H' => m = items.length - i ∧ i ≤ items.length ∧ ∃ F' ρ' ps' acc vs, Sub F1 F' ∧ SR (c.and Dd (.lst vs)) F' H' ρ' ps' (L2.wipe σ ow) ∧ RepL c.T c.pa F' acc vs ∧
      post c E (RF c) Q σ F' (match compL t ow mt me (items.drop i) acc ρ' ps' with
        | .ok acc ρ' ps' => .ok acc (backE ρ1 ow ρ') ps'
        | _ => .stuck), ⟨items.length, by simp, Nat.zero_le _, F1, wipeE ρ1 ow, ps1, [], [], Sub.refl F1, ?_, RepL.nil, h1⟩, ?_⟩
  · exact (Sw.alloc (o := .lst []) nD).and upd_same w0 fun i z => Sw.notOwned nD i z
  rintro i m H' ⟨rfl, hi, F', ρ', ps', acc, vs, s', S', ra, q⟩
  obtain ⟨S'c, eD, fD, noD⟩ := SR.un w0.n0 w0.np S'
  have wD : Own c F' Dd := ⟨fD.trans nb, w0.n0, w0.np⟩
  have okc : IterOk (c.and Dd (.lst vs)) J items F1 := r1 (upd c.H0 Dd (.lst vs)) fun a n => by
    by_cases z : a = Dd
    · subst z; exact .inr (w0.nf.trans nb.symm)
    · rw [upd_ne z] at n; exact .inl n
  obtain ⟨k1, k2⟩ := okc i F' H' ρ' ps' (L2.wipe σ ow) s' S'
  by_cases hlt : i < items.length
  · have ei : items[i]? = some items[i] := List.getElem?_eq_getElem hlt
    obtain ⟨go, yl⟩ := k1 _ ei
    refine .inr ⟨go, fun H2 => ∃ F2 ρ2 ps2 acc2 vs2, Sub F1 F2 ∧ SR (c.and Dd (.lst vs2)) F2 H2 ρ2 ps2 (L2.wipe σ ow) ∧ RepL c.T c.pa F2 acc2 vs2 ∧
      post c E (RF c) Q σ F2 (match compL t ow mt me (items.drop (i + 1)) acc2 ρ2 ps2 with
        | .ok acc ρ' ps' => .ok acc (backE ρ1 ow ρ') ps'
        | _ => .stuck), fun H2 ⟨F2, ρ2, ps2, acc2, vs2, a⟩ => ⟨items.length - (i + 1), by omega, rfl, hlt, F2, ρ2, ps2, acc2, vs2, a⟩, fun x H2 y => ?_⟩
    obtain ⟨F2, s2, S2, rx⟩ := yl x H2 y
    rw [List.drop_eq_getElem_cons hlt] at q
    simp only [compL] at q
    cases et : t items[i] ρ' with
    | none => rw [et] at q; exact q.elim
    | some ρ3 =>
      rw [et] at q
      dsimp only at q
      refine hg2 (upd c.H0 Dd (.lst vs)) F2 H2 ρ' ps' _ _ x _ ρ3 S2 rx et fun σ3 k3 S3 => ⟨(wipe_chg k3 hix).trans (wipe_wipe ow), ?_⟩
      have wσ : L2.wipe σ3 ow = L2.wipe σ ow := (wipe_chg k3 hix).trans (wipe_wipe ow)
      have len3 : ∀ {ρ4 : En} {F4 H4 : Hp} {ps4 : Pn} {c4 : Ct}, SR c4 F4 H4 ρ4 ps4 σ3 → ∀ i ∈ ow, i < ρ4.length := fun {ρ4 F4 H4 ps4 c4} S4 i hi => by
        rw [← S4.len, k3.1, wipe_length, S1.len]
        exact (hal' i hi).1
      -- the test
      refine ⟨upd c.H0 Dd (.lst vs), F2, ρ3, ps', S3, ?_⟩
      cases em : mt ρ3 ps' with
      | stuck => rw [em] at q; exact q.elim
      | ex e ρ4 ps4 => rw [em] at q; exact q.elim
      | ok b ρ4 ps4 =>
        rw [em] at q
        intro b' F4 H4 s4 S4 eb
        have eb' : b = b' := eb
        subst eb'
        cases b with
        | false =>
          dsimp only at q
          refine iteF ?_
          have S5 := (S4.wipe (own := ow) (len3 S4)).1
          rw [wσ] at S5
          exact ⟨F4, wipeE ρ4 ow, ps4, acc, vs, s'.trans (s2.trans s4), S5, ra.mono (s2.trans s4), q.mono (s2.trans s4)⟩
        | true =>
          dsimp only at q
          refine iteT ⟨upd c.H0 Dd (.lst vs), F4, ρ4, ps4, S4, ?_⟩
          cases ee : me ρ4 ps4 with
          | stuck => rw [ee] at q; exact q.elim
          | ex e ρ5 ps5 => rw [ee] at q; exact q.elim
          | ok d ρ5 ps5 =>
            rw [ee] at q
            dsimp only at q
            intro y F5 H5 s5 S5 rd
            by_cases hz : acc.length < sizeLine
            case neg => rw [if_neg hz] at q; exact q.elim
            rw [if_pos hz] at q
            obtain ⟨S5c, e5, f5, no5⟩ := SR.un w0.n0 w0.np S5
            have S6 := (S5c.wipe (own := ow) (len3 S5)).1
            rw [wσ] at S6
            have w5 : Own c F5 Dd := ⟨f5.trans nb, w0.n0, w0.np⟩
            have no6 : ∀ i, ¬ Owns (wipeE ρ5 ow) (L2.wipe σ ow) i Dd := fun i z => by
              have S6' := (S5.wipe (own := ow) (len3 S5)).1
              rw [wσ] at S6'
              exact (SR.un w0.n0 w0.np S6').2.2.2 i z
            have s15 : Sub F' F5 := s2.trans (s4.trans s5)
            refine ⟨vs, e5, by rw [← ra.length]; exact hz, F5, wipeE ρ5 ow, ps5, acc ++ [d], vs ++ [y], s'.trans s15, ?_, (ra.mono s15).append (RepL.one rd), q.mono s15⟩
            -- the new list's write: nobody else has it
            have S7 : SR c F5 (upd H5 Dd (.lst (vs ++ [y]))) (wipeE ρ5 ow) ps5 (L2.wipe σ ow) := by
              refine ⟨fun a u z => ?_, fun a u z n => ?_, S6.grow, S6.base, S6.len, fun j sl z => ?_, S6.sep, ?_⟩
              · rw [upd_ne (fun k => by rw [k, w5.nf] at z; cases z)]; exact S6.sub a u z
              · rw [upd_ne (fun k => by rw [k, w0.n0] at z; cases z)]; exact S6.keep a u z n
              · obtain ⟨ov, e1, r⟩ := S6.slot j sl z
                refine ⟨ov, e1, ?_⟩
                cases sl with
                | un => trivial
                | v d => exact r
                | ol xs =>
                  obtain ⟨p', us, e2, e3, r, w'⟩ := r
                  have ne : p' ≠ Dd := fun k => no6 j ⟨_, z, rfl, by rw [e1, e2, k]⟩
                  exact ⟨p', us, e2, by rw [upd_ne ne]; exact e3, r, w'⟩
                | od ks xs =>
                  obtain ⟨p', us, e2, e3, r, w'⟩ := r
                  have ne : p' ≠ Dd := fun k => no6 j ⟨_, z, rfl, by rw [e1, e2, k]⟩
                  exact ⟨p', us, e2, by rw [upd_ne ne]; exact e3, r, w'⟩
                | oi cn ns xs =>
                  obtain ⟨p', dx, fs, e2, e3, e4, e7, r, w'⟩ := r
                  have ne : p' ≠ Dd := fun k => no6 j ⟨_, z, rfl, by rw [e1, e2, k]⟩
                  exact ⟨p', dx, fs, e2, by rw [upd_ne ne]; exact e3, by rw [upd_ne (ne_of e4 e5 (by intro k; cases k))]; exact e4, e7, r, w'⟩
              · have hp := S6.pen
                unfold PenR at hp ⊢
                cases ep : c.pa with
                | none => trivial
                | some pp =>
                  obtain ⟨pp, ca⟩ := pp
                  rw [ep] at hp
                  obtain ⟨q1, q2, q3⟩ := hp
                  exact ⟨by rw [upd_ne (fun k => w0.np (by rw [ep, ← k]; rfl))]; exact q1, q2, q3⟩
            exact S7.and upd_same w5 no6
  · have e : i = items.length := by omega
    subst e
    rw [List.drop_length] at q
    refine .inl ⟨k2 (Nat.le_refl _), ?_⟩
    have q' : post c E (RF c) Q σ F' (.ok acc (backE ρ1 ow ρ') ps') := q
    have Sb : SR c F' H' (backE ρ1 ow ρ') ps' σ := S1.back s' S'c fun i hi => (hal' i hi).2
    refine q' _ F' H' (Sub.refl F') Sb ⟨Dd, vs, rfl, eD, ra, wD, fun i ⟨sl, e1, e2, e3⟩ => ?_⟩
    rw [back_get] at e1
    by_cases hc : i ∈ ow ∧ i < ρ'.length
    · rw [if_pos hc] at e1
      cases e1
      rw [(hal' i hc.1).2] at e2; cases e2
    · rw [if_neg hc] at e1
      have hi : i ∉ ow := fun z => hc ⟨z, (List.getElem?_eq_some_iff.mp e1).1⟩
      exact noD i ⟨sl, e1, e2, by rw [wipe_get hi]; exact e3⟩
theorem f_comp (hc : X.calm = true) (hN : X.N.Nodup) (hi : PI X tg iter (pTI c E mi)) (ok : BlkOk X.N X.env.scope scope own) (hix : ∀ i ∈ ix, i ∈ own.map (·.2))
    (hg : ∀ (h : Hp) (s : Shared) (H : Hp) (C : Addr) (cl : List (Str × Addr)) (fp : List Addr), GT (X.blk s H scope (compEnvC scope cl C X.env) fp) { c with H0 := h } tg g t ix)
    (ht : ∀ (h : Hp) (s : Shared) (H : Hp) (C : Addr) (cl : List (Str × Addr)) (fp : List Addr), PTs (X.blk s H scope (compEnvC scope cl C X.env) fp) ifs (pTT { c with H0 := h } E0 mt))
    (he : ∀ (h : Hp) (s : Shared) (H : Hp) (C : Addr) (cl : List (Str × Addr)) (fp : List Addr), PE (X.blk s H scope (compEnvC scope cl C X.env) fp) elt (pT { c with H0 := h } E0 me)) (hs : ∀ x, foldedSetIterable iter X.env x = pure x := by intro _; rfl) :
    PE X (.ListComp elt [⟨tg, iter, ifs, 0⟩] scope pos) (pTF c E (fComp mi t (own.map (·.2)) mt me)) := by
  have hT : ∀ (s : Shared) (H : Hp) (C : Addr) (cl : List (Str × Addr)) (fp : List Addr), PTs (X.blk s H scope (compEnvC scope cl C X.env) fp) ifs (cT c mt) := fun s H C cl fp => ⟨fun pins s' σ H' Q I ⟨h, q⟩ => (ht h s H C cl fp).run pins s' σ H' Q I q⟩
  have hE : ∀ (s : Shared) (H : Hp) (C : Addr) (cl : List (Str × Addr)) (fp : List Addr), PE (X.blk s H scope (compEnvC scope cl C X.env) fp) elt (cE c me) := fun s H C cl fp => ⟨fun pins s' σ H' Q I ⟨h, q⟩ => (he h s H C cl fp).run pins s' σ H' Q I q⟩
  exact ⟨fun pins sh σ H Q I h => (pe_lc hc hN hi ok (fun s H C cl fp => (hg c.H0 s H C cl fp).1) hT hE hs).run pins sh σ H Q I (comp_read hix (fun h => (hg h sh H 0 [] []).2) h)⟩
/-- name = [..], a plain local name: the block stores it -/
def sSetC (i : Nat) (m : EM (List D)) : SM := sBind m fun ds ρ ps => if i < ρ.length then .nx (ρ.set i (.v (.lst ds))) ps else .stuck
theorem setC_post {i : Nat} {m : EM (List D)} {D : Ends} {σ : St} {H : Hp} (h : sT c E (sSetC i m) D σ H) : pTF c E m σ H fun x H1 => D.nx (σ.set i (some x)) H1 := by
  obtain ⟨F, ρ, ps, S, h⟩ := h
  refine spost_bind S h fun ds v F1 ρ1 ps1 H1 s S1 r h1 => ?_
  by_cases hl : i < ρ1.length
  · rw [if_pos hl] at h1
    obtain ⟨p, vs, rfl, e, rl, w, no⟩ := r
    exact h1 _ H1 _ (sub_upd w.nf) ((S1.freeze e w no).setV hl ⟨p, vs, rfl, upd_same, rl.mono (sub_upd w.nf)⟩)
  · rw [if_neg hl] at h1; exact h1.elim
theorem ownC_post {i : Nat} {m : EM (List D)} {D : Ends} {σ : St} {H : Hp} (h : sT c E (sOwnS i m) D σ H) : pTF c E m σ H fun x H1 => D.nx (σ.set i (some x)) H1 := by
  obtain ⟨F, ρ, ps, S, h⟩ := h
  refine spost_bind S h fun ds v F1 ρ1 ps1 H1 s S1 r h1 => ?_
  by_cases hl : i < ρ1.length
  · rw [if_pos hl] at h1
    obtain ⟨p, vs, ev, e1, rl, w, no⟩ := r
    subst ev
    exact h1 F1 H1 _ (Sub.refl F1) (S1.set hl ⟨p, vs, rfl, e1, rl, w⟩ fun _ q eq => by cases eq; exact no)
  · rw [if_neg hl] at h1; exact h1.elim
section
variable {i : Nat} {y : Str} {py spos : Pos} (hc : X.calm = true) (hN : X.N.Nodup) (hy : X.N[i]? = some y) (hyl : X.env.scope.names.lookup y = some .local)
    (hsw : swapsWith (.ListComp elt [⟨tg, iter, ifs, 0⟩] scope pos) (some (.Name y py)) spos.line X.env = pure true) (hi : PI X tg iter (pTI c E mi)) (ok : BlkOk X.N X.env.scope scope own) (hix : ∀ i ∈ ix, i ∈ own.map (·.2))
    (hg : ∀ (h : Hp) (s : Shared) (H : Hp) (C : Addr) (cl : List (Str × Addr)) (fp : List Addr), GT (X.blk s H scope (compEnvC scope cl C X.env) fp) { c with H0 := h } tg g t ix)
    (ht : ∀ (h : Hp) (s : Shared) (H : Hp) (C : Addr) (cl : List (Str × Addr)) (fp : List Addr), PTs (X.blk s H scope (compEnvC scope cl C X.env) fp) ifs (pTT { c with H0 := h } E0 mt))
    (he : ∀ (h : Hp) (s : Shared) (H : Hp) (C : Addr) (cl : List (Str × Addr)) (fp : List Addr), PE (X.blk s H scope (compEnvC scope cl C X.env) fp) elt (pT { c with H0 := h } E0 me)) (hs : ∀ x, foldedSetIterable iter X.env x = pure x := by intro _; rfl)
include hc hN hy hyl hsw hi ok hix hg ht he hs in
theorem s_setLc {m : SM} (rd : ∀ {D : Ends} {σ : St} {H : Hp}, sT c E m D σ H → pTF c E (fComp mi t (own.map (·.2)) mt me) σ H fun x H1 => D.nx (σ.set i (some x)) H1) : PS X (.Assign [.Name y py] (.ListComp elt [⟨tg, iter, ifs, 0⟩] scope pos) spos) (sT c E m) := by
  have hT : ∀ (s : Shared) (H : Hp) (C : Addr) (cl : List (Str × Addr)) (fp : List Addr), PTs (X.blk s H scope (compEnvC scope cl C X.env) fp) ifs (cT c mt) := fun s H C cl fp => ⟨fun pins s' σ H' Q I ⟨h, q⟩ => (ht h s H C cl fp).run pins s' σ H' Q I q⟩
  have hE : ∀ (s : Shared) (H : Hp) (C : Addr) (cl : List (Str × Addr)) (fp : List Addr), PE (X.blk s H scope (compEnvC scope cl C X.env) fp) elt (cE c me) := fun s H C cl fp => ⟨fun pins s' σ H' Q I ⟨h, q⟩ => (he h s H C cl fp).run pins s' σ H' Q I q⟩
  exact ⟨fun pins sh σ H D I h => (ps_setLc hc hN hy hyl hsw hi ok (fun s H C cl fp => (hg c.H0 s H C cl fp).1) hT hE hs).run pins sh σ H D I (comp_read hix (fun h => (hg h sh H 0 [] []).2) (rd h))⟩
include hc hN hy hyl hsw hi ok hix hg ht he hs in
theorem s_setC : PS X (.Assign [.Name y py] (.ListComp elt [⟨tg, iter, ifs, 0⟩] scope pos) spos) (sT c E (sSetC i (fComp mi t (own.map (·.2)) mt me))) := s_setLc hc hN hy hyl hsw hi ok hix hg ht he hs setC_post
include hc hN hy hyl hsw hi ok hix hg ht he hs in
theorem s_ownC : PS X (.Assign [.Name y py] (.ListComp elt [⟨tg, iter, ifs, 0⟩] scope pos) spos) (sT c E (sOwnS i (fComp mi t (own.map (·.2)) mt me))) := s_setLc hc hN hy hyl hsw hi ok hix hg ht he hs ownC_post
end
end
end PL

namespace PL
open PySem L2

/-! ### a name that holds an owned list -/
def isOl (ρ : En) (i : Nat) : Bool := match ρ[i]? with
  | some (.ol _) => true
  | _ => false
theorem isOl_at {ρ : En} {i : Nat} (h : isOl ρ i = true) : ∃ xs, ρ[i]? = some (.ol xs) := by
  unfold isOl at h
  split at h
  · exact ⟨_, by assumption⟩
  · cases h
/-- name.append(e) -/
def sApp (i : Nat) (m : EM D) : SM := fun ρ ps => if isOl ρ i = true then sBind m (fun d ρ ps => match ρ[i]? with
  | some (.ol xs) => if xs.length < sizeLine then .nx (ρ.set i (.ol (xs ++ [d]))) ps else .stuck
  | _ => .stuck) ρ ps else .stuck
/-- name.extend(e) -/
def sExt (i : Nat) (m : EM D) : SM := fun ρ ps => if isOl ρ i = true then sBind m (fun d ρ ps => match ρ[i]?, d with
  | some (.ol xs), .lst ys => if xs.length + ys.length ≤ sizeLine then .nx (ρ.set i (.ol (xs ++ ys))) ps else .stuck
  | _, _ => .stuck) ρ ps else .stuck
/-- name.pop() -/
def ePop (i : Nat) : EM D := fun ρ ps => match ρ[i]? with
  | some (.ol xs) => match xs[xs.length - 1]? with
    | some d => .ok d (ρ.set i (.ol xs.dropLast)) ps
    | none => .stuck
  | _ => .stuck
/-- name.pop(e) -/
def ePopAt (i : Nat) (m : EM D) : EM D := fun ρ ps => if isOl ρ i = true then bindE m (fun d ρ ps => match ρ[i]?, d with
  | some (.ol xs), .int k => if 0 ≤ k ∧ k < xs.length ∧ xs.length ≤ 1000000 then match xs[k.toNat]? with
      | some y => .ok y (ρ.set i (.ol (xs.eraseIdx k.toNat))) ps
      | none => .stuck
    else .stuck
  | _, _ => .stuck) ρ ps else .stuck
/-- the owned list is frozen: from here on it is a value -/
def sFrz (i : Nat) : SM := fun ρ ps => match ρ[i]? with
  | some (.ol xs) => .nx (ρ.set i (.v (.lst xs))) ps
  | _ => .nx ρ ps
/-- the owned lists at these slots as values -/
def frzS (i : Nat) (ρ : En) : En := match ρ[i]? with
  | some (.ol xs) => ρ.set i (.v (.lst xs))
  | _ => ρ
def frzL : List Nat → En → En
  | [], ρ => ρ
  | i :: is, ρ => frzL is (frzS i ρ)
/-- an expression that looks at the owned lists (all of them at is) and gives a flat value -/
def eView (is : List Nat) (m : EM D) : EM D := fun ρ ps => if (frzL is ρ).all (fun s => !isOwn s) = true then
    match m (frzL is ρ) ps with
    | .ok d _ ps' => if flatC d = true then .ok d ρ ps' else .stuck
    | _ => .stuck
  else .stuck
def bView (is : List Nat) (m : EM Bool) : EM Bool := fun ρ ps => if (frzL is ρ).all (fun s => !isOwn s) = true then
    match m (frzL is ρ) ps with
    | .ok d _ ps' => .ok d ρ ps'
    | _ => .stuck
  else .stuck
section
variable {X : Cx} {c : Ct} {E : XK} {e a b : Expr} {es : List Expr} {me ma mb : EM D} {mf ml : EM (List D)} {pos p p2 apos : Pos} {x : Str} {i : Nat}
theorem ol_at {F H : Hp} {ρ : En} {ps : Pn} {σ : St} {xs : List D} (S : SR c F H ρ ps σ) (e : ρ[i]? = some (.ol xs)) : ∃ q vs, σ[i]? = some (some (.ref q)) ∧ H q = some (.lst vs) ∧ RepL c.T c.pa F xs vs ∧ Own c F q := by
  obtain ⟨o, e1, q, vs, e2, r⟩ := S.slot i _ e
  exact ⟨q, vs, by rw [e1, e2], r⟩
theorem ol_write {F H : Hp} {ρ : En} {ps : Pn} {σ : St} {xs ys : List D} {q : Addr} {vs ws : List V} (S : SR c F H ρ ps σ) (e : ρ[i]? = some (.ol xs)) (eq : σ[i]? = some (some (.ref q))) (eH : H q = some (.lst vs)) (w : Own c F q) (r : RepL c.T c.pa F ys ws) : SR c F (upd H q (.lst ws)) (ρ.set i (.ol ys)) ps σ :=
  S.write e rfl eq w (fun x z => by rw [eH] at z; cases z) ⟨q, ws, rfl, upd_same, r, w⟩
theorem tyL {K : PySem.W.Frag} {H : Hp} {q : Addr} {vs : List V} (e : H q = some (.lst vs)) : tyV K "list" (.ref q) H := .inl ⟨rfl, vs, SqL.of e⟩
theorem s_app (hN : X.N[i]? = some x) (hv : Vis X.env.scope x) (he : PE X e (pT c E me))
    (hbase : attributeBase (.Name x p) "append" X.env (eval (.Name x p) X.env) = eval (.Name x p) X.env := by rfl)
    (hfew : ((backTo p2 (starEach [e] X.env)).all (fun x => !x.1) && (backToKw p2 (keywordEach [] X.env)).all (fun x => x.1.isSome) && decide ([e].length + ([] : List Keyword).length + (if ([] : List Keyword).isEmpty then 0 else 1) < 30)) = true := by rfl)
    (hline : (apos.endLine == p2.line) = true := by rfl) (hs : starEach [e] X.env = (false, eval e X.env) :: starEach [] X.env := by rfl) (hsw : swapsWith (.Call (.Attribute (.Name x p) "append" apos) [e] [] p2) none pos.line X.env = pure false := by rfl)
    (hd : (x == ("__debug__" : Str)) = false := by decide) (hcd : (x == ("__classdict__" : Str)) = false := by decide) :
    PS X (.Expr (.Call (.Attribute (.Name x p) "append" apos) [e] [] p2) pos) (sT c E (sApp i me)) :=
  (ps_expr (pe_bm PySem.F.plainAttrs_list PySem.F.slot_list_append PySem.F.type_list_append mt_append (pv i hN hv hd hcd) (pa_cons he pa_nil hs) hbase hfew hline hs rfl) hsw).imp fun D σ H ⟨F, ρ, ps, S, h⟩ => by
    unfold sApp at h
    by_cases ho : isOl ρ i = true
    case neg => rw [if_neg ho] at h; exact h.elim
    rw [if_pos ho] at h
    obtain ⟨xs0, e0⟩ := isOl_at ho
    obtain ⟨q, vs0, eq, eH, _, _⟩ := ol_at S e0
    refine ⟨_, eq, tyL eH, spost_bind S h fun d v F1 ρ1 ps1 H1 s1 S1 r1 h1 => ?_⟩
    cases er : ρ1[i]? with
    | none => rw [er] at h1; exact h1.elim
    | some sl =>
      rw [er] at h1
      cases sl with
      | ol xs =>
        dsimp only at h1
        by_cases hz : xs.length < sizeLine
        case neg => rw [if_neg hz] at h1; exact h1.elim
        rw [if_pos hz] at h1
        obtain ⟨q', vs, e1, e2, l, w⟩ := ol_at S1 er
        rw [eq] at e1; cases e1
        exact ⟨q, vs, v, rfl, rfl, e2, by rw [← l.length]; exact hz, h1 F1 _ σ (Sub.refl F1) (ol_write S1 er eq e2 w (l.append (RepL.one r1)))⟩
      | _ => exact h1.elim
theorem s_ext (hN : X.N[i]? = some x) (hv : Vis X.env.scope x) (he : PE X e (pT c E me))
    (hbase : attributeBase (.Name x p) "extend" X.env (eval (.Name x p) X.env) = eval (.Name x p) X.env := by rfl)
    (hfew : ((backTo p2 (starEach [e] X.env)).all (fun x => !x.1) && (backToKw p2 (keywordEach [] X.env)).all (fun x => x.1.isSome) && decide ([e].length + ([] : List Keyword).length + (if ([] : List Keyword).isEmpty then 0 else 1) < 30)) = true := by rfl)
    (hline : (apos.endLine == p2.line) = true := by rfl) (hs : starEach [e] X.env = (false, eval e X.env) :: starEach [] X.env := by rfl) (hsw : swapsWith (.Call (.Attribute (.Name x p) "extend" apos) [e] [] p2) none pos.line X.env = pure false := by rfl)
    (hd : (x == ("__debug__" : Str)) = false := by decide) (hcd : (x == ("__classdict__" : Str)) = false := by decide) :
    PS X (.Expr (.Call (.Attribute (.Name x p) "extend" apos) [e] [] p2) pos) (sT c E (sExt i me)) :=
  (ps_expr (pe_bm PySem.F.plainAttrs_list PySem.F.slot_list_extend PySem.F.type_list_extend mt_extend (pv i hN hv hd hcd) (pa_cons he pa_nil hs) hbase hfew hline hs rfl) hsw).imp fun D σ H ⟨F, ρ, ps, S, h⟩ => by
    unfold sExt at h
    by_cases ho : isOl ρ i = true
    case neg => rw [if_neg ho] at h; exact h.elim
    rw [if_pos ho] at h
    obtain ⟨xs0, e0⟩ := isOl_at ho
    obtain ⟨q, vs0, eq, eH, _, _⟩ := ol_at S e0
    refine ⟨_, eq, tyL eH, spost_bind S h fun d v F1 ρ1 ps1 H1 s1 S1 r1 h1 => ?_⟩
    cases er : ρ1[i]? with
    | none => rw [er] at h1; exact h1.elim
    | some sl =>
      rw [er] at h1
      cases sl with
      | ol xs =>
        cases d with
        | lst ys =>
          dsimp only at h1
          by_cases hz : xs.length + ys.length ≤ sizeLine
          case neg => rw [if_neg hz] at h1; exact h1.elim
          rw [if_pos hz] at h1
          obtain ⟨q', vs, e1, e2, l, w⟩ := ol_at S1 er
          rw [eq] at e1; cases e1
          obtain ⟨b, ws, rfl, f, m⟩ := r1
          exact ⟨q, b, vs, ws, rfl, rfl, e2, S1.sub _ _ f, by rw [← l.length, ← m.length]; exact hz, h1 F1 _ σ (Sub.refl F1) (ol_write S1 er eq e2 w (l.append m))⟩
        | _ => exact h1.elim
      | _ => exact h1.elim
theorem g_pop (hN : X.N[i]? = some x) (hv : Vis X.env.scope x)
    (hbase : attributeBase (.Name x p) "pop" X.env (eval (.Name x p) X.env) = eval (.Name x p) X.env := by rfl) (hline : (apos.endLine == p2.line) = true := by rfl)
    (hd : (x == ("__debug__" : Str)) = false := by decide) (hcd : (x == ("__classdict__" : Str)) = false := by decide) : PE X (.Call (.Attribute (.Name x p) "pop" apos) [] [] p2) (pT c E (ePop i)) :=
  (pe_bm0 PySem.F.plainAttrs_list PySem.F.slot_list_pop PySem.F.type_list_pop mt_pop (pv i hN hv hd hcd) hbase hline).imp fun σ H Q ⟨F, ρ, ps, S, h⟩ => by
    unfold ePop at h
    cases er : ρ[i]? with
    | none => rw [er] at h; exact h.elim
    | some sl =>
      rw [er] at h
      cases sl with
      | ol xs =>
        dsimp only at h
        cases ex : xs[xs.length - 1]? with
        | none => rw [ex] at h; exact h.elim
        | some d =>
          rw [ex] at h
          obtain ⟨q, vs, eq, e2, l, w⟩ := ol_at S er
          obtain ⟨v, ev, rv⟩ := l.get ex
          exact ⟨_, eq, tyL e2, q, vs, v, rfl, rfl, e2, by rw [← l.length]; exact ev, h v F _ (Sub.refl F) (ol_write S er eq e2 w l.dropLast) rv⟩
      | _ => exact h.elim
theorem g_popAt (hN : X.N[i]? = some x) (hv : Vis X.env.scope x) (he : PE X e (pT c E me))
    (hbase : attributeBase (.Name x p) "pop" X.env (eval (.Name x p) X.env) = eval (.Name x p) X.env := by rfl)
    (hfew : ((backTo p2 (starEach [e] X.env)).all (fun x => !x.1) && (backToKw p2 (keywordEach [] X.env)).all (fun x => x.1.isSome) && decide ([e].length + ([] : List Keyword).length + (if ([] : List Keyword).isEmpty then 0 else 1) < 30)) = true := by rfl)
    (hline : (apos.endLine == p2.line) = true := by rfl) (hs : starEach [e] X.env = (false, eval e X.env) :: starEach [] X.env := by rfl)
    (hd : (x == ("__debug__" : Str)) = false := by decide) (hcd : (x == ("__classdict__" : Str)) = false := by decide) :
    PE X (.Call (.Attribute (.Name x p) "pop" apos) [e] [] p2) (pT c E (ePopAt i me)) :=
  (pe_bm PySem.F.plainAttrs_list PySem.F.slot_list_pop PySem.F.type_list_pop mt_popAt (pv i hN hv hd hcd) (pa_cons he pa_nil hs) hbase hfew hline hs rfl).imp fun σ H Q ⟨F, ρ, ps, S, h⟩ => by
    unfold ePopAt at h
    by_cases ho : isOl ρ i = true
    case neg => rw [if_neg ho] at h; exact h.elim
    rw [if_pos ho] at h
    obtain ⟨xs0, e0⟩ := isOl_at ho
    obtain ⟨q, vs0, eq, eH, _, _⟩ := ol_at S e0
    refine ⟨_, eq, tyL eH, post_bind S h fun d v F1 ρ1 ps1 H1 s1 S1 r1 h1 => ?_⟩
    cases er : ρ1[i]? with
    | none => rw [er] at h1; exact h1.elim
    | some sl =>
      rw [er] at h1
      cases sl with
      | ol xs =>
        cases d with
        | int k =>
          dsimp only at h1
          by_cases hz : 0 ≤ k ∧ k < xs.length ∧ xs.length ≤ 1000000
          case neg => rw [if_neg hz] at h1; exact h1.elim
          rw [if_pos hz] at h1
          cases ex : xs[k.toNat]? with
          | none => rw [ex] at h1; exact h1.elim
          | some d =>
            rw [ex] at h1
            obtain ⟨q', vs, e1, e2, l, w⟩ := ol_at S1 er
            rw [eq] at e1; cases e1
            cases r1
            obtain ⟨v, ev, rv⟩ := l.get ex
            exact ⟨q, vs, k, k.toNat, v, rfl, rfl, e2, by omega, by omega, PySem.StrLaws.seqIndex_nonneg hz.1 (by rw [← l.length]; exact hz.2.1), ev, h1 v F1 _ (Sub.refl F1) (ol_write S1 er eq e2 w (l.eraseIdx _)) rv⟩
        | _ => exact h1.elim
      | _ => exact h1.elim
/-- frozen in place -/
theorem SR.frzAt {F H : Hp} {ρ : En} {ps : Pn} {σ : St} {xs : List D} (S : SR c F H ρ ps σ) (e : ρ[i]? = some (.ol xs)) : ∃ q vs, σ[i]? = some (some (.ref q)) ∧ H q = some (.lst vs) ∧ Own c F q ∧ RepL c.T c.pa F xs vs ∧ Sub F (upd F q (.lst vs)) ∧ SR c (upd F q (.lst vs)) H (ρ.set i (.v (.lst xs))) ps σ := by
  obtain ⟨q, vs, eq, eH, l, w⟩ := ol_at S e
  have s := sub_upd (o := .lst vs) w.nf
  have S0 : SR c F H (ρ.set i .un) ps σ := S.retell (s' := .un) e (fun _ _ => trivial) fun z => by cases z
  have no : ∀ j, ¬ Owns (ρ.set i .un) σ j q := fun j ⟨t, t1, t2, t3⟩ => by
    by_cases hj : j = i
    · subst hj
      rw [List.getElem?_set_self (List.getElem?_eq_some_iff.mp e).1] at t1; cases t1; cases t2
    · rw [List.getElem?_set_ne (Ne.symm hj)] at t1
      exact hj (S.sep j i q ⟨t, t1, t2, t3⟩ ⟨_, e, rfl, eq⟩)
  have S1 := S0.freeze (o := .lst vs) eH w no
  have e' : (ρ.set i Slot.un)[i]? = some .un := List.getElem?_set_self (List.getElem?_eq_some_iff.mp e).1
  have S2 := S1.retell (s' := .v (.lst xs)) e' (fun o z => by rw [eq] at z; cases z; exact ⟨.ref q, rfl, q, vs, rfl, upd_same, l.mono s⟩) fun z => by cases z
  rw [List.set_set] at S2
  exact ⟨q, vs, eq, eH, w, l, s, S2⟩
theorem s_frz {st : Stmt} {m : SM} (h : PS X st (sT c E m)) : PS X st (sT c E (sSeq (sFrz i) m)) := h.imp fun D σ H ⟨F, ρ, ps, S, h⟩ => by
  unfold sSeq sFrz at h
  cases er : ρ[i]? with
  | none => rw [er] at h; exact ⟨F, ρ, ps, S, h⟩
  | some sl =>
    rw [er] at h
    cases sl with
    | ol xs =>
      obtain ⟨q, vs, _, _, _, _, s, S'⟩ := S.frzAt er
      exact ⟨_, _, ps, S', spost.mono s h⟩
    | _ => exact ⟨F, ρ, ps, S, h⟩
theorem rep_flatC {T : Tab} {pa : Pa} {F F' : Hp} {d : D} {v : V} (f : flatC d = true) (r : Rep T pa F d v) : Rep T pa F' d v := by
  cases d <;> first | (cases (show false = true from f); done) | exact r
theorem frzS_get {ρ : En} {j : Nat} : (frzS i ρ)[j]? = match ρ[j]? with
    | some (.ol xs) => if j = i then some (.v (.lst xs)) else some (.ol xs)
    | o => o := by
  unfold frzS
  by_cases e : j = i
  · subst e
    cases er : ρ[j]? with
    | none => simp [er]
    | some sl =>
      cases sl with
      | ol xs => simp only [if_true]; exact List.getElem?_set_self (List.getElem?_eq_some_iff.mp er).1
      | _ => simp [er]
  · have : (match ρ[i]? with
      | some (.ol xs) => ρ.set i (.v (.lst xs))
      | _ => ρ)[j]? = ρ[j]? := by
      split
      · exact List.getElem?_set_ne (Ne.symm e)
      · rfl
    rw [this]
    cases ρ[j]? with
    | none => rfl
    | some sl => cases sl <;> simp [e]
theorem SR.frzS {F H : Hp} {ρ : En} {ps : Pn} {σ : St} (i : Nat) (S : SR c F H ρ ps σ) : ∃ F', Sub F F' ∧ SR c F' H (frzS i ρ) ps σ := by
  cases er : ρ[i]? with
  | none => refine ⟨F, Sub.refl F, ?_⟩; unfold PL.frzS; rw [er]; exact S
  | some sl =>
    cases sl with
    | ol xs =>
      obtain ⟨q, vs, _, _, _, _, s, S'⟩ := S.frzAt er
      refine ⟨_, s, ?_⟩
      unfold PL.frzS; rw [er]; exact S'
    | _ => refine ⟨F, Sub.refl F, ?_⟩; unfold PL.frzS; rw [er]; exact S
theorem SR.frzL {H : Hp} {ps : Pn} {σ : St} : ∀ (is : List Nat) {F : Hp} {ρ : En}, SR c F H ρ ps σ → ∃ F', Sub F F' ∧ SR c F' H (frzL is ρ) ps σ
  | [], F, ρ, S => ⟨F, Sub.refl F, S⟩
  | i :: is, F, ρ, S => by
    obtain ⟨F1, s1, S1⟩ := SR.frzS i S
    obtain ⟨F2, s2, S2⟩ := SR.frzL is S1
    exact ⟨F2, s1.trans s2, S2⟩
theorem frzL_get {j : Nat} {xs : List D} : ∀ {is : List Nat} {ρ : En}, ρ[j]? = some (.ol xs) → (PL.frzL is ρ)[j]? = some (.ol xs) ∨ (PL.frzL is ρ)[j]? = some (.v (.lst xs))
  | [], ρ, e => .inl e
  | i :: is, ρ, e => by
    have g : (PL.frzS i ρ)[j]? = if j = i then some (.v (.lst xs)) else some (.ol xs) := by rw [frzS_get, e]
    by_cases z : j = i
    · rw [if_pos z] at g
      refine .inr ?_
      show (PL.frzL is (PL.frzS i ρ))[j]? = _
      exact keepV g
    · rw [if_neg z] at g
      exact frzL_get (is := is) g
where
  keepV : ∀ {is : List Nat} {ρ : En} {d : D}, ρ[j]? = some (.v d) → (PL.frzL is ρ)[j]? = some (.v d)
  | [], ρ, d, e => e
  | i :: is, ρ, d, e => by
    show (PL.frzL is (PL.frzS i ρ))[j]? = _
    exact keepV (by rw [frzS_get, e])
theorem frzL_oi {j : Nat} {cn : Str} {ns : List Str} {xs : List D} : ∀ {is : List Nat} {ρ : En}, ρ[j]? = some (.oi cn ns xs) → (PL.frzL is ρ)[j]? = some (.oi cn ns xs)
  | [], ρ, e => e
  | i :: is, ρ, e => by
    show (PL.frzL is (PL.frzS i ρ))[j]? = _
    exact frzL_oi (by rw [frzS_get, e])
theorem frzL_od {j : Nat} {ks : List Key} {xs : List D} : ∀ {is : List Nat} {ρ : En}, ρ[j]? = some (.od ks xs) → (PL.frzL is ρ)[j]? = some (.od ks xs)
  | [], ρ, e => e
  | i :: is, ρ, e => by
    show (PL.frzL is (PL.frzS i ρ))[j]? = _
    exact frzL_od (by rw [frzS_get, e])
/-- behind a view all stands as it stood -/
theorem SR.unview {F F0 F1 H H1 : Hp} {ρ ρ1 : En} {ps ps1 : Pn} {σ : St} {is : List Nat} (S : SR c F H ρ ps σ) (hn : (PL.frzL is ρ).all (fun s => !isOwn s) = true) (s0 : Sub F F0) (S0 : SR c F0 H (PL.frzL is ρ) ps σ) (s1 : Sub F0 F1) (S1 : SR c F1 H1 ρ1 ps1 σ) : SR c F H1 ρ ps1 σ := by
  have no : ∀ j sl, (PL.frzL is ρ)[j]? = some sl → isOwn sl = false := fun j sl e => by
    have := List.all_eq_true.mp hn sl (List.mem_of_getElem? e)
    simpa using this
  refine ⟨(s0.trans s1).trans S1.sub, S1.keep, S.grow, S.base, S.len, fun j sl e => ?_, S.sep, ?_⟩
  · obtain ⟨o, e1, r⟩ := S.slot j sl e
    refine ⟨o, e1, ?_⟩
    cases sl with
    | un => trivial
    | v d => exact r
    | ol xs =>
      obtain ⟨q, vs, e2, e3, l, w⟩ := r
      rcases frzL_get (is := is) e with z | z
      · cases no j _ z
      · obtain ⟨o', e1', v', e4, q', vs', e5, e6, _⟩ := S0.slot j _ z
        have : q' = q := by rw [e1] at e1'; cases e1'; rw [e2] at e4; cases e4; exact (V.ref.inj e5).symm
        subst this
        have : vs' = vs := by have := S0.sub _ _ e6; rw [e3] at this; cases this; rfl
        subst this
        exact ⟨q', vs', e2, S1.sub _ _ (s1 _ _ e6), l, w⟩
    | od ks xs => cases no j _ (frzL_od (is := is) e)
    | oi cn ns xs => cases no j _ (frzL_oi (is := is) e)
  · have h1 := S1.pen
    have h0 := S.pen
    unfold PenR at h0 h1 ⊢
    cases hp : c.pa with
    | none => trivial
    | some q =>
      obtain ⟨q, ca⟩ := q
      rw [hp] at h0 h1
      obtain ⟨a1, a2, a3⟩ := h0
      obtain ⟨b1, b2, b3⟩ := h1
      have z := (s0.trans s1) _ _ a2
      refine ⟨b1, ?_, a3⟩
      rw [z] at b2
      rw [a2]
      exact b2
theorem g_view {is : List Nat} (h : PE X e (pT c E me)) : PE X e (pT c E (eView is me)) := h.imp fun σ H Q ⟨F, ρ, ps, S, h⟩ => by
  unfold eView at h
  by_cases hn : (PL.frzL is ρ).all (fun s => !isOwn s) = true
  case neg => rw [if_neg hn] at h; exact h.elim
  rw [if_pos hn] at h
  obtain ⟨F0, s0, S0⟩ := SR.frzL is S
  refine ⟨F0, _, ps, S0, ?_⟩
  cases em : me (PL.frzL is ρ) ps with
  | stuck => rw [em] at h; exact h
  | ex x ρ1 ps1 => rw [em] at h; exact h.elim
  | ok d ρ1 ps1 =>
    rw [em] at h
    dsimp only at h
    by_cases hf : flatC d = true
    case neg => rw [if_neg hf] at h; exact h.elim
    rw [if_pos hf] at h
    exact fun v F1 H1 s1 S1 r => h v F H1 (Sub.refl F) (S.unview hn s0 S0 s1 S1) (rep_flatC hf r)
theorem t_view {is : List Nat} {m : EM Bool} (h : PT X e (pTT c E m)) : PT X e (pTT c E (bView is m)) := h.imp fun σ H Q ⟨F, ρ, ps, S, h⟩ => by
  unfold bView at h
  by_cases hn : (PL.frzL is ρ).all (fun s => !isOwn s) = true
  case neg => rw [if_neg hn] at h; exact h.elim
  rw [if_pos hn] at h
  obtain ⟨F0, s0, S0⟩ := SR.frzL is S
  refine ⟨F0, _, ps, S0, ?_⟩
  cases em : m (PL.frzL is ρ) ps with
  | stuck => rw [em] at h; exact h
  | ex x ρ1 ps1 => rw [em] at h; exact h.elim
  | ok d ρ1 ps1 =>
    rw [em] at h
    exact fun v F1 H1 s1 S1 r => h v F H1 (Sub.refl F) (S.unview hn s0 S0 s1 S1) r
end

/-! ### an item of an owned list; a frozen thing of it -/
/-- name[e] of an owned list -/
def eOix (i : Nat) (m : EM D) : EM D := fun ρ ps => if isOl ρ i = true then bindE m (fun d ρ ps => match ρ[i]?, d with
  | some (.ol xs), .int k => match atI xs k with
    | some y => .ok y ρ ps
    | none => .stuck
  | _, _ => .stuck) ρ ps else .stuck
/-- tuple(name) -/
def eOtup (i : Nat) : EM D := fun ρ ps => match ρ[i]? with
  | some (.ol xs) => .ok (.tup xs) ρ ps
  | _ => .stuck
/-- list(name) -/
def fOlist (i : Nat) : EM (List D) := fun ρ ps => match ρ[i]? with
  | some (.ol xs) => .ok xs ρ ps
  | _ => .stuck
section
variable {X : Cx} {c : Ct} {E : XK} {e a b : Expr} {es : List Expr} {me ma mb : EM D} {mf ml : EM (List D)} {pos p p2 apos : Pos} {x : Str} {i : Nat}
theorem g_oix (hN : X.N[i]? = some x) (hv : Vis X.env.scope x) (he : PE X e (pT c E me)) (hs : PlainIx e := by exact fun _ _ => rfl)
    (hd : (x == ("__debug__" : Str)) = false := by decide) (hcd : (x == ("__classdict__" : Str)) = false := by decide) : PE X (.Subscript (.Name x p) e pos) (pT c E (eOix i me)) :=
  (pe_ix ix_list (pv i hN hv hd hcd) he hs).imp fun σ H Q ⟨F, ρ, ps, S, h⟩ => by
    unfold eOix at h
    by_cases ho : isOl ρ i = true
    case neg => rw [if_neg ho] at h; exact h.elim
    rw [if_pos ho] at h
    obtain ⟨xs0, e0⟩ := isOl_at ho
    obtain ⟨q, vs0, eq, eH, _, _⟩ := ol_at S e0
    refine ⟨_, eq, post_bind S h fun d v F1 ρ1 ps1 H1 s1 S1 r1 h1 => ?_⟩
    cases er : ρ1[i]? with
    | none => rw [er] at h1; exact h1.elim
    | some sl =>
      rw [er] at h1
      cases sl with
      | ol xs =>
        cases d with
        | int k =>
          dsimp only at h1
          cases ex : atI xs k with
          | none => rw [ex] at h1; exact h1.elim
          | some d =>
            rw [ex] at h1
            obtain ⟨q', vs, e1, e2, l, w⟩ := ol_at S1 er
            rw [eq] at e1; cases e1
            obtain ⟨v', ev, rv⟩ := atI_rep l ex
            exact ⟨q, vs, k, v', rfl, r1, SqL.of e2, ev, h1 v' F1 H1 (Sub.refl F1) S1 rv⟩
        | _ => exact h1.elim
      | _ => exact h1.elim
theorem g_otup (hN : X.N[i]? = some x) (hv : Vis X.env.scope x) (hg : Gl X "tuple") (hm : X.mg "tuple" = none)
    (hs : starEach [.Name x p] X.env = (false, eval (.Name x p) X.env) :: starEach [] X.env := by rfl) (hb : bootBuiltins "tuple" = some (.type "tuple") := by decide +kernel)
    (hd : (x == ("__debug__" : Str)) = false := by decide) (hcd : (x == ("__classdict__" : Str)) = false := by decide) : PE X (.Call (.Name "tuple" p2) [.Name x p] [] pos) (pT c E (eOtup i)) :=
  (pe_callTy call_tuple_of hg hm hb (pa_cons (pv i hN hv hd hcd) pa_nil hs) (by decide) (by decide) hs rfl).imp fun σ H Q ⟨F, ρ, ps, S, h⟩ => by
    unfold eOtup at h
    cases er : ρ[i]? with
    | none => rw [er] at h; exact h.elim
    | some sl =>
      rw [er] at h
      cases sl with
      | ol xs =>
        obtain ⟨q, vs, e1, e2, l, w⟩ := ol_at S er
        exact ⟨_, e1, q, vs, rfl, .inl ⟨SqL.of e2, fun p n => OkD.tup ⟨_, rfl, h⟩ S l n⟩⟩
      | _ => exact h.elim
theorem f_olist (hN : X.N[i]? = some x) (hv : Vis X.env.scope x) (hg : Gl X "list") (hm : X.mg "list" = none)
    (hs : starEach [.Name x p] X.env = (false, eval (.Name x p) X.env) :: starEach [] X.env := by rfl) (hb : bootBuiltins "list" = some (.type "list") := by decide +kernel)
    (hd : (x == ("__debug__" : Str)) = false := by decide) (hcd : (x == ("__classdict__" : Str)) = false := by decide) : PE X (.Call (.Name "list" p2) [.Name x p] [] pos) (pTF c E (fOlist i)) :=
  (pe_callTy call_list_of hg hm hb (pa_cons (pv i hN hv hd hcd) pa_nil hs) (by decide) (by decide) hs rfl).imp fun σ H Q ⟨F, ρ, ps, S, h⟩ => by
    unfold fOlist at h
    cases er : ρ[i]? with
    | none => rw [er] at h; exact h.elim
    | some sl =>
      rw [er] at h
      cases sl with
      | ol xs =>
        obtain ⟨q, vs, e1, e2, l, w⟩ := ol_at S er
        exact ⟨_, e1, q, vs, rfl, .inl (SqL.of e2), fun p n => new_fresh S l h n⟩
      | _ => exact h.elim
end

/-! ### the pen is written -/
def sPen (k : Nat) (m : EM D) : SM := sBind m fun d ρ ps => match k, d with
  | 1, .int i => .nx ρ { ps with turn := i }
  | 2, .int i => .nx ρ { ps with rest := i }
  | _, _ => .stuck
section
variable {X : Cx} {c : Ct} {E : XK} {e : Expr} {me : EM D} {pos p p2 apos : Pos} {x : Str} {i k : Nat}
theorem SR.penW {F H : Hp} {ρ : En} {ps ps' : Pn} {σ : St} {q ca : Addr} (S : SR c F H ρ ps σ) (ep : c.pa = some (q, ca)) (ec : ps'.cells = ps.cells) : SR c F (upd H q (.lst [.ref ca, .int ps'.turn, .int ps'.rest])) ρ ps' σ := by
  have hp := S.pen
  unfold PenR at hp
  rw [ep] at hp
  obtain ⟨h1, h2, h3⟩ := hp
  have k : ∀ a u, a ≠ q → H a = some u → upd H q (.lst [.ref ca, .int ps'.turn, .int ps'.rest]) a = some u := fun a u n z => by rw [upd_ne n]; exact z
  have at_ : c.pa.at = some q := by rw [ep]; rfl
  have nw : ∀ a, Own c F a → a ≠ q := fun a w z => w.np (by rw [at_, z])
  refine ⟨fun a u z => k a u (fun y => by rw [y, h3] at z; cases z) (S.sub a u z), fun a u z n => k a u (fun y => n (by rw [at_, y])) (S.keep a u z n), S.grow, S.base, S.len, fun j sl z => ?_, S.sep, ?_⟩
  · obtain ⟨o, e1, r⟩ := S.slot j sl z
    refine ⟨o, e1, ?_⟩
    cases sl with
    | un => trivial
    | v d => exact r
    | ol xs => obtain ⟨p', vs, e2, e3, l, w⟩ := r; exact ⟨p', vs, e2, k _ _ (nw _ w) e3, l, w⟩
    | od ks xs => obtain ⟨p', vs, e2, e3, l, w⟩ := r; exact ⟨p', vs, e2, k _ _ (nw _ w) e3, l, w⟩
    | oi cn ns xs => obtain ⟨p', dx, fs, e2, e3, e4, e5, l, w⟩ := r; exact ⟨p', dx, fs, e2, k _ _ (nw _ w) e3, k _ _ (ne_of e4 h1 (by intro y; cases y)) e4, e5, l, w⟩
  · unfold PenR
    rw [ep]
    exact ⟨upd_same, by rw [ec]; exact h2, h3⟩
/-- pen[k] = e, the pen at slot i -/
def sPenS (i k : Nat) (m : EM D) : SM := sBind m fun d ρ ps => match ρ[i]? with
  | some (.v .pen) => sPen k (pureE d) ρ ps
  | _ => .stuck
theorem s_pen {kk} (hN : X.N[i]? = some x) (hv : Vis X.env.scope x) (he : PE X e (pT c E me))
    (hs : swapsWithSole [.Subscript (.Name x p) (.Constant (.int k) kk p2) apos] e pos.line X.env = pure false := by rfl) (hw : swappedStores [.Subscript (.Name x p) (.Constant (.int k) kk p2) apos] e X.env = pure none := by rfl)
    (h1 : (assignEach [.Subscript (.Name x p) (.Constant (.int k) kk p2) apos] X.env).map (·.2) = [assign (.Subscript (.Name x p) (.Constant (.int k) kk p2) apos) X.env] := by rfl)
    (ha : ∀ v, assign (.Subscript (.Name x p) (.Constant (.int k) kk p2) apos) X.env v = (do
      let ov ← holding [v] (eval (.Name x p) X.env)
      let iv ← holding [v, ov] (eval (.Constant (.int k) kk p2) X.env)
      standAt apos
      holding [v, ov, iv] (setItem ov iv v)
      release [v, ov, iv] []) := by intro _; rfl)
    (hd : (x == ("__debug__" : Str)) = false := by decide) (hcd : (x == ("__classdict__" : Str)) = false := by decide) :
    PS X (.Assign [.Subscript (.Name x p) (.Constant (.int k) kk p2) apos] e pos) (sT c E (sPenS i k me)) :=
  (ps_asg he (pg_sub (pv i hN hv hd hcd) pe_int set_list ha) hs hw h1).imp fun D σ H ⟨F, ρ, ps, S, h⟩ => spost_bind S h fun d v F1 ρ1 ps1 H1 s1 S1 r1 h2 => by
    cases er : ρ1[i]? with
    | none => rw [er] at h2; exact h2.elim
    | some sl =>
      rw [er] at h2
      cases sl with
      | v dd =>
        cases dd with
        | pen =>
          obtain ⟨o, eo, v', e2, q, eq, e3⟩ := S1.slot i _ er
          subst e2 e3
          cases hp : c.pa with
          | none => rw [hp] at eq; cases eq
          | some qq =>
            obtain ⟨q', ca⟩ := qq
            have : q' = q := by rw [hp] at eq; exact Option.some.inj eq
            subst this
            have hpen := S1.pen
            unfold PenR at hpen
            rw [hp] at hpen
            obtain ⟨b1, b2, b3⟩ := hpen
            have h3 : spost c E D F1 (sPen k (pureE d) ρ1 ps1) := h2
            refine ⟨_, eo, ?_⟩
            match k, d, h3, r1 with
            | 1, .int z, h3, r1 =>
              have r1 : v = .int z := r1
              subst r1
              exact ⟨q', _, 1, 1, rfl, rfl, b1, rfl, h3 F1 _ σ (Sub.refl F1) (S1.penW (ps' := { ps1 with turn := z }) hp rfl)⟩
            | 2, .int z, h3, r1 =>
              have r1 : v = .int z := r1
              subst r1
              exact ⟨q', _, 2, 2, rfl, rfl, b1, rfl, h3 F1 _ σ (Sub.refl F1) (S1.penW (ps' := { ps1 with rest := z }) hp rfl)⟩
        | _ => exact h2.elim
      | _ => exact h2.elim
end
end PL

namespace PL
open PySem L2

/-! ### attributes -/
def lookF : List Str → List D → Str → Option D
  | n :: ns, d :: ds, f => if n = f then some d else lookF ns ds f
  | _, _, _ => none
def fldD (cn f : Str) : D → Option D
  | .ins c ns xs => if c = cn then lookF ns xs f else none
  | _ => none
def putN (f : Str) : List Str → List Str
  | [] => [f]
  | g :: r => if g = f then g :: r else g :: putN f r
def putX (f : Str) (d : D) : List Str → List D → List D
  | [], _ => [d]
  | g :: r, x :: xs => if g = f then d :: xs else x :: putX f d r xs
  | _, [] => [d]
theorem lookF_rep {T : Tab} {pa : Pa} {F : Hp} {f : Str} : ∀ {xs : List D} {fs : List (Str × V)}, RepL T pa F xs (fs.map (·.2)) → ∀ d, lookF (fs.map (·.1)) xs f = some d → ∃ v, fs.lookup f = some v ∧ Rep T pa F d v
  | xs, [], r, d, e => by cases xs <;> cases e
  | [], p :: fs, r, d, e => by cases r
  | x :: xs, (n, y) :: fs, ⟨v, vr, ev, r1, r2⟩, d, e => by
    have e1 : y = v := (List.cons.inj ev).1
    have e2 : fs.map (·.2) = vr := (List.cons.inj ev).2
    subst e1 e2
    by_cases hn : n = f
    · simp only [List.map_cons, lookF, if_pos hn] at e
      cases e
      refine ⟨y, ?_, r1⟩
      have hb : (f == n) = true := beq_iff_eq.mpr hn.symm
      simp only [List.lookup, hb]
    · simp only [List.map_cons, lookF, if_neg hn] at e
      obtain ⟨v', e3, r3⟩ := lookF_rep r2 d e
      refine ⟨v', ?_, r3⟩
      have hb : (f == n) = false := beq_eq_false_iff_ne.mpr (Ne.symm hn)
      simp only [List.lookup, hb]
      exact e3
theorem putF_names (f : Str) (v : V) : ∀ fs : List (Str × V), (putF f v fs).map (·.1) = putN f (fs.map (·.1))
  | [] => rfl
  | (g, x) :: r => by
    rw [show putF f v ((g, x) :: r) = (if g = f then (g, v) :: r else (g, x) :: putF f v r) from rfl]
    show _ = (if g = f then g :: r.map (·.1) else g :: putN f (r.map (·.1)))
    by_cases h : g = f
    · rw [if_pos h, if_pos h]; rfl
    · rw [if_neg h, if_neg h, List.map_cons, putF_names f v r]
theorem putF_rep {T : Tab} {pa : Pa} {F : Hp} {f : Str} {d : D} {v : V} (rd : Rep T pa F d v) : ∀ {xs : List D} {fs : List (Str × V)}, RepL T pa F xs (fs.map (·.2)) → RepL T pa F (putX f d (fs.map (·.1)) xs) ((putF f v fs).map (·.2))
  | xs, [], r => RepL.one rd
  | [], p :: fs, r => by cases r
  | x :: xs, (n, y) :: fs, ⟨v', vr, ev, r1, r2⟩ => by
    have e1 : y = v' := (List.cons.inj ev).1
    have e2 : fs.map (·.2) = vr := (List.cons.inj ev).2
    subst e1 e2
    rw [show putF f v ((n, y) :: fs) = (if n = f then (n, v) :: fs else (n, y) :: putF f v fs) from rfl]
    show RepL T pa F (if n = f then d :: xs else x :: putX f d (fs.map (·.1)) xs) _
    by_cases h : n = f
    · rw [if_pos h, if_pos h]; exact RepL.cons rd r2
    · rw [if_neg h, if_neg h]; exact RepL.cons r1 (putF_rep rd r2)
section
variable {X : Cx} {c : Ct} {E : XK} {e o a b : Expr} {es : List Expr} {me ma mb mo : EM D} {mf ml mk : EM (List D)} {pos p p2 apos : Pos} {x cn f : Str} {i : Nat}
theorem g_fld (cn : Str) (ho : PE X o (pT c E mo)) (cl : Cls X.K (c.T.cls cn)) (na : NoAttr X.K (c.T.cls cn) f) (hb : attributeBase o f X.env (eval o X.env) = eval o X.env := by rfl) : PE X (.Attribute o f pos) (pT c E (eOp1 (fldD cn f) mo)) :=
  (pe_fld ho hb).imp fun σ H Q ⟨F, ρ, ps, S, h⟩ => post_bind S h fun d v F1 ρ1 ps1 H1 s1 S1 r1 h1 => by
    have h2 := okd_of h1
    cases d with
    | ins c' ns xs =>
      simp only [fldD] at h2
      by_cases hc : c' = cn
      case neg => rw [if_neg hc] at h2; exact (okd_none h2).elim
      rw [if_pos hc] at h2
      subst hc
      obtain ⟨d', ed, q⟩ := h2
      obtain ⟨a, dx, fs, rfl, f1, f2, en, l⟩ := r1
      subst en
      obtain ⟨v', ev, rv⟩ := lookF_rep l d' ed
      exact ⟨a, _, dx, fs, v', rfl, S1.sub _ _ f1, cl, na, ev, q v' F1 H1 (Sub.refl F1) S1 rv⟩
    | _ => exact (okd_none h2).elim
/-- self.f, self the object that is being made -/
def eOfld (i : Nat) (cn f : Str) : EM D := fun ρ ps => match ρ[i]? with
  | some (.oi c ns xs) => if c = cn then match lookF ns xs f with
      | some d => .ok d ρ ps
      | none => .stuck
    else .stuck
  | _ => .stuck
theorem oi_at {F H : Hp} {ρ : En} {ps : Pn} {σ : St} {cn : Str} {ns : List Str} {xs : List D} (S : SR c F H ρ ps σ) (e : ρ[i]? = some (.oi cn ns xs)) : ∃ q dx fs, σ[i]? = some (some (.ref q)) ∧ H q = some (.ins (c.T.cls cn) dx fs) ∧ H dx = some (.own q) ∧ (fs.map (·.1) = ns ∧ c.sf = some (q, dx)) ∧ RepL c.T c.pa F xs (fs.map (·.2)) ∧ Own c F q := by
  obtain ⟨o, e1, q, dx, fs, e2, r⟩ := S.slot i _ e
  exact ⟨q, dx, fs, by rw [e1, e2], r⟩
theorem g_ofld (cn : Str) (hN : X.N[i]? = some x) (hv : Vis X.env.scope x) (cl : Cls X.K (c.T.cls cn)) (na : NoAttr X.K (c.T.cls cn) f) (hb : attributeBase (.Name x p) f X.env (eval (.Name x p) X.env) = eval (.Name x p) X.env := by rfl)
    (hd : (x == ("__debug__" : Str)) = false := by decide) (hcd : (x == ("__classdict__" : Str)) = false := by decide) : PE X (.Attribute (.Name x p) f pos) (pT c E (eOfld i cn f)) :=
  (pe_fld (pv i hN hv hd hcd) hb).imp fun σ H Q ⟨F, ρ, ps, S, h⟩ => by
    unfold eOfld at h
    cases er : ρ[i]? with
    | none => rw [er] at h; exact h.elim
    | some sl =>
      rw [er] at h
      cases sl with
      | oi c' ns xs =>
        dsimp only at h
        by_cases hc : c' = cn
        case neg => rw [if_neg hc] at h; exact h.elim
        rw [if_pos hc] at h
        subst hc
        obtain ⟨q, dx, fs, e1, e2, e3, ⟨en, esf⟩, l, w⟩ := oi_at S er
        subst en
        cases el : lookF (fs.map (·.1)) xs f with
        | none => rw [el] at h; exact h.elim
        | some d =>
          rw [el] at h
          obtain ⟨v', ev, rv⟩ := lookF_rep l d el
          exact ⟨_, e1, q, _, dx, fs, v', rfl, e2, cl, na, ev, h v' F H (Sub.refl F) S rv⟩
      | _ => exact h.elim
/-- self.f = e -/
def sFldS (i : Nat) (cn f : Str) (m : EM D) : SM := sBind m fun d ρ ps => match ρ[i]? with
  | some (.oi c ns xs) => if c = cn ∧ ns.length < 100 then .nx (ρ.set i (.oi c (putN f ns) (putX f d ns xs))) ps else .stuck
  | _ => .stuck
theorem s_fld (cn : Str) {p' : Pos} (hN : X.N[i]? = some x) (hv : Vis X.env.scope x) (cl : Cls X.K (c.T.cls cn)) (na : NoAttr X.K (c.T.cls cn) f) (he : PE X e (pT c E me)) (hs : swapsWith e (some (.Attribute (.Name x p) f p')) pos.line X.env = pure false := by rfl)
    (hd : (x == ("__debug__" : Str)) = false := by decide) (hcd : (x == ("__classdict__" : Str)) = false := by decide) : PS X (.Assign [.Attribute (.Name x p) f p'] e pos) (sT c E (sFldS i cn f me)) :=
  (ps_fld (pv i hN hv hd hcd) he hs).imp fun D σ H ⟨F, ρ, ps, S, h⟩ => spost_bind S h fun d v F1 ρ1 ps1 H1 s1 S1 r1 h1 => by
    cases er : ρ1[i]? with
    | none => rw [er] at h1; exact h1.elim
    | some sl =>
      rw [er] at h1
      cases sl with
      | oi c' ns xs =>
        dsimp only at h1
        by_cases hc : c' = cn ∧ ns.length < 100
        case neg => rw [if_neg hc] at h1; exact h1.elim
        rw [if_pos hc] at h1
        obtain ⟨hc, hl⟩ := hc
        subst hc
        obtain ⟨q, dx, fs, e1, e2, e3, ⟨en, esf⟩, l, w⟩ := oi_at S1 er
        subst en
        have ndq : dx ≠ q := ne_of e3 e2 (by intro z; cases z)
        refine ⟨_, e1, q, _, dx, fs, rfl, e2, cl, na, by rw [List.length_map] at hl; omega, h1 F1 _ σ (Sub.refl F1) ?_⟩
        exact S1.write er rfl e1 w (fun x z => by rw [e2] at z; cases z) ⟨q, dx, _, rfl, upd_same, by rw [upd_ne ndq]; exact e3, ⟨putF_names f v fs, esf⟩, putF_rep r1 l, w⟩
      | _ => exact h1.elim

/-! ### methods -/
structure MetP (P : Program) (w : World) (K : PySem.W.Frag) (mg : Str → Option Value) (base : Heap) (T : Tab) (k : Nat) (cn m : Str) (n : Nat) (f : FM) : Prop where
  at_ : ∃ a fd ps, FnOk P w K mg base (L2.CX P w) k a fd ps (spP T (n + 1) f) ∧ Binds K fd ps [] ∧ Cls K (T.cls cn) ∧ Meth K (T.cls cn) m a
def methE (cn m : Str) (f : FM) (d : D) (ds : List D) : EM D := match d with
  | .ins c ns _ => if c = cn ∧ lookF ns (ns.map fun _ => D.non) m = none then callE f (d :: ds) else stuckE
  | _ => stuckE
/-- o.m(..): the object first, asked ahead of the arguments -/
def eMeth (cn m : Str) (f : FM) (o : EM D) (ml : EM (List D)) : EM D := bindE o fun d => match d with
  | .ins c ns _ => if c = cn ∧ m ∉ ns then bindE ml fun ds => callE f (d :: ds) else stuckE
  | _ => stuckE
theorem lookup_none {m : Str} : ∀ {fs : List (Str × V)}, m ∉ fs.map (·.1) → fs.lookup m = none
  | [], _ => rfl
  | (g, x) :: r, h => by
    rw [List.map_cons, List.mem_cons, not_or] at h
    have hb : (m == g) = false := beq_eq_false_iff_ne.mpr h.1
    simp only [List.lookup, hb]
    exact lookup_none h.2
theorem g_meth {j k n : Nat} {m : Str} {fm : FM} {pl : Sem Bool} (M : MetP X.prog X.w X.K X.mg X.base c.T k cn m n fm) (hr : Room j X.A) (hk : k ≤ j) (hx : Passes (L2.CX X.prog X.w) X E) (hn : Many n ml) (ho : PE X o (pT c E mo)) (ha : PA X (e :: es) (pTA c E ml))
    (hst : starEach (e :: es) X.env = (false, eval e X.env) :: starEach es X.env := by rfl) (hpl : (backTo pos (starEach es X.env)).any (·.1) = false := by rfl)
    (ht : eval (.Call (.Attribute o m apos) (e :: es) [] pos) X.env = (do
      let ov ← eval o X.env
      standAt apos.atName
      let (f, first) ← holding [ov] (getMethod ov m pl)
      callWith pos f first (backTo pos (starEach (e :: es) X.env)) (backToKw pos (keywordEach [] X.env))) := by rfl) : PE X (.Call (.Attribute o m apos) (e :: es) [] pos) (pT c E (eMeth cn m fm mo ml)) := by
  obtain ⟨fa, fd, pp, Fn, hb, cl, me⟩ := M.at_
  refine (pe_meth ho cl me Fn (hr.mono hk) hb .nil hx ha hst hpl ht).imp fun σ H Q ⟨F, ρ, ps, S, h⟩ => post_bind S h fun d v F1 ρ1 ps1 H1 s1 S1 r1 h1 => ?_
  cases d with
  | ins c' ns xs =>
    dsimp only at h1
    by_cases hc : c' = cn ∧ m ∉ ns
    case neg => rw [if_neg hc] at h1; exact h1.elim
    rw [if_pos hc] at h1
    obtain ⟨hc, hm⟩ := hc
    subst hc
    have r1' := r1
    obtain ⟨a, dx, fs, rfl, f1, f2, en, l⟩ := r1
    subst en
    refine ⟨a, dx, fs, rfl, S1.sub _ _ f1, lookup_none hm, ?_⟩
    refine args_n hn S1 h1 fun ds vs F2 ρ2 ps2 H2 hl s2 S2 r2 h2 => ?_
    show spP c.T (n + 1) fm (V.ref a :: (vs ++ [])) H2 Q E
    rw [List.append_nil]
    exact call_post (by rw [List.length_cons, hl]) S2 (RepL.cons (Rep.mono s2 r1') r2) h2
  | _ => exact h1.elim
theorem g_meth0 {j k : Nat} {m : Str} {fm : FM} {pl : Sem Bool} (M : MetP X.prog X.w X.K X.mg X.base c.T k cn m 0 fm) (hr : Room j X.A) (hk : k ≤ j) (hx : Passes (L2.CX X.prog X.w) X E) (ho : PE X o (pT c E mo))
    (ht : eval (.Call (.Attribute o m apos) [] [] pos) X.env = (do
      let ov ← eval o X.env
      standAt apos.atName
      let (f, first) ← holding [ov] (getMethod ov m pl)
      callWith pos f first (backTo pos (starEach [] X.env)) (backToKw pos (keywordEach [] X.env))) := by rfl) : PE X (.Call (.Attribute o m apos) [] [] pos) (pT c E (eMeth cn m fm mo eNil)) := by
  obtain ⟨fa, fd, pp, Fn, hb, cl, me⟩ := M.at_
  refine (pe_meth0 ho cl me Fn (hr.mono hk) hb .nil hx ht).imp fun σ H Q ⟨F, ρ, ps, S, h⟩ => post_bind S h fun d v F1 ρ1 ps1 H1 s1 S1 r1 h1 => ?_
  cases d with
  | ins c' ns xs =>
    dsimp only at h1
    by_cases hc : c' = cn ∧ m ∉ ns
    case neg => rw [if_neg hc] at h1; exact h1.elim
    rw [if_pos hc] at h1
    obtain ⟨hc, hm⟩ := hc
    subst hc
    have r1' := r1
    obtain ⟨a, dx, fs, rfl, f1, f2, en, l⟩ := r1
    subst en
    refine ⟨a, dx, fs, rfl, S1.sub _ _ f1, lookup_none hm, ?_⟩
    exact call_post rfl S1 (RepL.cons r1' RepL.nil) h1
  | _ => exact h1.elim
end

/-! ### a new instance -/
inductive IOut where
  | ok (ns : List Str) (xs : List D) (ps : Pn)
  | ex (e : Exn) (ps : Pn)
  | stuck
abbrev IM := List D → Pn → IOut
structure StpX (x : Addr) (pa : Pa) (F H F' H' : Hp) : Prop where
  ff : Sub F F'
  fh : Sub F' H'
  kp : ∀ a o, a ≠ x → H a = some o → pa.at ≠ some a → H' a = some o
  gr : ∀ a, a ≠ x → H a ≠ none → F' a = F a
def ipost (T : Tab) (pa : Pa) (cn : Str) (x dx : Addr) (F H : Hp) (Q : VK) (E : XK) (o : IOut) : Prop :=
  match o with
  | .ok ns xs ps => ∀ fs F' H', StpX x pa F H F' H' → F' x = none → PenR pa F' H' ps → H' x = some (.ins (T.cls cn) dx fs) → H' dx = some (.own x) → fs.map (·.1) = ns → RepL T pa F' xs (fs.map (·.2)) → Q .non H'
  | .ex e ps => ∀ cl dd F' H', StpX x pa F H F' H' → PenR pa F' H' ps → RepX ⟨T, pa, F, H, none⟩ F' H' e cl dd → E cl dd H'
  | .stuck => False
/-- __init__(self, n arguments) -/
def spI (T : Tab) (cn : Str) (n : Nat) (f : IM) : Sp := fun vs H Q E => ∃ pa F ds ps x dx vs', vs = .ref x :: vs' ∧ ds.length = n ∧ Sub F H ∧ RepL T pa F ds vs' ∧ PenR pa F H ps ∧ H x = some (.ins (T.cls cn) dx []) ∧ H dx = some (.own x) ∧ F x = none ∧ pa.at ≠ some x ∧
  ipost T pa cn x dx F H Q E (f ds ps)
def runI (cn : Str) (np nl : Nat) (m : SM) : IM := fun ds ps => if ds.length = np then
    match m (Slot.oi cn [] [] :: (ds.map .v ++ List.replicate (nl - np) .un)) ps with
    | .nx ρ ps' => match ρ[0]? with
      | some (Slot.oi c ns xs) => if c = cn then .ok ns xs ps' else .stuck
      | _ => .stuck
    | .ex e _ ps' => .ex e ps'
    | _ => .stuck
  else .stuck
theorem start_cons (N : List Str) (x : Str) (v : V) (vs : List V) : L2.start (x :: N) (v :: vs) = some v :: L2.start N vs := by
  unfold L2.start
  simp
theorem SR.startI {T : Tab} {pa : Pa} {F H : Hp} {ds : List D} {vs : List V} {ps : Pn} {N : List Str} {np : Nat} {x dx : Addr} {cn xn : Str} (hs : Sub F H) (r : RepL T pa F ds vs) (pen : PenR pa F H ps) (hn : ds.length = np) (hx : H x = some (.ins (T.cls cn) dx [])) (hd : H dx = some (.own x)) (fx : F x = none) (px : pa.at ≠ some x) :
    SR ⟨T, pa, F, fun a => if a = x then none else H a, some (x, dx)⟩ F H (.oi cn [] [] :: (ds.map .v ++ List.replicate (N.length - np) .un)) ps (L2.start (xn :: N) (.ref x :: vs)) := by
  have S0 := SR.start (N := N) hs r pen hn
  rw [start_cons]
  have h0 : ∀ {a o}, (if a = x then none else H a) = some o → H a = some o := fun {a o} e => by
    by_cases z : a = x
    · rw [if_pos z] at e; cases e
    · rw [if_neg z] at e; exact e
  have nov : ∀ j p, ¬ Owns (ds.map Slot.v ++ List.replicate (N.length - np) Slot.un) (L2.start N vs) j p := fun j p ⟨s, e1, e2, _⟩ => by
    by_cases hi : j < ds.length
    · rw [List.getElem?_append_left (by simpa using hi), List.getElem?_map] at e1
      cases ed : ds[j]? with
      | none => rw [ed] at e1; cases e1
      | some d => rw [ed] at e1; cases e1; cases e2
    · rw [List.getElem?_append_right (by simpa using hi), List.getElem?_replicate] at e1
      split at e1
      · cases e1; cases e2
      · cases e1
  refine ⟨hs, fun a o e _ => h0 e, fun a _ => rfl, Sub.refl F, by rw [List.length_cons, List.length_cons, S0.len], fun i s e => ?_, fun i j p a b => ?_, pen⟩
  · cases i with
    | zero =>
      cases e
      exact ⟨_, rfl, x, dx, [], rfl, hx, hd, ⟨rfl, rfl⟩, RepL.nil, ⟨fx, if_pos rfl, px⟩⟩
    | succ i =>
      rw [List.getElem?_cons_succ] at e
      obtain ⟨o, e1, r1⟩ := S0.slot i s e
      refine ⟨o, by rw [List.getElem?_cons_succ]; exact e1, ?_⟩
      cases s with
      | un => trivial
      | v d => exact r1
      | ol xs => obtain ⟨p, vs', e2, _⟩ := r1; exact absurd ⟨_, e, rfl, by rw [e1, e2]⟩ (nov i p)
      | od ks xs => obtain ⟨p, vs', e2, _⟩ := r1; exact absurd ⟨_, e, rfl, by rw [e1, e2]⟩ (nov i p)
      | oi c' ns xs => obtain ⟨p, dx', fs', e2, _⟩ := r1; exact absurd ⟨_, e, rfl, by rw [e1, e2]⟩ (nov i p)
  · cases i with
    | zero =>
      cases j with
      | zero => rfl
      | succ j =>
        obtain ⟨s, b1, b2, b3⟩ := b
        rw [List.getElem?_cons_succ] at b1 b3
        exact absurd ⟨s, b1, b2, b3⟩ (nov j p)
    | succ i =>
      obtain ⟨s, a1, a2, a3⟩ := a
      rw [List.getElem?_cons_succ] at a1 a3
      exact absurd ⟨s, a1, a2, a3⟩ (nov i p)
theorem SR.stpX {T : Tab} {pa : Pa} {F H F' H' : Hp} {ρ : En} {ps : Pn} {σ : St} {x dx : Addr} (px : pa.at ≠ some x) (S : SR ⟨T, pa, F, fun a => if a = x then none else H a, some (x, dx)⟩ F' H' ρ ps σ) : StpX x pa F H F' H' :=
  ⟨S.base, S.sub, fun a o n e np => S.keep a o (by show (if a = x then none else H a) = some o; rw [if_neg n]; exact e) np, fun a n e => S.grow a (by show (if a = x then none else H a) ≠ none; rw [if_neg n]; exact e)⟩
theorem fn_I {P : Program} {w : World} {K : PySem.W.Frag} {mg : Str → Option Value} {base : Heap} {x qual : Str} {st : Stmt} {f : Addr} {fd : FuncData} {N ps : List Str} {xn cn : Str} {k : Nat} {T : Tab} {m : SM} (F : Fun K x qual st f fd) (S : FnScope (xn :: N) (xn :: ps) (defScope st))
    (body : ∀ (cdv : Value) (A : Around) (outer : List Env) (s : Shared) (H : Hp) (E : XK) (c : Ct), c.T = T → Room k (A.deeper (PyProof.Rows.envOfC qual (defScope st) s.heap.objs.size f cdv)) →
      PSs (cxOf (L2.CX P w) P w K mg base (xn :: N) qual (defScope st) f cdv A outer s H E) (defBody st) (sT c E m)) : FnOk P w K mg base (L2.CX P w) (k + 1) f fd (xn :: ps) (spI T cn ps.length (runI cn ps.length N.length m)) := by
  refine F.okX S (fun vs H Q E ⟨pa, F, ds, pn, x, dx, vs', ev, hn, _, r, _⟩ => by rw [ev, List.length_cons, List.length_cons, ← r.length, hn]) fun cdv A outer s H vs Q E hr h => ?_
  obtain ⟨pa, F, ds, pn, x, dx, vs', rfl, hn, hs, r, pen, hx, hd, fx, px, hp⟩ := h
  refine ⟨_, body cdv A outer s H E ⟨T, pa, F, fun a => if a = x then none else H a, some (x, dx)⟩ rfl hr, F, _, pn, SR.startI (N := N) (cn := cn) hs r pen hn hx hd fx px, ?_⟩
  unfold runI at hp
  rw [if_pos hn] at hp
  cases e : m (Slot.oi cn [] [] :: (ds.map .v ++ List.replicate (N.length - ps.length) .un)) pn with
  | nx ρ ps' =>
    rw [e] at hp
    dsimp only at hp
    intro F' H' σ' s' S'
    cases e0 : ρ[0]? with
    | none => rw [e0] at hp; exact hp.elim
    | some sl =>
      rw [e0] at hp
      cases sl with
      | oi c' ns xs =>
        dsimp only at hp
        by_cases hc : c' = cn
        case neg => rw [if_neg hc] at hp; exact hp.elim
        rw [if_pos hc] at hp
        subst hc
        obtain ⟨q, dx', fs, _, e2, e3, ⟨en, esf⟩, l, w⟩ := oi_at S' e0
        have esf' : (x, dx) = (q, dx') := Option.some.inj esf
        cases esf'
        exact hp fs F' H' (S'.stpX px) w.nf S'.pen e2 e3 en l
      | _ => exact hp.elim
  | rt d ps' => rw [e] at hp; exact hp.elim
  | bk ρ ps' => rw [e] at hp; exact hp.elim
  | ct ρ ps' => rw [e] at hp; exact hp.elim
  | ex ee ρ ps' =>
    rw [e] at hp
    intro cl dd F' H' σ' s' S' r'
    exact hp cl dd F' H' (S'.stpX px) S'.pen r'
  | stuck => rw [e] at hp; exact hp.elim
/-- C(..) makes such an instance -/
structure MakP (P : Program) (w : World) (K : PySem.W.Frag) (mg : Str → Option Value) (base : Heap) (T : Tab) (k : Nat) (x cn : Str) (n : Nat) (f : IM) : Prop where
  at_ : ∃ a fd ps, Mk K (T.cls cn) a ∧ FnOk P w K mg base (L2.CX P w) k a fd ps (spI T cn n f) ∧ Binds K fd ps [] ∧ mg x = some (.ref (T.cls cn))
def makeE (cn : Str) (f : IM) (ds : List D) : EM D := fun ρ ps => match f ds ps with
  | .ok ns xs ps' => .ok (.ins cn ns xs) ρ ps'
  | .ex e ps' => .ex e ρ ps'
  | .stuck => .stuck
def eMake (cn : Str) (f : IM) (ml : EM (List D)) : EM D := bindE ml fun ds => makeE cn f ds
theorem make_post {c : Ct} {E : XK} {Q : VK} {F H : Hp} {ρ : En} {ps : Pn} {σ : St} {cn : Str} {f : IM} {ds : List D} {vs : List V} {n : Nat} (hn : ds.length = n) (S : SR c F H ρ ps σ) (r : RepL c.T c.pa F ds vs) (h : post c E (RD c) Q σ F (makeE cn f ds ρ ps))
    {x dx : Addr} (nx : H x = none) (ndx : H dx = none) (ne : dx ≠ x) : spI c.T cn n f (.ref x :: vs) (upd (upd H dx (.own x)) x (.ins (c.T.cls cn) dx [])) (fun v H2 => v = .non ∧ Q (.ref x) H2) E := by
  have wx := S.fresh nx
  have wd := S.fresh ndx
  have S1 : SR c F (upd H dx (.own x)) ρ ps σ := S.alloc ndx
  have nx1 : (upd H dx (.own x)) x = none := by rw [upd_ne (Ne.symm ne)]; exact nx
  have S2 : SR c F (upd (upd H dx (.own x)) x (.ins (c.T.cls cn) dx [])) ρ ps σ := S1.alloc nx1
  refine ⟨c.pa, F, ds, ps, x, dx, vs, rfl, hn, S2.sub, r, S2.pen, upd_same, by rw [upd_ne ne]; exact upd_same, wx.nf, wx.np, ?_⟩
  -- from the heap without x
  have st : ∀ {F' H' : Hp} {ps' : Pn}, StpX x c.pa F (upd (upd H dx (.own x)) x (.ins (c.T.cls cn) dx [])) F' H' → PenR c.pa F' H' ps' → SR c F' H' ρ ps' σ := fun {F' H' ps'} t pen =>
    S1.step t.ff t.fh (fun a o e np => t.kp a o (fun z => by rw [z, nx1] at e; cases e) (by rw [upd_ne (fun z => by rw [z, nx1] at e; cases e)]; exact e) np)
      (fun a n => t.gr a (fun z => n (by rw [z]; exact nx1)) (by rw [upd_ne (fun z => n (by rw [z]; exact nx1))]; exact n)) pen
  unfold makeE at h
  cases e : f ds ps with
  | ok ns xs ps' =>
    rw [e] at h
    intro fs F' H' t fx pen hx hd en l
    refine ⟨rfl, ?_⟩
    have S3 := st t pen
    have fd : F' dx = none := by
      rw [t.gr dx ne (by rw [upd_ne ne, upd_same]; simp)]
      exact wd.nf
    have ex1 : (upd H dx (.own x)) dx = some (.own x) := upd_same
    have noS : ∀ i, ¬ Owns ρ σ i x := fun i z => S.notOwned nx i z
    have noD : ∀ i, ¬ Owns ρ σ i dx := fun i z => S.notOwned ndx i z
    have S4 := S3.freeze (o := .own x) hd ⟨fd, wd.n0, wd.np⟩ noD
    have fx4 : (upd F' dx (.own x)) x = none := by rw [upd_ne (Ne.symm ne)]; exact fx
    have S5 := S4.freeze (o := .ins (c.T.cls cn) dx fs) hx ⟨fx4, wx.n0, wx.np⟩ noS
    have s1 : Sub F' (upd F' dx (.own x)) := sub_upd fd
    have s2 : Sub (upd F' dx (.own x)) (upd (upd F' dx (.own x)) x (.ins (c.T.cls cn) dx fs)) := sub_upd fx4
    exact h (.ref x) _ H' (t.ff.trans (s1.trans s2)) S5 ⟨x, dx, fs, rfl, upd_same, by rw [upd_ne ne]; exact upd_same, en, l.mono (s1.trans s2)⟩
  | ex x' ps' =>
    rw [e] at h
    exact fun cl dd F' H' t pen r' => h cl dd F' H' t.ff (st t pen) r'
  | stuck => rw [e] at h; exact h
section
variable {X : Cx} {c : Ct} {E : XK} {e o a b : Expr} {es : List Expr} {me ma mb mo : EM D} {mf ml mk : EM (List D)} {pos p p2 apos : Pos} {x cn f : Str} {i j k n : Nat}
theorem g_make {fi : IM} (M : MakP X.prog X.w X.K X.mg X.base c.T k x cn n fi) (hr : Room j X.A) (hk : k + 1 ≤ j) (hg : Gl X x) (hx : Passes (L2.CX X.prog X.w) X E) (hn : Many n ml) (ha : PA X (e :: es) (pTA c E ml)) (hdb : (x == ("__debug__" : Str)) = false := by decide)
    (he : starEach (e :: es) X.env = (false, eval e X.env) :: starEach es X.env := by rfl) (hpl : (backTo pos (starEach es X.env)).any (·.1) = false := by rfl) : PE X (.Call (.Name x p) (e :: es) [] pos) (pT c E (eMake cn fi ml)) := by
  obtain ⟨fa, fd, ps, mk, F, hb, hm⟩ := M.at_
  refine (pe_make mk F (hr.mono hk) hg hm hb .nil hx ha hdb he hpl).imp fun σ H Q ⟨F, ρ, ps, S, h⟩ => ?_
  refine args_n hn S h fun ds vs F1 ρ1 ps1 H1 hl s S1 r h1 => ?_
  intro x' dx nx ndx ne
  show spI c.T cn n fi (V.ref x' :: (vs ++ [])) _ _ E
  rw [List.append_nil]
  exact make_post hl S1 r h1 nx ndx ne

/-! ### two comparisons in a chain -/
def eChain (f g : D → D → Option D) (a b d : EM D) : EM D := bindE a fun x => bindE b fun y => bindE (liftO ((f x y).bind asB)) fun k => if k = true then bindE d fun z => liftO (g y z) else pureE (.bl false)
theorem chain_of {d : Expr} {md : EM D} {r r' : R2} {f g : D → D → Option D} (hd : OpD c r f) (hd' : OpD c r' g) {σ : St} {H : Hp} {Q : VK} (h : pT c E (eChain f g ma mb md) σ H Q) : tChain r r' (pT c E ma) (pT c E mb) (pT c E md) σ H Q := by
  obtain ⟨F, ρ, ps, S, h⟩ := h
  refine post_bind S h fun d1 v1 F1 ρ1 ps1 H1 s1 S1 r1 h1 => ?_
  refine post_bind S1 h1 fun d2 v2 F2 ρ2 ps2 H2 s2 S2 r2 h2 => ?_
  refine hd F2 H2 ρ2 ps2 σ d1 d2 v1 v2 _ S2 (Rep.mono s2 r1) r2 ?_
  cases ef : f d1 d2 with
  | none => rw [ef] at h2; exact h2.elim
  | some z =>
    rw [ef] at h2
    refine ⟨z, rfl, fun v F3 H3 s3 S3 r3 => ?_⟩
    cases ez : asB z with
    | none => simp only [Option.bind_some, ez] at h2; exact h2.elim
    | some kk =>
      simp only [Option.bind_some, ez] at h2
      have := asB_some ez; subst this
      refine ⟨kk, r3, ?_⟩
      have h3 : post c E (RD c) Q σ F2 ((if kk = true then bindE md fun z => liftO (g d2 z) else pureE (.bl false)) ρ2 ps2) := h2
      cases kk with
      | false => exact iteF (post_ok (R := RD c) S3 (h3.mono s3) rfl)
      | true => exact iteT (post_bind S3 (h3.mono s3) fun d4 v4 F4 ρ4 ps4 H4 s4 S4 r4 h4 => hd' F4 H4 ρ4 ps4 σ d2 d4 v2 v4 Q S4 (Rep.mono (s3.trans s4) r2) r4 (okd_of h4))
theorem g_chain {d : Expr} {md : EM D} {op op' : CmpOp} {r r' : R2} {f g : D → D → Option D} (ho : OpR X (compareOp op) r) (hd : OpD c r f) (ho' : OpR X (compareOp op') r') (hd' : OpD c r' g) (ha : PE X a (pT c E ma)) (hb : PE X b (pT c E mb)) (hc : PE X d (pT c E md))
    (hm : lastMarks [op, op'] [b, d] = false := by with_unfolding_all rfl) : PE X (.Compare a [op, op'] [b, d] pos) (pT c E (eChain f g ma mb md)) :=
  (pe_chain ho ho' ha hb hc hm).imp fun _ _ _ h => chain_of (d := d) hd hd' h
theorem t_chain {d : Expr} {md : EM D} {op op' : CmpOp} {r r' : R2} {f g : D → D → Option D} (ho : OpR X (compareOp op) r) (hd : OpD c r f) (ho' : OpR X (compareOp op') r') (hd' : OpD c r' g) (ha : PE X a (pT c E ma)) (hb : PE X b (pT c E mb)) (hc : PE X d (pT c E md))
    (hm : lastMarks [op, op'] [b, d] = false := by with_unfolding_all rfl) : PT X (.Compare a [op, op'] [b, d] pos) (pTT c E (eB (eChain f g ma mb md))) :=
  (pt_chain ho ho' ha hb hc hm).imp fun σ H Q ⟨F, ρ, ps, S, h⟩ => by
    show tChain _ _ _ _ _ σ H _
    refine chain_of (d := d) (E := E) hd hd' ⟨F, ρ, ps, S, ?_⟩
    unfold eB bindE at h
    cases e : eChain f g ma mb md ρ ps with
    | stuck => rw [e] at h; exact h
    | ex x ρ1 ps1 => rw [e] at h; exact h
    | ok z ρ1 ps1 =>
      rw [e] at h
      intro v F1 H1 s1 S1 r1
      dsimp only at h
      obtain ⟨kk, ek, q⟩ := post_some h
      have := asB_some ek; subst this
      exact ⟨kk, r1, post_ok (R := RB) S1 (q.mono s1) rfl⟩

/-! ### *e in a display -/
def eStar (a : EM D) (b : EM (List D)) : EM (List D) := bindE a fun x => bindE (liftO (seqO x)) fun xs => bindE b fun ys => pureE (xs ++ ys)
theorem g_star {sp : Pos} (he : PE X e (pT c E me)) (hr : PA X es (pTA c E ml)) (hs : starEach (.Starred e sp :: es) X.env = (true, eval e X.env) :: starEach es X.env := by rfl) : PA X (.Starred e sp :: es) (pTA c E (eStar me ml)) :=
  (StX.pa_star he hr hs).imp fun σ H Q ⟨F, ρ, ps, S, h⟩ => post_bind S h fun d v F1 ρ1 ps1 H1 s1 S1 r1 h1 => by
    have h2 : post c E (RL c) Q σ F1 (bindE (liftO (seqO d)) (fun xs => bindE ml fun ys => pureE (xs ++ ys)) ρ1 ps1) := h1
    cases d with
    | lst xs =>
      obtain ⟨a, vs, rfl, f, l⟩ := r1
      exact ⟨a, vs, rfl, .inr (SqL.of (S1.sub _ _ f)), post_bind S1 h2 fun ys ws F2 ρ2 ps2 H2 s2 S2 r2 h3 => post_ok (R := RL c) S2 h3 ((l.mono s2).append r2)⟩
    | tup xs =>
      obtain ⟨a, vs, rfl, f, l⟩ := r1
      exact ⟨a, vs, rfl, .inl (SqT.of (S1.sub _ _ f)), post_bind S1 h2 fun ys ws F2 ρ2 ps2 H2 s2 S2 r2 h3 => post_ok (R := RL c) S2 h3 ((l.mono s2).append r2)⟩
    | _ => exact h2.elim

/-! ### a call of a name that holds a def -/
/-- what the defs that may be held give, by name -/
abbrev Disp := Str → Option FM
structure DispP (P : Program) (w : World) (K : PySem.W.Frag) (mg : Str → Option Value) (base : Heap) (T : Tab) (k n : Nat) (dp : Disp) : Prop where
  at_ : ∀ f fm, dp f = some fm → ∃ fd ps, FnOk P w K mg base (L2.CX P w) k (T.fn f) fd ps (spP T n fm) ∧ Binds K fd ps [] ∧ PySem.W.keepIn K (.ref (T.fn f)) = true
def eLoc (i : Nat) (dp : Disp) (ml : EM (List D)) : EM D := fun ρ ps => match ρ[i]? with
  | some (.v (.fn f)) => match dp f with
    | some fm => bindE ml (fun ds => callE fm ds) ρ ps
    | none => .stuck
  | _ => .stuck
theorem g_loc {dp : Disp} (C : DispP X.prog X.w X.K X.mg X.base c.T k n dp) (hr : Room j X.A) (hk : k ≤ j) (hN : X.N[i]? = some x) (hv : Vis X.env.scope x) (hx : Passes (L2.CX X.prog X.w) X E) (hn : Many n ml) (ha : PA X (e :: es) (pTA c E ml))
    (hdb : (x == ("__debug__" : Str)) = false := by decide) (hcd : (x == ("__classdict__" : Str)) = false := by decide)
    (he : starEach (e :: es) X.env = (false, eval e X.env) :: starEach es X.env := by rfl) (hpl : (backTo pos (starEach es X.env)).any (·.1) = false := by rfl) : PE X (.Call (.Name x p) (e :: es) [] pos) (pT c E (eLoc i dp ml)) := by
  refine ⟨fun pins s σ H Q I ⟨F, ρ, ps, S, h⟩ => ?_⟩
  unfold eLoc at h
  cases er : ρ[i]? with
  | none => rw [er] at h; exact h.elim
  | some sl =>
    rw [er] at h
    cases sl with
    | v d =>
      cases d with
      | fn g =>
        dsimp only at h
        cases ed : dp g with
        | none => rw [ed] at h; exact h.elim
        | some fm =>
          rw [ed] at h
          obtain ⟨fd, pp, Fn, hb, kp⟩ := C.at_ g fm ed
          obtain ⟨o, e1, v, e2, rv⟩ := S.slot i _ er
          have rv : v = .ref (c.T.fn g) := rv
          subst e2 rv
          refine (pe_callL (i := i) Fn (hr.mono hk) hN hv kp hb .nil hx ha hdb hcd he hpl).run pins s σ H Q I ⟨e1, ?_⟩
          refine args_n hn S h fun ds vs F1 ρ1 ps1 H1 hl s S1 r h1 => ?_
          rw [List.append_nil]
          exact call_post hl S1 r h1
      | _ => exact h.elim
    | _ => exact h.elim
/-- a def as a value -/
theorem g_fn {f : Str} (hg : Gl X x) (hm : X.mg x = some (.ref (c.T.fn f))) (hd : (x == ("__debug__" : Str)) = false := by decide) : PE X (.Name x pos) (pT c E (eC (.fn f))) :=
  g_const (pe_glob (v := .ref (c.T.fn f)) hg hm rfl hd) rfl rfl
end
end PL

set_option maxHeartbeats 2000000
namespace PL
open PySem L2 PySem.Spec PyProof.Rows
section
variable {prog : Program} {w : World} {A : Around} {E : Value → Shared → Prop} {s : Shared}
theorem sliceApplied_rev {sl : Addr} {vl vu vs : Value} {n : Nat} {Q : Int × Int × Nat → Shared → Prop} (hs : s.heap.IsSliceOf sl vl vu vs) (pl : IsPart vl none) (pu : IsPart vu none) (ps : IsPart vs (some (-1)))
    (h : Q ((n : Int) - 1, -1, n) s) : wpAny (model prog w) A (Builtin.Slice.sliceApplied (.ref sl) (pure (n : Int))) Q E s := by
  obtain ⟨os, hos, hcs, hds⟩ := id hs
  unfold Builtin.Slice.sliceApplied Builtin.Slice.sliceFields
  refine wpAny_bind (wpAny_bind (wpAny_field hos hds (x := vl) rfl (wpAny_bind (wpAny_field hos hds (x := vu) rfl (wpAny_bind (wpAny_field hos hds (x := vs) rfl (wpAny_pure ?_)))))))
  refine wpAny_bind (HT.slicePart_ ps ?_)
  show wpAny _ _ (if ((-1 : Int) == 0) = true then _ else _) _ _ s
  rw [if_neg (by decide)]
  refine wpAny_bind (HT.slicePart_ pl (wpAny_bind (HT.slicePart_ pu (wpAny_bind (wpAny_pure ?_)))))
  show wpAny _ _ (match Builtin.Slice.sliceAdjust none none (-1) (n : Int) with | (lo, hi) => pure (lo, (-1 : Int), Builtin.Slice.slicePlaces lo hi (-1))) _ _ s
  have e : Builtin.Slice.sliceAdjust none none (-1) (n : Int) = ((n : Int) - 1, -1) := rfl
  rw [e]
  have e2 : Builtin.Slice.slicePlaces ((n : Int) - 1) (-1) (-1) = n := by
    unfold Builtin.Slice.slicePlaces
    have h1 : ¬ ((-1 : Int) > 0) := by omega
    simp only [h1, if_false]
    by_cases hn : (n : Int) - 1 > -1
    · simp only [hn, if_true]
      have : (((n : Int) - 1 - -1 - 1) / (- -1) + 1) = (n : Int) := by
        rw [show (- -1 : Int) = 1 by decide, Int.ediv_one]; omega
      rw [this, Int.toNat_natCast]
    · simp only [hn, if_false]; omega
  show wpAny _ _ (pure ((n : Int) - 1, (-1 : Int), Builtin.Slice.slicePlaces ((n : Int) - 1) (-1) (-1))) _ _ s
  rw [e2]
  exact wpAny_pure h
theorem fm_congr {α β : Type} {f g : α → Option β} : ∀ {l : List α}, (∀ x ∈ l, f x = g x) → l.filterMap f = l.filterMap g
  | [], _ => rfl
  | a :: l, h => by
    rw [List.filterMap_cons, List.filterMap_cons, h a (List.mem_cons_self ..), fm_congr fun x hx => h x (List.mem_cons_of_mem _ hx)]
theorem pick_rev (xs : Array Value) : ((List.range xs.size).filterMap fun (m : Nat) => xs[(((xs.size : Int) - 1) + (m : Int) * (-1)).toNat]?).toArray = xs.toList.reverse.toArray := by
  have e : (List.range xs.size).filterMap (fun (m : Nat) => xs[(((xs.size : Int) - 1) + (m : Int) * (-1)).toNat]?) = ((List.range xs.size).map (fun k => xs.size - 1 - k)).filterMap (xs[·]?) := by
    rw [List.filterMap_map]
    refine fm_congr fun m hm => ?_
    have := List.mem_range.mp hm
    show _ = xs[xs.size - 1 - m]?
    congr 1
    omega
  rw [e, PySem.W.krv_range, List.filterMap_reverse, PySem.W.krv_all]
theorem getItem_tuple_rev {t sl : Addr} {items : Array Value} {vl vu vs : Value} {Q : Value → Shared → Prop} (ht : IsTup s.heap t items) (hs : s.heap.IsSliceOf sl vl vu vs) (pl : IsPart vl none) (pu : IsPart vu none) (ps : IsPart vs (some (-1)))
    (h : Q (.ref s.heap.objs.size) { s with heap := s.heap.push { cls := .type "tuple", data := .seq items.toList.reverse.toArray } })
    (hsz : items.size ≤ sizeLine) : wpAny (model prog w) A (getItem (.ref t) (.ref sl)) Q E s := by
  have htake : sizeOk (.seq items.toList.reverse.toArray) := by
    show items.toList.reverse.toArray.size ≤ sizeLine
    rw [List.size_toArray, List.length_reverse, Array.length_toList]
    omega
  obtain ⟨os, hos, hcs, hds⟩ := id hs
  have hTs : s.TypeIs (.ref sl) "slice" := ⟨os, hos, hcs⟩
  unfold getItem
  try with_reducible refine wpAny_holding ?_
  first | refine wpAny_bind (wpAny_pure ?_) | skip
  refine wpAny_bind (wpAny_sequenceKey ht.typeIs (by decide) ?_)
  refine wpAny_bind (wpAny_callSpecial?_slot (name := Str.ofString "__getitem__") ht.typeIs PyProof.Rows.slot_tuple_getitem
    (wpAny_call_entry PyProof.Rows.slot_tuple_getitem ht.typeIs entry_tuple_getitem ?_ (args_tuple_getitem _ _)))
  show wpAny _ _ (Builtin.Tuple.tupleItemsOf (.ref t) >>= _) _ _ s
  refine wpAny_bind (tupleItemsOf_ ht ?_)
  refine wpAny_bind (wpAny_typeOf hTs ?_)
  rw [if_pos (by decide)]
  refine wpAny_bind (sliceApplied_rev hs pl pu ps ?_)
  have hno : ¬ ((((items.size : Int) - 1) == 0 && (-1 : Int) == 1 && items.size == items.size) = true) := by
    intro q
    rw [Bool.and_eq_true, Bool.and_eq_true] at q
    exact absurd q.1.2 (by decide)
  show wpAny _ _ (if (((items.size : Int) - 1) == 0 && (-1 : Int) == 1 && items.size == items.size) = true then _ else _) _ _ s
  rw [if_neg hno, pick_rev]
  first
    | exact wpAny_bind (m := Builtin.Tuple.tupleExact _) (wpAny_newObj_type (wpAny_pure ⟨_, rfl, wpAny_pure h⟩) htake)
    | exact wpAny_bind (m := Builtin.Tuple.tupleExact _) (wpAny_newObj_type (wpAny_bind (wpAny_pure (wpAny_pure ⟨_, rfl, wpAny_pure h⟩))) htake)
    | exact wpAny_bind (wpAny_bind (m := Builtin.Tuple.tupleExact _) (wpAny_newObj_type (wpAny_pure (wpAny_pure ⟨_, rfl, wpAny_pure h⟩)) htake))
    | exact wpAny_bind (wpAny_bind (m := Builtin.Tuple.tupleExact _) (wpAny_newObj_type (wpAny_pure ⟨_, rfl, wpAny_pure h⟩) htake))
end
section
variable {X : Cx}
def tRevT (K : PySem.W.Frag) (te : TE) : TE := fun σ H Q => te σ H fun x H1 => ∃ a xs, x = .ref a ∧ SqT K H1 a xs ∧ ∀ p, H1 p = none → Q (.ref p) (upd H1 p (.tup xs.reverse))
theorem pe_revT {e : Expr} {te : TE} {k : Nat} {p1 p2 p3 pos : Pos} (he : PE X e te) : PE X (.Subscript e (.Slice none none (some (.UnaryOp .USub (.Constant (.int 1) k p1) p2)) p3) pos) (tRevT X.K te) := by
  refine ⟨fun pins s σ H Q I h => ?_⟩
  refine Subscript_ (thn (he.run pins s σ H _ I h) fun v s1 ⟨x, H1, I1, r1, q1⟩ => ?_)
  obtain ⟨a, xs, ex, hx, q⟩ := q1
  subst ex
  cases r1
  have hst : PO X (some (.UnaryOp .USub (.Constant (.int 1) k p1) p2)) (tPart (tUn (rU fun i => .int (-i)) (tC (.int 1)))) := po_some (pe_un un_neg pe_int)
  refine wpAny_Slice (thn (po_none.run pins s1 σ H1 (fun o H2 => o = none ∧ H2 = H1) I1 ⟨rfl, rfl⟩) fun vl s2 ⟨l, H2, I2, pl, el, e2⟩ => ?_)
  subst el e2
  refine thn (po_none.run pins s2 σ H2 (fun o H3 => o = none ∧ H3 = H2) I2 ⟨rfl, rfl⟩) fun vu s3 ⟨u, H3, I3, pu, eu, e3⟩ => ?_
  subst eu e3
  refine thn (hst.run pins s3 σ H3 (fun o H4 => o = some (-1) ∧ H4 = H3) I3 ⟨1, rfl, -1, rfl, rfl, rfl⟩) fun vs s4 ⟨o, H4, I4, ps, eo, e4⟩ => ?_
  subst eo e4
  have I5 : Inv X pins σ H4 { s4 with heap := s4.heap.push { cls := .type "slice", data := .fields #[vl, vu, vs] } } := I4.kept (t' := s4.toks) fun b ob q => Heap.get?_push_of_some _ q
  obtain ⟨its, r, ht, hz⟩ := I5.tuple hx
  show wpAny (model X.prog X.w) X.A (subscriptTail e (.Slice none none (some (.UnaryOp .USub (.Constant (.int 1) k p1) p2)) p3) (.ref a) (.ref s4.heap.objs.size)) (EP X pins σ Q) X.xe { s4 with heap := s4.heap.push { cls := .type "slice", data := .fields #[vl, vu, vs] } }
  have hlen : its.toArray.size = xs.length := by rw [List.size_toArray]; exact r.length.symm
  refine tail_any (ops := [.ref a, .ref s4.heap.objs.size]) ht.typeIs PyProof.Rows.slot_tuple_getitem.lookup ?_ (by with_unfolding_all rfl)
  refine getItem_tuple_rev ht (Heap.IsSliceOf.new _ vl vu vs) pl pu ps ?_ (by rw [hlen]; exact hz)
  refine ⟨.ref _, _, I5.laid (t' := s4.toks) (o := .tup xs.reverse) (fun b ob q => Heap.get?_push_of_some _ q) (Nat.le_refl _) ?_, rfl, q _ (I5.hok.fresh (Nat.le_refl _))⟩
  exact ⟨by rw [List.length_reverse]; exact hz, _, r.reverse, IsTup.new _ _⟩
end
section
variable {X : Cx} {c : Ct} {E : XK} {pos : Pos} {e : Expr} {me : EM D}
/-- xs[::-1] of a tuple -/
def revTD : D → Option D
  | .tup xs => some (.tup xs.reverse)
  | _ => none
def eRevT (m : EM D) : EM D := bindE m fun x => liftO (revTD x)
theorem g_revT {k : Nat} {p1 p2 p3 : Pos} (he : PE X e (pT c E me)) : PE X (.Subscript e (.Slice none none (some (.UnaryOp .USub (.Constant (.int 1) k p1) p2)) p3) pos) (pT c E (eRevT me)) :=
  (pe_revT he).imp fun σ H Q ⟨F, ρ, ps, S, h⟩ => post_bind S h fun d1 v1 F1 ρ1 ps1 H1 s1 S1 r1 h1 => by
    have h4 := okd_of h1
    cases d1 <;> first
      | exact (okd_none h4).elim
      | skip
    rename_i xs
    obtain ⟨a, vs, rfl, f, rl⟩ := r1
    exact ⟨a, vs, rfl, SqT.of (S1.sub _ _ f), fun p n => OkD.tup h4 S1 rl.reverse n⟩
end

/-! ### {key: value for target in items} -/
def RepK (T : Tab) (pa : Pa) (F : Hp) : List (Key × D) → List (Key × V) → Prop
  | [], kvs => kvs = []
  | p :: r, kvs => ∃ q s, kvs = q :: s ∧ p.1 = q.1 ∧ Rep T pa F p.2 q.2 ∧ RepK T pa F r s
def putP (acc : List (Key × D)) (k : Key) (d : D) : List (Key × D) :=
  if (acc.any fun kv => decide (kv.1 = k)) = true then acc.map (fun kv => if kv.1 = k then (kv.1, d) else kv) else acc ++ [(k, d)]
section
variable {T : Tab} {pa : Pa} {F F' : Hp}
theorem RepK.mono (s : Sub F F') : ∀ {acc : List (Key × D)} {kvs : List (Key × V)}, RepK T pa F acc kvs → RepK T pa F' acc kvs
  | [], _, h => h
  | _ :: _, _, ⟨q, r, e, h1, h2, h3⟩ => ⟨q, r, e, h1, h2.mono s, RepK.mono s h3⟩
theorem RepK.keys : ∀ {acc : List (Key × D)} {kvs : List (Key × V)}, RepK T pa F acc kvs → kvs.map (·.1) = acc.map (·.1)
  | [], _, h => by cases h; rfl
  | _ :: _, _, ⟨q, r, e, h1, h2, h3⟩ => by subst e; simp [h1, RepK.keys h3]
theorem RepK.vals : ∀ {acc : List (Key × D)} {kvs : List (Key × V)}, RepK T pa F acc kvs → RepL T pa F (acc.map (·.2)) (kvs.map (·.2))
  | [], _, h => by cases h; exact RepL.nil
  | _ :: _, _, ⟨q, r, e, h1, h2, h3⟩ => by subst e; exact RepL.cons h2 (RepK.vals h3)
theorem RepK.any (k : Key) : ∀ {acc : List (Key × D)} {kvs : List (Key × V)}, RepK T pa F acc kvs → (kvs.any fun kv => decide (kv.1 = k)) = acc.any fun kv => decide (kv.1 = k)
  | [], _, h => by cases h; rfl
  | _ :: _, _, ⟨q, r, e, h1, h2, h3⟩ => by subst e; rw [List.any_cons, List.any_cons, h1, RepK.any k h3]
theorem RepK.length : ∀ {acc : List (Key × D)} {kvs : List (Key × V)}, RepK T pa F acc kvs → kvs.length = acc.length
  | [], _, h => by cases h; rfl
  | _ :: _, _, ⟨q, r, e, h1, h2, h3⟩ => by subst e; simp [RepK.length h3]
theorem RepK.app {k : Key} {d : D} {v : V} (rd : Rep T pa F d v) : ∀ {acc : List (Key × D)} {kvs : List (Key × V)}, RepK T pa F acc kvs → RepK T pa F (acc ++ [(k, d)]) (kvs ++ [(k, v)])
  | [], _, h => by cases h; exact ⟨(k, v), [], rfl, rfl, rd, rfl⟩
  | _ :: _, _, ⟨q, r, e, h1, h2, h3⟩ => by subst e; exact ⟨q, _, rfl, h1, h2, RepK.app rd h3⟩
theorem RepK.upd {k : Key} {d : D} {v : V} (rd : Rep T pa F d v) : ∀ {acc : List (Key × D)} {kvs : List (Key × V)}, RepK T pa F acc kvs → RepK T pa F (acc.map fun kv => if kv.1 = k then (kv.1, d) else kv) (kvs.map fun kv => if kv.1 = k then (kv.1, v) else kv)
  | [], _, h => by cases h; rfl
  | p :: _, _, ⟨q, r, e, h1, h2, h3⟩ => by
    subst e
    refine ⟨_, _, rfl, ?_, ?_, RepK.upd rd h3⟩
    · by_cases z : q.1 = k
      · simp only [h1, z, if_true]
      · simp only [h1, z, if_false]
    · by_cases z : q.1 = k
      · simp only [h1, z, if_true]; exact rd
      · simp only [h1, z, if_false]; exact h2
theorem RepK.put {k : Key} {d : D} {v : V} {acc : List (Key × D)} {kvs : List (Key × V)} (h : RepK T pa F acc kvs) (rd : Rep T pa F d v) : RepK T pa F (putP acc k d) (putK kvs k v) := by
  unfold putP putK
  rw [h.any k]
  split
  · exact RepK.upd rd h
  · exact RepK.app rd h
end
def dcL (t : TM) (own : List Nat) (test : EM Bool) (key val : EM D) : List D → List (Key × D) → EM (List (Key × D))
  | [], acc => pureE acc
  | x :: r, acc => fun ρ ps => match t x ρ with
    | none => .stuck
    | some ρ1 => match test ρ1 ps with
      | .ok true ρ2 ps2 => match key ρ2 ps2 with
        | .ok k ρ3 ps3 => match keyOf k with
          | none => .stuck
          | some kk => match val ρ3 ps3 with
            | .ok d ρ4 ps4 => if acc.length < sizeLine then dcL t own test key val r (putP acc kk d) (wipeE ρ4 own) ps4 else .stuck
            | _ => .stuck
        | _ => .stuck
      | .ok false ρ2 ps2 => dcL t own test key val r acc (wipeE ρ2 own) ps2
      | _ => .stuck
def eDc (mi : EM (List D)) (t : TM) (own : List Nat) (test : EM Bool) (key val : EM D) : EM D := bindE mi fun items => fun ρ ps =>
  if own.all (fun i => decide (i < ρ.length) && !isOwn (ρ.getD i .un)) = true then
    match dcL t own test key val items [] (wipeE ρ own) ps with
    | .ok acc ρ' ps' => .ok (.dic (acc.map (·.1)) (acc.map (·.2))) (backE ρ own ρ') ps'
    | _ => .stuck
  else .stuck
section
variable {X : Cx} {c : Ct} {E : XK} {kx vx tg iter : Expr} {ifs : List Expr} {scope : Scope} {own : List (Str × Nat)} {pos : Pos} {mi : EM (List D)} {g : TG} {t : TM} {ix : List Nat} {mt : EM Bool} {mk me : EM D}
theorem key_kV {T : Tab} {pa : Pa} {F : Hp} {d : D} {v : V} {k : Key} (e : keyOf d = some k) (r : Rep T pa F d v) : v = kV k := by
  cases d <;> first
    | (cases e; exact r)
    | cases e
theorem g_dc (hc : X.calm = true) (hN : X.N.Nodup) (hi : PI X tg iter (pTI c E mi)) (ok : BlkOk X.N X.env.scope scope own) (hix : ∀ i ∈ ix, i ∈ own.map (·.2))
    (hg : ∀ (h : Hp) (s : Shared) (H : Hp) (C : Addr) (cl : List (Str × Addr)) (fp : List Addr), GT (X.blk s H scope (compEnvC scope cl C X.env) fp) { c with H0 := h } tg g t ix)
    (ht : ∀ (h : Hp) (s : Shared) (H : Hp) (C : Addr) (cl : List (Str × Addr)) (fp : List Addr), PTs (X.blk s H scope (compEnvC scope cl C X.env) fp) ifs (pTT { c with H0 := h } E0 mt))
    (hk : ∀ (h : Hp) (s : Shared) (H : Hp) (C : Addr) (cl : List (Str × Addr)) (fp : List Addr), PE (X.blk s H scope (compEnvC scope cl C X.env) fp) kx (pT { c with H0 := h } E0 mk))
    (he : ∀ (h : Hp) (s : Shared) (H : Hp) (C : Addr) (cl : List (Str × Addr)) (fp : List Addr), PE (X.blk s H scope (compEnvC scope cl C X.env) fp) vx (pT { c with H0 := h } E0 me)) (hs : ∀ x, foldedSetIterable iter X.env x = pure x := by intro _; rfl) :
    PE X (.DictComp kx vx [⟨tg, iter, ifs, 0⟩] scope pos) (pT c E (eDc mi t (own.map (·.2)) mt mk me)) := by
  let tT : TT := fun σ H Q => ∃ h : Hp, pTT { c with H0 := h } E0 mt σ H Q
  let tK : TE := fun σ H Q => ∃ h : Hp, pT { c with H0 := h } E0 mk σ H Q
  let tE : TE := fun σ H Q => ∃ h : Hp, pT { c with H0 := h } E0 me σ H Q
  have hT : ∀ (s : Shared) (H : Hp) (C : Addr) (cl : List (Str × Addr)) (fp : List Addr), PTs (X.blk s H scope (compEnvC scope cl C X.env) fp) ifs tT := fun s H C cl fp => ⟨fun pins s' σ H' Q I ⟨h, q⟩ => (ht h s H C cl fp).run pins s' σ H' Q I q⟩
  have hK : ∀ (s : Shared) (H : Hp) (C : Addr) (cl : List (Str × Addr)) (fp : List Addr), PE (X.blk s H scope (compEnvC scope cl C X.env) fp) kx tK := fun s H C cl fp => ⟨fun pins s' σ H' Q I ⟨h, q⟩ => (hk h s H C cl fp).run pins s' σ H' Q I q⟩
  have hE : ∀ (s : Shared) (H : Hp) (C : Addr) (cl : List (Str × Addr)) (fp : List Addr), PE (X.blk s H scope (compEnvC scope cl C X.env) fp) vx tE := fun s H C cl fp => ⟨fun pins s' σ H' Q I ⟨h, q⟩ => (he h s H C cl fp).run pins s' σ H' Q I q⟩
  refine ⟨fun pins sh σ H Q I ⟨F, ρ, ps, S, h⟩ => (pe_dc hc hN hi ok (fun s H C cl fp => (hg c.H0 s H C cl fp).1) hT hK hE hs).run pins sh σ H Q I (post_bind S h fun items J F1 ρ1 ps1 H1 s1 S1 r1 h1 => ?_)⟩
  have gEx : ∀ h : Hp, GT (X.blk sh H scope (compEnvC scope [] 0 X.env) []) { c with H0 := h } tg g t ix := fun h => hg h _ _ _ _ _
  intro Dd nD
  generalize hown : own.map (·.2) = ow at h1 hix ⊢
  by_cases hal : ow.all (fun i => decide (i < ρ1.length) && !isOwn (ρ1.getD i .un)) = true
  case neg => rw [if_neg hal] at h1; exact h1.elim
  rw [if_pos hal] at h1
  have hal' : ∀ i ∈ ow, i < ρ1.length ∧ isOwn (ρ1.getD i .un) = false := fun i hi => by
    have := List.all_eq_true.mp hal i hi
    simpa [Bool.and_eq_true] using this
  obtain ⟨Sw, _⟩ := S1.wipe (own := ow) fun i hi => (hal' i hi).1
  have w0 := S1.fresh nD
  have nb : c.F0 Dd = none := by
    cases q : c.F0 Dd with
    | none => rfl
    | some u => have := S1.base _ _ q; rw [w0.nf] at this; cases this
  refine ⟨fun i m H' => m = items.length - i ∧ i ≤ items.length ∧ ∃ F' ρ' ps' acc vs, Sub F1 F' ∧ SR (c.and Dd (.dK vs)) F' H' ρ' ps' (L2.wipe σ ow) ∧ RepK c.T c.pa F' acc vs ∧
      post c E (RD c) Q σ F' (match dcL t ow mt mk me (items.drop i) acc ρ' ps' with
        | .ok acc ρ' ps' => .ok (.dic (acc.map (·.1)) (acc.map (·.2))) (backE ρ1 ow ρ') ps'
        | _ => .stuck), ⟨items.length, by simp, Nat.zero_le _, F1, wipeE ρ1 ow, ps1, [], [], Sub.refl F1, ?_, rfl, h1⟩, ?_⟩
  · exact (Sw.alloc (o := .dK []) nD).and upd_same w0 fun i z => Sw.notOwned nD i z
  rintro i m H' ⟨rfl, hi, F', ρ', ps', acc, vs, s', S', ra, q⟩
  obtain ⟨S'c, eD, fD, noD⟩ := SR.un w0.n0 w0.np S'
  have wD : Own c F' Dd := ⟨fD.trans nb, w0.n0, w0.np⟩
  have okc : IterOk (c.and Dd (.dK vs)) J items F1 := r1 (upd c.H0 Dd (.dK vs)) fun a n => by
    by_cases z : a = Dd
    · subst z; exact .inr (w0.nf.trans nb.symm)
    · rw [upd_ne z] at n; exact .inl n
  obtain ⟨k1, k2⟩ := okc i F' H' ρ' ps' (L2.wipe σ ow) s' S'
  by_cases hlt : i < items.length
  · have ei : items[i]? = some items[i] := List.getElem?_eq_getElem hlt
    obtain ⟨go, yl⟩ := k1 _ ei
    refine .inr ⟨go, fun H2 => ∃ F2 ρ2 ps2 acc2 vs2, Sub F1 F2 ∧ SR (c.and Dd (.dK vs2)) F2 H2 ρ2 ps2 (L2.wipe σ ow) ∧ RepK c.T c.pa F2 acc2 vs2 ∧
      post c E (RD c) Q σ F2 (match dcL t ow mt mk me (items.drop (i + 1)) acc2 ρ2 ps2 with
        | .ok acc ρ' ps' => .ok (.dic (acc.map (·.1)) (acc.map (·.2))) (backE ρ1 ow ρ') ps'
        | _ => .stuck), fun H2 ⟨F2, ρ2, ps2, acc2, vs2, a⟩ => ⟨items.length - (i + 1), by omega, rfl, hlt, F2, ρ2, ps2, acc2, vs2, a⟩, fun x H2 y => ?_⟩
    obtain ⟨F2, s2, S2, rx⟩ := yl x H2 y
    rw [List.drop_eq_getElem_cons hlt] at q
    simp only [dcL] at q
    cases et : t items[i] ρ' with
    | none => rw [et] at q; exact q.elim
    | some ρ3 =>
      rw [et] at q
      dsimp only at q
      refine (gEx (upd c.H0 Dd (.dK vs))).2 F2 H2 ρ' ps' _ _ x _ ρ3 S2 rx et fun σ3 k3 S3 => ⟨(wipe_chg k3 hix).trans (wipe_wipe ow), ?_⟩
      have wσ : L2.wipe σ3 ow = L2.wipe σ ow := (wipe_chg k3 hix).trans (wipe_wipe ow)
      have len3 : ∀ {ρ4 : En} {F4 H4 : Hp} {ps4 : Pn} {c4 : Ct}, SR c4 F4 H4 ρ4 ps4 σ3 → ∀ i ∈ ow, i < ρ4.length := fun {ρ4 F4 H4 ps4 c4} S4 i hi => by
        rw [← S4.len, k3.1, wipe_length, S1.len]
        exact (hal' i hi).1
      refine ⟨upd c.H0 Dd (.dK vs), F2, ρ3, ps', S3, ?_⟩
      cases em : mt ρ3 ps' with
      | stuck => rw [em] at q; exact q.elim
      | ex e ρ4 ps4 => rw [em] at q; exact q.elim
      | ok b ρ4 ps4 =>
        rw [em] at q
        intro b' F4 H4 s4 S4 eb
        have eb' : b = b' := eb
        subst eb'
        cases b with
        | false =>
          dsimp only at q
          refine iteF ?_
          have S5 := (S4.wipe (own := ow) (len3 S4)).1
          rw [wσ] at S5
          exact ⟨F4, wipeE ρ4 ow, ps4, acc, vs, s'.trans (s2.trans s4), S5, ra.mono (s2.trans s4), q.mono (s2.trans s4)⟩
        | true =>
          dsimp only at q
          refine iteT ⟨upd c.H0 Dd (.dK vs), F4, ρ4, ps4, S4, ?_⟩
          cases ek : mk ρ4 ps4 with
          | stuck => rw [ek] at q; exact q.elim
          | ex e ρ5 ps5 => rw [ek] at q; exact q.elim
          | ok kd ρ5 ps5 =>
          rw [ek] at q
          dsimp only at q
          cases ekk : keyOf kd with
          | none => rw [ekk] at q; exact q.elim
          | some kk =>
          rw [ekk] at q
          dsimp only at q
          intro ky F5 H5 s5 S5 rk
          refine ⟨upd c.H0 Dd (.dK vs), F5, ρ5, ps5, S5, ?_⟩
          cases ee : me ρ5 ps5 with
          | stuck => rw [ee] at q; exact q.elim
          | ex e ρ6 ps6 => rw [ee] at q; exact q.elim
          | ok d ρ6 ps6 =>
            rw [ee] at q
            dsimp only at q
            intro y F6 H6 s6 S6 rd
            by_cases hz : acc.length < sizeLine
            case neg => rw [if_neg hz] at q; exact q.elim
            rw [if_pos hz] at q
            obtain ⟨S6c, e6, f6, no6'⟩ := SR.un w0.n0 w0.np S6
            have S7 := (S6c.wipe (own := ow) (len3 S6)).1
            rw [wσ] at S7
            have w6 : Own c F6 Dd := ⟨f6.trans nb, w0.n0, w0.np⟩
            have no7 : ∀ i, ¬ Owns (wipeE ρ6 ow) (L2.wipe σ ow) i Dd := fun i z => by
              have S6' := (S6.wipe (own := ow) (len3 S6)).1
              rw [wσ] at S6'
              exact (SR.un w0.n0 w0.np S6').2.2.2 i z
            have s16 : Sub F' F6 := s2.trans (s4.trans (s5.trans s6))
            refine ⟨vs, kk, key_kV ekk rk, e6, by rw [ra.length]; exact hz, F6, wipeE ρ6 ow, ps6, putP acc kk d, putK vs kk y, s'.trans s16, ?_, (ra.mono s16).put rd, q.mono s16⟩
            have S8 : SR c F6 (upd H6 Dd (.dK (putK vs kk y))) (wipeE ρ6 ow) ps6 (L2.wipe σ ow) := by
              refine ⟨fun a u z => ?_, fun a u z n => ?_, S7.grow, S7.base, S7.len, fun j sl z => ?_, S7.sep, ?_⟩
              · rw [upd_ne (fun k => by rw [k, w6.nf] at z; cases z)]; exact S7.sub a u z
              · rw [upd_ne (fun k => by rw [k, w0.n0] at z; cases z)]; exact S7.keep a u z n
              · obtain ⟨ov, e1, r⟩ := S7.slot j sl z
                refine ⟨ov, e1, ?_⟩
                cases sl with
                | un => trivial
                | v d => exact r
                | ol xs =>
                  obtain ⟨p', us, e2, e3, r, w'⟩ := r
                  have ne : p' ≠ Dd := fun k => no7 j ⟨_, z, rfl, by rw [e1, e2, k]⟩
                  exact ⟨p', us, e2, by rw [upd_ne ne]; exact e3, r, w'⟩
                | od ks xs =>
                  obtain ⟨p', us, e2, e3, r, w'⟩ := r
                  have ne : p' ≠ Dd := fun k => no7 j ⟨_, z, rfl, by rw [e1, e2, k]⟩
                  exact ⟨p', us, e2, by rw [upd_ne ne]; exact e3, r, w'⟩
                | oi cn ns xs =>
                  obtain ⟨p', dx, fs, e2, e3, e4, e7, r, w'⟩ := r
                  have ne : p' ≠ Dd := fun k => no7 j ⟨_, z, rfl, by rw [e1, e2, k]⟩
                  exact ⟨p', dx, fs, e2, by rw [upd_ne ne]; exact e3, by rw [upd_ne (ne_of e4 e6 (by intro k; cases k))]; exact e4, e7, r, w'⟩
              · have hp := S7.pen
                unfold PenR at hp ⊢
                cases ep : c.pa with
                | none => trivial
                | some pp =>
                  obtain ⟨pp, ca⟩ := pp
                  rw [ep] at hp
                  obtain ⟨q1, q2, q3⟩ := hp
                  exact ⟨by rw [upd_ne (fun k => w0.np (by rw [ep, ← k]; rfl))]; exact q1, q2, q3⟩
            exact S8.and upd_same w6 no7
  · have e : i = items.length := by omega
    subst e
    rw [List.drop_length] at q
    refine .inl ⟨k2 (Nat.le_refl _), ?_⟩
    have q' : post c E (RD c) Q σ F' (.ok (.dic (acc.map (·.1)) (acc.map (·.2))) (backE ρ1 ow ρ') ps') := q
    have Sb : SR c F' H' (backE ρ1 ow ρ') ps' σ := S1.back s' S'c fun i hi => (hal' i hi).2
    have no : ∀ i, ¬ Owns (backE ρ1 ow ρ') σ i Dd := fun i ⟨sl, e1, e2, e3⟩ => by
      rw [back_get] at e1
      by_cases hc : i ∈ ow ∧ i < ρ'.length
      · rw [if_pos hc] at e1
        cases e1
        rw [(hal' i hc.1).2] at e2; cases e2
      · rw [if_neg hc] at e1
        have hi : i ∉ ow := fun z => hc ⟨z, (List.getElem?_eq_some_iff.mp e1).1⟩
        exact noD i ⟨sl, e1, e2, by rw [wipe_get hi]; exact e3⟩
    exact q' _ _ H' (sub_upd wD.nf) (Sb.freeze eD wD no) ⟨Dd, vs, rfl, upd_same, ra.keys, (ra.mono (sub_upd wD.nf)).vals⟩
end

/-! ### a, b = x, y -/
inductive Itm where
  | v (d : D) | o (ds : List D) | nd
def Itm.slot : Itm → Slot
  | .v d => .v d
  | .o ds => .ol ds
  | .nd => .od [] []
/-- a new dict, nobody's -/
def RD0 (c : Ct) (F H : Hp) (ρ : En) (σ : St) (v : V) : Prop := ∃ p, v = .ref p ∧ H p = some (.dK []) ∧ Own c F p ∧ ∀ i, ¬ Owns ρ σ i p
def RIt (c : Ct) : RG Itm V := fun F H ρ σ it v => match it with
  | .v d => Rep c.T c.pa F d v
  | .o ds => RF c F H ρ σ ds v
  | .nd => RD0 c F H ρ σ v
abbrev pTi (c : Ct) (E : XK) (m : EM Itm) : TE := pG c E (RIt c) m
def iV (m : EM D) : EM Itm := bindE m fun d => pureE (.v d)
def iO (m : EM (List D)) : EM Itm := bindE m fun ds => pureE (.o ds)
def iD : EM Itm := pureE .nd
section
variable {X : Cx} {c : Ct} {E : XK} {pos : Pos} {e : Expr} {me : EM D} {mf : EM (List D)}
theorem i_v (h : PE X e (pT c E me)) : PE X e (pTi c E (iV me)) :=
  h.imp fun σ H Q ⟨F, ρ, ps, S, h⟩ => post_bind S h fun d v F1 ρ1 ps1 H1 s1 S1 r h1 => post_ok (R := RIt c) S1 h1 r
theorem i_o (h : PE X e (pTF c E mf)) : PE X e (pTi c E (iO mf)) :=
  h.imp fun σ H Q ⟨F, ρ, ps, S, h⟩ => post_bind S h fun d v F1 ρ1 ps1 H1 s1 S1 r h1 => post_ok (R := RIt c) S1 h1 r
def setIt (i : Nat) (x : Itm) (ρ : En) : En := ρ.set i x.slot
def sPar2 (i j : Nat) (ma mb : EM Itm) : SM := sBind ma fun x => sBind mb fun y ρ ps => if i < ρ.length ∧ j < ρ.length then .nx ((ρ.set i x.slot).set j y.slot) ps else .stuck
theorem i_d : PE X (.Dict [] [] pos) (pTi c E iD) := pe_dnewK.imp fun σ H Q ⟨F, ρ, ps, S, h⟩ p n => by
  exact post_ok (R := RIt c) (S.alloc (o := .dK []) n) h ⟨p, rfl, upd_same, S.fresh n, fun i z => S.notOwned n i z⟩
theorem itm_slot {F H : Hp} {ρ : En} {σ : St} {x : Itm} {v : V} (r : RIt c F H ρ σ x v) : SlotR c F H x.slot (some v) ∧ (isOwn x.slot = true → ∀ i p, v = .ref p → ¬ Owns ρ σ i p) := by
  cases x with
  | v d => exact ⟨⟨v, rfl, r⟩, fun z => by cases z⟩
  | o ds =>
    obtain ⟨p, vs, ev, e1, rl, w, no⟩ := r
    subst ev
    exact ⟨⟨p, vs, rfl, e1, rl, w⟩, fun _ i q eq => by cases eq; exact no i⟩
  | nd =>
    obtain ⟨p, ev, e1, w, no⟩ := r
    subst ev
    exact ⟨⟨p, [], rfl, e1, ⟨rfl, RepL.nil⟩, w⟩, fun _ i q eq => by cases eq; exact no i⟩
theorem spost_bind_un {α β : Type} {c' : Ct} {R' : RG α β} {D : Ends} {m : EM α} {k : α → SM} {F H : Hp} {ρ : En} {ps : Pn} {σ : St} {Q' : β → Hp → Prop} (hT : c'.T = c.T) (hp : c'.pa = c.pa) (un : ∀ F' H' ρ' ps', SR c' F' H' ρ' ps' σ → SR c F' H' ρ' ps' σ) (S : SR c' F H ρ ps σ) (h : spost c E D F (sBind m k ρ ps))
    (go : ∀ a b F1 ρ1 ps1 H1, Sub F F1 → SR c' F1 H1 ρ1 ps1 σ → R' F1 H1 ρ1 σ a b → spost c E D F1 (k a ρ1 ps1) → Q' b H1) : pG c' E R' m σ H Q' := by
  refine ⟨F, ρ, ps, S, ?_⟩
  unfold sBind at h
  cases e : m ρ ps with
  | ok a ρ1 ps1 =>
    rw [e] at h
    exact fun b F1 H1 s S1 r => go a b F1 ρ1 ps1 H1 s S1 r (h.mono s)
  | ex x ρ1 ps1 =>
    rw [e] at h
    refine fun cl dd F' H' s S' r => h cl dd F' H' σ s (un _ _ _ _ S') ?_
    unfold RepX at r ⊢
    rw [hT, hp] at r
    exact r
  | stuck => rw [e] at h; exact h
theorem s_par2 {i j : Nat} {x y : Str} {a b : Expr} {ma mb : EM Itm} {px py pt : Pos} {kt k2 pt2} (hc : X.calm = true) (hN : X.N.Nodup) (hi : X.N[i]? = some x) (hj : X.N[j]? = some y) (hij : i ≠ j)
    (hx : X.env.scope.names.lookup x = some .local) (hy : X.env.scope.names.lookup y = some .local) (ha : PE X a (pTi c E ma)) (hb : ∀ h : Hp, PE X b (pTi { c with H0 := h } E mb))
    (hw : swappedStores [.Tuple [.Name x px, .Name y py] kt pt] (.Tuple [a, b] k2 pt2) X.env = pure (some [x, y]))
    (hs : swapsWithSole [.Tuple [.Name x px, .Name y py] kt pt] (.Tuple [a, b] k2 pt2) pos.line X.env = pure false := by rfl)
    (h1 : starEach [a, b] X.env = (false, eval a X.env) :: starEach [b] X.env := by rfl) (h2 : starEach [b] X.env = (false, eval b X.env) :: starEach [] X.env := by rfl) :
    PS X (.Assign [.Tuple [.Name x px, .Name y py] kt pt] (.Tuple [a, b] k2 pt2) pos) (sT c E (sPar2 i j ma mb)) := by
  let tb : TE := fun σ H Q => ∃ h : Hp, pTi { c with H0 := h } E mb σ H Q
  have hB : PE X b tb := ⟨fun pins s σ H Q I ⟨h, q⟩ => (hb h).run pins s σ H Q I q⟩
  refine (ps_par hc hN hi hj hij hx hy (pa_cons ha (pa_cons hB pa_nil h2) h1) hw hs).imp fun D σ H ⟨F, ρ, ps, S, h⟩ => ?_
  refine spost_bind S h fun u v F1 ρ1 ps1 H1 s1 S1 r1 h1 => ?_
  -- the end, once both stand
  have fin : ∀ (w : Itm) (z : V) F2 ρ2 ps2 H2, SR c F2 H2 ρ2 ps2 σ → RIt c F2 H2 ρ2 σ u v → RIt c F2 H2 ρ2 σ w z → (isOwn u.slot = true → isOwn w.slot = true → v ≠ z) →
      spost c E D F2 ((fun ρ ps => if i < ρ.length ∧ j < ρ.length then SOut.nx ((ρ.set i u.slot).set j w.slot) ps else .stuck) ρ2 ps2) → D.nx ((σ.set i (some v)).set j (some z)) H2 := by
    intro w z F2 ρ2 ps2 H2 S2 ru rw' ne h2
    by_cases hl : i < ρ2.length ∧ j < ρ2.length
    · simp only [hl, if_true, and_self] at h2
      obtain ⟨a1, a2⟩ := itm_slot ru
      obtain ⟨b1, b2⟩ := itm_slot rw'
      have S3 := S2.set hl.1 a1 fun o p ep k => a2 o k p (Option.some.inj ep)
      have S4 := S3.set (i := j) (by rw [List.length_set]; exact hl.2) b1 fun o p ep k hk => by
        have ez : z = .ref p := Option.some.inj ep
        rcases owns_set hk S2.len with ⟨rfl, c1, c2⟩ | ⟨_, c1⟩
        · exact ne c1 o ((Option.some.inj c2).trans ez.symm)
        · exact b2 o k p ez c1
      exact h2 F2 H2 _ (Sub.refl F2) S4
    · simp only [hl, if_false] at h2
      exact h2.elim
  cases u with
  | v d =>
    refine ⟨c.H0, spost_bind (R' := RIt c) S1 h1 fun w z F2 ρ2 ps2 H2 s2 S2 r2 h2 => ?_⟩
    exact ⟨v, z, rfl, fin w z F2 ρ2 ps2 H2 S2 (Rep.mono s2 r1) r2 (fun o => by cases o) h2⟩
  | o ds =>
    obtain ⟨p, vs, ev, e1, rl, w0, no⟩ := r1
    subst ev
    have nb : c.F0 p = none := by
      cases q : c.F0 p with
      | none => rfl
      | some u => have := S1.base _ _ q; rw [w0.nf] at this; cases this
    refine ⟨upd c.H0 p (.lst vs), spost_bind_un (c := c) (c' := c.and p (.lst vs)) (R' := RIt (c.and p (.lst vs))) rfl rfl (fun F' H' ρ' ps' S' => (SR.un w0.n0 w0.np S').1) (S1.and e1 w0 no) h1 fun w z F2 ρ2 ps2 H2 s2 S2 r2 h2 => ?_⟩
    obtain ⟨S2c, e2, f2, no2⟩ := SR.un w0.n0 w0.np S2
    refine ⟨.ref p, z, rfl, fin w z F2 ρ2 ps2 H2 S2c ⟨p, vs, rfl, e2, rl.mono s2, ⟨f2.trans nb, w0.n0, w0.np⟩, no2⟩ ?_ ?_ h2⟩
    · cases w with
      | v d => exact r2
      | o es =>
        obtain ⟨p', us, ez, e3, rl3, w3, no3⟩ := r2
        refine ⟨p', us, ez, e3, rl3, ⟨w3.nf, ?_, w3.np⟩, no3⟩
        have n0 : upd c.H0 p (.lst vs) p' = none := w3.n0
        by_cases ep : p' = p
        · subst ep; rw [upd_same] at n0; cases n0
        · rw [upd_ne ep] at n0; exact n0
      | nd =>
        obtain ⟨p', ez, e3, w3, no3⟩ := r2
        refine ⟨p', ez, e3, ⟨w3.nf, ?_, w3.np⟩, no3⟩
        have n0 : upd c.H0 p (.lst vs) p' = none := w3.n0
        by_cases ep : p' = p
        · subst ep; rw [upd_same] at n0; cases n0
        · rw [upd_ne ep] at n0; exact n0
    · intro _ ow ez
      cases w with
      | v d => cases ow
      | o es =>
        obtain ⟨p', us, ez', e3, rl3, w3, no3⟩ := r2
        rw [ez'] at ez
        cases ez
        have n0 : upd c.H0 p (.lst vs) p = none := w3.n0
        rw [upd_same] at n0; cases n0
      | nd =>
        obtain ⟨p', ez', e3, w3, no3⟩ := r2
        rw [ez'] at ez
        cases ez
        have n0 : upd c.H0 p (.lst vs) p = none := w3.n0
        rw [upd_same] at n0; cases n0
  | nd =>
    obtain ⟨p, ev, e1, w0, no⟩ := r1
    subst ev
    have nb : c.F0 p = none := by
      cases q : c.F0 p with
      | none => rfl
      | some u => have := S1.base _ _ q; rw [w0.nf] at this; cases this
    refine ⟨upd c.H0 p (.dK []), spost_bind_un (c := c) (c' := c.and p (.dK [])) (R' := RIt (c.and p (.dK []))) rfl rfl (fun F' H' ρ' ps' S' => (SR.un w0.n0 w0.np S').1) (S1.and e1 w0 no) h1 fun w z F2 ρ2 ps2 H2 s2 S2 r2 h2 => ?_⟩
    obtain ⟨S2c, e2, f2, no2⟩ := SR.un w0.n0 w0.np S2
    refine ⟨.ref p, z, rfl, fin w z F2 ρ2 ps2 H2 S2c ⟨p, rfl, e2, ⟨f2.trans nb, w0.n0, w0.np⟩, no2⟩ ?_ ?_ h2⟩
    · cases w with
      | v d => exact r2
      | o es =>
        obtain ⟨p', us, ez, e3, rl3, w3, no3⟩ := r2
        refine ⟨p', us, ez, e3, rl3, ⟨w3.nf, ?_, w3.np⟩, no3⟩
        have n0 : upd c.H0 p (.dK []) p' = none := w3.n0
        by_cases ep : p' = p
        · subst ep; rw [upd_same] at n0; cases n0
        · rw [upd_ne ep] at n0; exact n0
      | nd =>
        obtain ⟨p', ez, e3, w3, no3⟩ := r2
        refine ⟨p', ez, e3, ⟨w3.nf, ?_, w3.np⟩, no3⟩
        have n0 : upd c.H0 p (.dK []) p' = none := w3.n0
        by_cases ep : p' = p
        · subst ep; rw [upd_same] at n0; cases n0
        · rw [upd_ne ep] at n0; exact n0
    · intro _ ow ez
      cases w with
      | v d => cases ow
      | o es =>
        obtain ⟨p', us, ez', e3, rl3, w3, no3⟩ := r2
        rw [ez'] at ez
        cases ez
        have n0 : upd c.H0 p (.dK []) p = none := w3.n0
        rw [upd_same] at n0; cases n0
      | nd =>
        obtain ⟨p', ez', e3, w3, no3⟩ := r2
        rw [ez'] at ez
        cases ez
        have n0 : upd c.H0 p (.dK []) p = none := w3.n0
        rw [upd_same] at n0; cases n0
end
end PL

set_option maxHeartbeats 2000000
namespace PL
open PySem L2 PySem.Spec PyProof.Rows

/-! ### repr -/
mutual
def shwD : D → Bool
  | .non => true | .bl _ => true | .str s => okS s
  | .int i => decide (i.natAbs.log2 < 1920)
  | .tup xs => shwL xs
  | .lst xs => shwL xs
  | _ => false
def shwL : List D → Bool
  | [] => true
  | d :: ds => shwD d && shwL ds
end
mutual
theorem shw_py : ∀ d : D, shwD d = true → (toPy d).showable = true ∧ (toPy d).hasDict = false
  | .non, _ => ⟨by simp [toPy, PyData.showable], by simp [toPy, PyData.hasDict]⟩
  | .bl _, _ => ⟨by simp [toPy, PyData.showable], by simp [toPy, PyData.hasDict]⟩
  | .str s, _ => ⟨by simp [toPy, PyData.showable], by simp [toPy, PyData.hasDict]⟩
  | .int i, h => ⟨by simpa [toPy, PyData.showable, shwD] using h, by simp [toPy, PyData.hasDict]⟩
  | .tup xs, h => by
    obtain ⟨a, b⟩ := shwL_py xs (by simpa [shwD] using h)
    exact ⟨by simpa [toPy, PyData.showable] using a, by simpa [toPy, PyData.hasDict] using b⟩
  | .lst xs, h => by
    obtain ⟨a, b⟩ := shwL_py xs (by simpa [shwD] using h)
    exact ⟨by simpa [toPy, PyData.showable] using a, by simpa [toPy, PyData.hasDict] using b⟩
  | .dic _ _, h => by simp [shwD] at h
  | .ins _ _ _, h => by simp [shwD] at h
  | .fn _, h => by simp [shwD] at h
  | .pen, h => by simp [shwD] at h
theorem shwL_py : ∀ ds : List D, shwL ds = true → PyData.showableAll (toPyL ds) = true ∧ PyData.hasDictAll (toPyL ds) = false
  | [], _ => ⟨by simp [toPyL, PyData.showableAll], by simp [toPyL, PyData.hasDictAll]⟩
  | d :: ds, h => by
    have h' : shwD d = true ∧ shwL ds = true := by simpa [shwL, Bool.and_eq_true] using h
    obtain ⟨a1, a2⟩ := shw_py d h'.1
    obtain ⟨b1, b2⟩ := shwL_py ds h'.2
    exact ⟨by simp [toPyL, PyData.showableAll, a1, b1], by simp [toPyL, PyData.hasDictAll, a2, b2]⟩
end
/-- a list's or a tuple's text -/
def isSq : D → Bool
  | .tup _ => true | .lst _ => true | _ => false
/-- the text of a value: a bool, a list, a tuple -/
def reprD (d : D) : Option D := match d with
  | .bl b => some (.str (if b = true then "True" else "False"))
  | d => if isSq d = true ∧ shwD d = true ∧ okD 60 d = true ∧ (toPy d).shown.length ≤ sizeLine then some (.str (toPy d).shown) else none
def reprL : List D → Option D
  | [d] => reprD d
  | _ => none
def rReprB : List V → Hp → VK → Prop := fun xs H Q => ∃ b : Bool, xs = [V.bl b] ∧ Q (.str (if b = true then "True" else "False")) H
def rReprS (K : PySem.W.Frag) : List V → Hp → VK → Prop := fun xs H Q => ∃ (a : Addr) (d : PyData), xs = [V.ref a] ∧ Dp K H (.ref a) d ∧ d.showable = true ∧ d.hasDict = false ∧ d.depth ≤ 60 ∧ d.shown.length ≤ sizeLine ∧ Q (.str d.shown) H
section
variable {X : Cx}
theorem call_reprD (hG : X.A.guards = some []) (hu : X.A.units + 62 < cLine) : CallR X (.builtin "repr") (fun xs H Q => rReprB xs H Q ∨ rReprS X.K xs H Q) := by
  intro pins s σ H xs us Q I r h
  rcases h with ⟨b, rfl, q⟩ | ⟨a, d, rfl, hd, h1, h2, h3, h4, q⟩
  · obtain ⟨u, rfl, ru⟩ := vals1 r
    cases (show u = Value.bool b from ru)
    exact PySem.P.repr_of_bool ⟨.str _, H, I.tok _, ⟨_, rfl⟩, q⟩
  · obtain ⟨u, rfl, ru⟩ := vals1 r
    cases (show u = Value.ref a from ru)
    obtain ⟨as, hr⟩ := Dp.reads I d (.ref a) (.ref a) hd rfl
    refine repr_of_reads' hr h1 (PyData.noDict_hsm h2) hG (by omega) (fun _ _ e => e) (fun h' u tk hk => ?_) h4
    exact ⟨.str d.shown, H, I.kept (t' := tk) hk, ⟨u, rfl⟩, q⟩
theorem repr_ref {T : Tab} {pa : Pa} {F : Hp} {d : D} {v : V} (h : isSq d = true) (r : Rep T pa F d v) : ∃ a, v = .ref a := by
  cases d <;> first
    | (simp [isSq] at h; done)
    | (obtain ⟨a, vs, e, _⟩ := r; exact ⟨a, e⟩)
theorem d_repr {c : Ct} {K : PySem.W.Frag} : CallD c (fun xs H Q => rReprB xs H Q ∨ rReprS K xs H Q) reprL := by
  intro F H ρ ps σ ds vs Q S r h
  match ds, r, h with
  | [], _, h => exact (okd_none h).elim
  | [d], r, h =>
    obtain ⟨v, vr, ev, r1, r2⟩ := r
    cases r2
    subst ev
    have h' : OkD c σ F ρ ps (reprD d) Q := h
    by_cases hb : ∃ b, d = .bl b
    · obtain ⟨b, rfl⟩ := hb
      have r1 : v = .bl b := r1
      subst r1
      exact .inl ⟨b, rfl, OkD.flat h' S rfl⟩
    · have e : reprD d = if isSq d = true ∧ shwD d = true ∧ okD 60 d = true ∧ (toPy d).shown.length ≤ sizeLine then some (.str (toPy d).shown) else none := by
        cases d <;> first
          | rfl
          | exact absurd ⟨_, rfl⟩ hb
      rw [e] at h'
      by_cases hc : isSq d = true ∧ shwD d = true ∧ okD 60 d = true ∧ (toPy d).shown.length ≤ sizeLine
      · rw [if_pos hc] at h'
        obtain ⟨c1, c2, c3, c4⟩ := hc
        obtain ⟨a, rfl⟩ := repr_ref c1 r1
        exact .inr ⟨a, toPy d, rfl, rep_dp S.sub 60 d _ c3 r1, (shw_py d c2).1, (shw_py d c2).2, (okD_py 60 d c3).2, c4, OkD.flat h' S rfl⟩
      · rw [if_neg hc] at h'
        exact (okd_none h').elim
  | _ :: _ :: _, _, h => exact (okd_none h).elim
end

/-! ### a def that is run around callerA alone -/
structure FnAt (A : Around) (P : Program) (w : World) (K : PySem.W.Frag) (mg : Str → Option Value) (base : Heap) (CX : CXT) (k : Nat) (f : Addr) (fd : FuncData) (ps : List Str) (sp : Sp) : Prop where
  run : ∀ (outer : List Env) (s : Shared) (H : Hp) (args : Args) (us : List Value) (vs : List V) (Q : VK) (E : XK), Room k A → Env0 P w K mg base A outer s H → BindsTo s fd args (ps.zip us) → Vals vs us → sp vs H Q E →
    codeAny (model P w) A (.call (.ref f) args) (CR CX outer P w H s Q E) s
section
variable {P : Program} {w : World} {K : PySem.W.Frag} {mg : Str → Option Value} {base : Heap}
theorem fn_at {A : Around} {CX : CXT} {k : Nat} {f : Addr} {name qual : Str} {params : Arguments} {body : List Stmt} {scope : Scope} {dV kV doc pm cdv ct oc : Value} {an od : Option Addr}
    {osl : Array (Option Value)} {N ps : List Str} {sp : Sp} (lk : K.lookup f = some ⟨oc, od, .func (PySem.W.fnOf name qual params body scope dV kV doc pm an cdv ct), osl⟩) (hcd : PySem.W.codeIn K cdv qual = true) (S : FnScope N ps scope)
    (len : ∀ vs H Q E, sp vs H Q E → vs.length = ps.length)
    (hbody : ∀ (outer : List Env) (s : Shared) (H : Hp) (vs : List V) (Q : VK) (E : XK), Room k (A.deeper (envOfC qual scope s.heap.objs.size f cdv)) → sp vs H Q E →
      ∃ t, PSs (cxOf CX P w K mg base N qual scope f cdv A outer s H E) body t ∧ t { nx := fun _ H' => Q .non H', rt := Q } (start N vs) H) :
    FnAt A P w K mg base CX (k + 1) f (PySem.W.fnOf name qual params body scope dV kV doc pm an cdv ct) ps sp := by
  refine ⟨fun outer s H args us vs Q E hr e0 hb r hsp => ?_⟩
  have hl := len _ _ _ _ hsp
  have KX : K.In s.heap := e0.mod.kin.keeps fun b o e => (e0.bs b o e).1
  have lim := e0.mod.nolimit.keeps fun b o e => (e0.bs b o e).1
  have hkind : ∀ y ∈ ps.zip us, scope.names.lookup y.1 = some .local ∨ (scope.names.lookup y.1 = some .cell ∧ ((cellsFrom (s.heap.objs.size + 1) scope.names []).lookup y.1).isSome = true) := by
    rintro ⟨n, v⟩ hy
    cases S.par n (List.of_mem_zip hy).1 with
    | inl q => exact .inl q
    | inr q => exact .inr ⟨q, PySem.W.cellsFrom_some _ _ _ (.inl q)⟩
  refine codeAny_call_function hr.depth (KX _ _ lk) rfl S.co S.gen rfl (PySem.W.codeRec_of KX hcd) (hb _ _ _ _ ?_)
  refine wpAny_newFunctionEnv_cells S.kind hkind fun env he s1 x => ?_
  subst he
  refine ⟨lim.keeps x.toInCall.keep, codeAny_func ?_⟩
  obtain ⟨t, ht, hq⟩ := hbody outer s H vs Q E (hr.deeper _) hsp
  have I : L2.Inv (cxOf CX P w K mg base N qual scope f cdv A outer s H E) [] (start N vs) H s1 := inv_start S hr.hd e0 hl r x
  refine wpAny_mono (ht.run [] s1 (start N vs) H _ I hq) (fun fl s' hs => ?_) fun e s' hs => hs
  have fin : ∀ {σ' : L2.St} {H' : Hp} {v : V} {u : Value}, L2.Inv (cxOf CX P w K mg base N qual scope f cdv A outer s H E) [] σ' H' s' → RelV v u → Q v H' → CE outer P w H s Q u s' :=
    fun {σ' H' v u} J rv q => ⟨v, H', J.os, J.bare, J.base, J.hok, rv, q⟩
  cases fl with
  | next => obtain ⟨σ', H', J, q⟩ := hs; exact fin (v := V.non) (u := Value.none) J rfl q
  | ret u => obtain ⟨v, σ', H', J, rv, q⟩ := hs; exact fin J rv q
  | brk => obtain ⟨_, _, _, q⟩ := hs; exact False.elim q
  | cont => obtain ⟨_, _, _, q⟩ := hs; exact False.elim q
theorem Fun.okA {A : Around} {x qual : Str} {st : Stmt} {f : Addr} {fd : FuncData} {N ps : List Str} {k : Nat} {sp : Sp} (F : Fun K x qual st f fd) (S : FnScope N ps (defScope st)) (len : ∀ vs H Q E, sp vs H Q E → vs.length = ps.length)
    (hbody : ∀ (cdv : Value) (outer : List Env) (s : Shared) (H : Hp) (vs : List V) (Q : VK) (E : XK), Room k (A.deeper (envOfC qual (defScope st) s.heap.objs.size f cdv)) → sp vs H Q E →
      ∃ t, PSs (cxOf (L2.CX P w) P w K mg base N qual (defScope st) f cdv A outer s H E) (defBody st) t ∧ t { nx := fun _ H' => Q .non H', rt := Q } (start N vs) H) : FnAt A P w K mg base (L2.CX P w) (k + 1) f fd ps sp := by
  obtain ⟨oc, od, kV, doc, pm, an, cdv, ct, osl, rfl, lk, hcd⟩ := F.ex
  exact fn_at lk hcd S len fun outer s H vs Q E hr hsp => hbody cdv outer s H vs Q E hr hsp
end
end PL

set_option maxHeartbeats 2000000
namespace PL
open PySem L2 PySem.Spec PyProof.Rows

/-! ### the pen is made of the script -/
def scrN : Str := "$"
/-- the data of a script's numbers -/
def dInts (ns : List Int) : List D := ns.map .int
theorem repL_ints {T : Tab} {pa : Pa} {F : Hp} : ∀ ns : List Int, RepL T pa F (dInts ns) (ns.map V.int)
  | [] => RepL.nil
  | n :: ns => RepL.cons rfl (repL_ints ns)
theorem repL_ints_eq {T : Tab} {pa : Pa} {F : Hp} : ∀ {ns : List Int} {vs : List V}, RepL T pa F (dInts ns) vs → vs = ns.map V.int
  | [], _, h => by cases h; rfl
  | n :: ns, _, ⟨v, r, e, h1, h2⟩ => by
    have h1 : v = .int n := h1
    subst e h1
    rw [repL_ints_eq (ns := ns) h2]
    rfl
/-- what a call of the pen's def promises: the script at a -/
def spPen (K : PySem.W.Frag) : Sp := fun vs H Q _ => ∃ (a : Addr) (ns : List Int), vs = [.ref a] ∧ ns.length ≤ 63 ∧ SqL K H a (ns.map V.int) ∧
  ∀ (H' : Hp) (p ca : Addr), (∀ b o, H b = some o → H' b = some o) → H p = none → H ca = none → p ≠ ca → H' p = some (.lst [.ref ca, .int 0, .int 0]) → H' ca = some (.lst (ns.map V.int)) → Q (.ref p) H'
section
variable {X : Cx} {c : Ct} {E : XK} {pos : Pos} {e : Expr} {me : EM D}
/-- script[:63]: the whole of a script of at most 63 -/
def fScr (ns : List Int) (m : EM D) : EM (List D) := bindE m fun d => liftO (match d with | .fn x => if x = scrN then some (dInts ns) else none | _ => none)
theorem f_scr {k : Nat} {p1 p2 : Pos} {ns : List Int} (hl : ns.length ≤ 63) (hn : c.pa = none) (hS : SqL X.K c.H0 (c.T.fn scrN) (ns.map V.int)) (he : PE X e (pT c E me)) :
    PE X (.Subscript e (.Slice none (some (.Constant (.int 63) k p1)) none p2) pos) (pTF c E (fScr ns me)) :=
  (pe_slice sl_list he po_none (po_some pe_int)).imp fun σ H Q ⟨F, ρ, ps, S, h⟩ => post_bind S h fun d v F1 ρ1 ps1 H1 s1 S1 r1 h1 => by
    cases d <;> first
      | exact h1.elim
      | skip
    rename_i x
    by_cases hx : x = scrN
    · subst hx
      have r1 : v = .ref (c.T.fn scrN) := r1
      subst r1
      have h1' : post c E (RF c) Q σ F1 (pureE (dInts ns) ρ1 ps1) := by
        have h2 := h1
        simp only [if_true] at h2
        exact h2
      have hs : SqL X.K H1 (c.T.fn scrN) (ns.map V.int) := by
        have np : c.pa.at ≠ some (c.T.fn scrN) := by rw [hn]; intro z; cases z
        rcases hS with hS | hS
        · rcases hS with hS | ⟨o, hS⟩
          · exact .inl (.inl (S1.keep _ _ hS np))
          · exact .inl (.inr ⟨o, S1.keep _ _ hS np⟩)
        · exact .inr hS
      refine ⟨63, rfl, c.T.fn scrN, ns.map V.int, rfl, hs, fun p n => ?_⟩
      have ecut : cutV (ns.map V.int) none (some 63) = ns.map V.int := by
        unfold cutV
        have e1 : HT.sIx (ns.map V.int).length 0 none = 0 := rfl
        have e2 : HT.sIx (ns.map V.int).length (ns.map V.int).length (some 63) = ns.length := by
          have := HT.sIx_nat (ns.map V.int).length (ns.map V.int).length 63
          rw [List.length_map] at this ⊢
          rw [show ((63 : Nat) : Int) = (63 : Int) from rfl] at this
          rw [this]; omega
        rw [e1, e2, List.drop_zero, Nat.sub_zero]
        exact List.take_of_length_le (by rw [List.length_map]; exact Nat.le_refl _)
      rw [ecut]
      exact new_fresh S1 (repL_ints ns) h1' n
    · have h2 := h1
      simp only [hx, if_false] at h2
      exact h2.elim
end

/-! ### the law's own call -/
theorem law_callA {P : Program} {w : World} {K : PySem.W.Frag} {mg mb : Str → Option Value} {CX : CXT} {k : Nat} {fa a : Addr} {fd : FuncData} {x : Str} {sp : Sp} {s₁ : Shared} {vs : List Value} {ns : List Int}
    (KX : K.In s₁.heap) (hns : s₁.heap.Ns mainGlobals mg) (hb : s₁.heap.Ns builtinsNs mb) (hbb : ∀ x : Str, x ≠ "__name__" → mb x = bootBuiltins x) (hlim : s₁.heap.NoLimit) (hg : s₁.gens = #[])
    (ha : s₁.heap.get? a = some { cls := .type "list", data := .seq vs.toArray }) (hi : IntsAre vs ns) (hl : ns.length ≤ sizeLine) (hr : Room k callerA)
    (F : ∀ base : Heap, K.In base → base.Ns mainGlobals mg → FnAt callerA P w K mg base CX k fa fd [x] sp) (hbind : ∀ (s : Shared) (u : Value), BindsTo s fd ⟨[u], []⟩ [(x, u)])
    (hsp : ∀ H : Hp, Only H → SqL K H a (ns.map V.int) → sp [.ref a] H (fun v _ => v = .bl true) fun _ _ _ => False)
    (hCX : ∀ H e s', CX [] H s₁ (fun _ _ _ => False) e s' → False) :
    codeAny (model P w) callerA (.call (.ref fa) ⟨[.ref a], []⟩) (fun r s' => r = .ok (.ret (.bool true)) ∧ OldK s₁.heap s'.heap ∧ s'.os = s₁.os ∧ AllBare s'.gens) s₁ := by
  have rv := vals_ints hi
  -- the heap H tells of the script at most, and then just as it stands
  have go : ∀ H : Hp, (∀ b, H b = none ∨ (b = a ∧ K.lookup a = none ∧ H b = some (.frz { cls := .type "list", data := .seq vs.toArray } (.lst (ns.map V.int))))) → SqL K H a (ns.map V.int) →
      codeAny (model P w) callerA (.call (.ref fa) ⟨[.ref a], []⟩) (fun r s' => r = .ok (.ret (.bool true)) ∧ OldK s₁.heap s'.heap ∧ s'.os = s₁.os ∧ AllBare s'.gens) s₁ := by
    intro H tells hS
    have hO : Only H := fun b => (tells b).elim .inl fun z => .inr ⟨_, _, z.2.2⟩
    have hok : HOk P w H s₁.heap := fun b u z => by
      rcases tells b with q | ⟨q1, q2, q3⟩
      · rw [q] at z; cases z
      · subst q1
        rw [q3] at z; cases z
        exact ⟨ha, by rw [List.length_map]; exact hl, vs, _, rv, ha⟩
    have hid : ∀ {b : Addr} {o : Obj}, s₁.heap.get? b = some o → H b = none → (hidT s₁.heap H).get? b = some o := fun e n => hidT_get e n
    have noA : ∀ {b : Addr} {o : Obj} {es : Array DictEntry} {ep : Nat}, s₁.heap.get? b = some o → o.data = .dict es ep → H b = none := fun {b o es ep} e d => by
      rcases tells b with q | ⟨q1, q2, q3⟩
      · exact q
      · subst q1
        rw [ha] at e; cases e
        cases (show Data.seq vs.toArray _ = Data.dict es ep from d)
    have nsK : ∀ {b : Addr} {m : Str → Option Value}, s₁.heap.Ns b m → (hidT s₁.heap H).Ns b m := fun {b m} ⟨o, es, ep, e, d, r⟩ => ⟨o, es, ep, hid e (noA e d), d, r⟩
    have hKb : K.In (hidT s₁.heap H) := fun b o e => hid (KX b o e) (by
      rcases tells b with q | ⟨q1, q2, q3⟩
      · exact q
      · subst q1; rw [q2] at e; cases e)
    have hM : Mod K mg (hidT s₁.heap H) := ⟨hKb, nsK hns, ⟨mb, nsK hb, hbb⟩, let ⟨mc, h1, h2⟩ := hlim; ⟨mc, nsK h1, h2⟩⟩
    have e0 : Env0 P w K mg (hidT s₁.heap H) callerA [] s₁ H := ⟨rfl, hM, fun b o e => of_hidT e, Nat.le_of_eq (hidT_size _ _), trivial, fun b hb => absurd (show b ∈ ([] : List Addr) from hb) (by simp), hok, .of_eq hg⟩
    have run := (F _ hKb (nsK hns)).run [] s₁ H ⟨[.ref a], []⟩ [.ref a] [.ref a] _ _ hr e0 (hbind s₁ (.ref a)) (.cons rfl .nil) (hsp H hO hS)
    refine codeAny_mono run fun r s' h => ?_
    cases r with
    | error e => exact (hCX H e s' h).elim
    | ok fl =>
      cases fl with
      | next => exact False.elim h
      | brk => exact False.elim h
      | cont => exact False.elim h
      | ret u =>
        obtain ⟨v, H', os, bare, un, hok', r', q⟩ := h
        have q : v = .bl true := q
        subst q
        obtain rfl : u = Value.bool true := r'
        refine ⟨rfl, OldK.of_keep fun b o e => ?_, os, bare⟩
        rcases tells b with z | ⟨q1, q2, q3⟩
        · exact un.keep b o e z (by intro z; exact absurd (show b ∈ ([] : List Addr) from z) (by simp)) (by simp)
        · subst q1
          rw [ha] at e; cases e
          exact (hok' b _ (un.frzs b _ _ q3)).1
  cases hk : K.lookup a with
  | none =>
    refine go (fun b => if b = a then some (.frz { cls := .type "list", data := .seq vs.toArray } (.lst (ns.map V.int))) else none) (fun b => ?_) (.inl (.inr ⟨{ cls := .type "list", data := .seq vs.toArray }, if_pos rfl⟩))
    by_cases z : b = a
    · exact .inr ⟨z, hk, if_pos z⟩
    · exact .inl (if_neg z)
  | some o =>
    have e := KX a o hk
    rw [ha] at e
    cases e
    exact go (fun _ => none) (fun _ => .inl rfl) (.inr ⟨_, vs.toArray, _, hk, rfl, rfl, rfl, by rw [List.size_toArray, hi.length]; exact hl, by simpa using rv⟩)
/-- the goal that k_head leaves, from the law's promise around callerA -/
theorem walk_ofA {l : PySem.W.OpenLaw} {n k : Nat} {q : Program} {loose : List Str} {XP : (Str → Option Value) → Heap → Prop} {YP : World → Heap → Prop} {d : DefRec} {K : Params → PySem.W.Frag} {CX : World → CXT} {sp : World → Sp} {x : Str}
    (hn : l.most = some n) (hn2 : n ≤ sizeLine) (hdf : d.params.defaults = []) (hr : Room k callerA)
    (hY : ∀ (w : World) (h : Heap), YP w h → (K w.params).In h)
    (F : ∀ (w : World) (mg : Str → Option Value) (fa : Addr) (h : Heap), (K w.params).In h → h.Ns mainGlobals mg → mg d.name = some (.ref fa) →
      ∃ fd : FuncData, (∀ (s : Shared) (u : Value), BindsTo s fd ⟨[u], []⟩ [(x, u)]) ∧
        ∀ base : Heap, (K w.params).In base → base.Ns mainGlobals mg → FnAt callerA l.prog w (K w.params) mg base (CX w) k fa fd [x] (sp w))
    (hsp : ∀ (w : World) (H : Hp) (a : Addr) (ns : List Int), ns.length ≤ n → Only H → SqL (K w.params) H a (ns.map V.int) → sp w [.ref a] H (fun v _ => v = .bl true) fun _ _ _ => False)
    (hCX : ∀ (w : World) (H : Hp) (s : Shared) (e : Value) (s' : Shared), CX w [] H s (fun _ _ _ => False) e s' → False) :
    PySem.W.WalkO q loose XP YP l.row.toRowW d [] (fun f vs => PySem.call f vs) := by
  refine Att.attach_call hn hdf fun w s₀ s₁ mg mb fa o pm cd doc a vs ns G Y ho hd hcd hmg hobj hints hlen hg => ?_
  have KX := hY w _ Y
  obtain ⟨fd, hb, hF⟩ := F w mg fa _ KX G.T.g hmg
  exact law_callA KX G.T.g G.T.b G.T.builtins G.T.nolimit hg hobj hints (Nat.le_trans hlen hn2) hr hF hb (fun H hO hS => hsp w H a ns hlen hO hS) fun H e s' => hCX w H s₁ e s'
/-- what the law promises -/
def spLaw (K : PySem.W.Frag) : Sp := fun vs H Q _ => ∃ (a : Addr) (ns : List Int), vs = [.ref a] ∧ ns.length ≤ 63 ∧ SqL K H a (ns.map V.int) ∧ ∀ H', Q (.bl true) H'
end PL

set_option maxHeartbeats 2000000
namespace PL
open PySem L2
section
variable {X : Cx} {c : Ct} {E : XK} {pos : Pos} {e a b : Expr} {es : List Expr} {me ma mb : EM D} {ml : EM (List D)} {mf : EM (List D)} {j : Nat}
theorem hu1 (hr : Room j X.A) : X.A.units + 1 < cLine := by have := hr.un; omega

theorem hu65 (hr : Room j X.A) : X.A.units + 65 < cLine := by have := hr.un; omega
/-! operators, values -/
theorem x_add (ha : PE X a (pT c E ma)) (hb : PE X b (pT c E mb)) : PE X (.BinOp a .Add b pos) (pT c E (eOp2 addD ma mb)) := by
  obtain ⟨r, h1, h2⟩ := o_add (X := X) (c := c); exact g_op h1 h2 ha hb
theorem x_mul (ha : PE X a (pT c E ma)) (hb : PE X b (pT c E mb)) : PE X (.BinOp a .Mult b pos) (pT c E (eOp2 mulD ma mb)) := by
  obtain ⟨r, h1, h2⟩ := o_mul (X := X) (c := c); exact g_op h1 h2 ha hb
theorem x_sub (ha : PE X a (pT c E ma)) (hb : PE X b (pT c E mb)) : PE X (.BinOp a .Sub b pos) (pT c E (eOp2 subD ma mb)) := g_op op_sub o_sub ha hb
theorem x_mod (ha : PE X a (pT c E ma)) (hb : PE X b (pT c E mb)) : PE X (.BinOp a .Mod b pos) (pT c E (eOp2 modD ma mb)) := g_op op_mod o_mod ha hb
theorem x_fdiv (ha : PE X a (pT c E ma)) (hb : PE X b (pT c E mb)) : PE X (.BinOp a .FloorDiv b pos) (pT c E (eOp2 fdivD ma mb)) := g_op op_fdiv o_fdiv ha hb
theorem x_pow (ha : PE X a (pT c E ma)) (hb : PE X b (pT c E mb)) : PE X (.BinOp a .Pow b pos) (pT c E (eOp2 powD ma mb)) := g_op op_pow o_pow ha hb
theorem x_neg (ha : PE X a (pT c E ma)) : PE X (.UnaryOp .USub a pos) (pT c E (eOp1 negD ma)) := g_un un_neg o_neg ha
theorem x_eq (hr : Room j X.A) (ha : PE X a (pT c E ma)) (hb : PE X b (pT c E mb)) : PE X (.Compare a [.Eq] [b] pos) (pT c E (eOp2 eqD ma mb)) := by
  obtain ⟨r, h1, h2⟩ := o_eq (X := X) (c := c) (hu64 hr); exact g_cmp h1 h2 ha hb
theorem x_ne (hr : Room j X.A) (ha : PE X a (pT c E ma)) (hb : PE X b (pT c E mb)) : PE X (.Compare a [.NotEq] [b] pos) (pT c E (eOp2 neD ma mb)) := by
  obtain ⟨r, h1, h2⟩ := o_ne (X := X) (c := c) (hu64 hr); exact g_cmp h1 h2 ha hb
theorem x_lt (ha : PE X a (pT c E ma)) (hb : PE X b (pT c E mb)) : PE X (.Compare a [.Lt] [b] pos) (pT c E (eOp2 ltD ma mb)) := g_cmp op_lt o_lt ha hb
theorem x_le (ha : PE X a (pT c E ma)) (hb : PE X b (pT c E mb)) : PE X (.Compare a [.LtE] [b] pos) (pT c E (eOp2 leD ma mb)) := g_cmp op_le o_le ha hb
theorem x_gt (ha : PE X a (pT c E ma)) (hb : PE X b (pT c E mb)) : PE X (.Compare a [.Gt] [b] pos) (pT c E (eOp2 gtD ma mb)) := g_cmp op_gt o_gt ha hb
theorem x_ge (ha : PE X a (pT c E ma)) (hb : PE X b (pT c E mb)) : PE X (.Compare a [.GtE] [b] pos) (pT c E (eOp2 geD ma mb)) := g_cmp op_ge o_ge ha hb
theorem x_is (ha : PE X a (pT c E ma)) (hb : PE X b (pT c E mb)) : PE X (.Compare a [.Is] [b] pos) (pT c E (eOp2 isD ma mb)) := by
  obtain ⟨r, h1, h2⟩ := o_is (X := X) (c := c); exact g_cmp h1 h2 ha hb
theorem x_isn (ha : PE X a (pT c E ma)) (hb : PE X b (pT c E mb)) : PE X (.Compare a [.IsNot] [b] pos) (pT c E (eOp2 isnD ma mb)) := by
  obtain ⟨r, h1, h2⟩ := o_isn (X := X) (c := c); exact g_cmp h1 h2 ha hb
theorem x_in (hr : Room j X.A) (ha : PE X a (pT c E ma)) (hb : PE X b (pT c E mb)) (hm : behindInMarks .In b = false := by rfl) : PE X (.Compare a [.In] [b] pos) (pT c E (eOp2 inD ma mb)) := by
  obtain ⟨r, h1, h2⟩ := o_in (X := X) (c := c) (hu65 hr); exact g_cmp h1 h2 ha hb hm
theorem x_nin (hr : Room j X.A) (ha : PE X a (pT c E ma)) (hb : PE X b (pT c E mb)) (hm : behindInMarks .NotIn b = false := by rfl) : PE X (.Compare a [.NotIn] [b] pos) (pT c E (eOp2 ninD ma mb)) := by
  obtain ⟨r, h1, h2⟩ := o_nin (X := X) (c := c) (hu65 hr); exact g_cmp h1 h2 ha hb hm
/-! tests of them -/
theorem y_eq (hr : Room j X.A) (ha : PE X a (pT c E ma)) (hb : PE X b (pT c E mb)) : PT X (.Compare a [.Eq] [b] pos) (pTT c E (eB (eOp2 eqD ma mb))) := by
  obtain ⟨r, h1, h2⟩ := o_eq (X := X) (c := c) (hu64 hr); exact t_cmp h1 h2 ha hb
theorem y_ne (hr : Room j X.A) (ha : PE X a (pT c E ma)) (hb : PE X b (pT c E mb)) : PT X (.Compare a [.NotEq] [b] pos) (pTT c E (eB (eOp2 neD ma mb))) := by
  obtain ⟨r, h1, h2⟩ := o_ne (X := X) (c := c) (hu64 hr); exact t_cmp h1 h2 ha hb
theorem y_lt (ha : PE X a (pT c E ma)) (hb : PE X b (pT c E mb)) : PT X (.Compare a [.Lt] [b] pos) (pTT c E (eB (eOp2 ltD ma mb))) := t_cmp op_lt o_lt ha hb
theorem y_le (ha : PE X a (pT c E ma)) (hb : PE X b (pT c E mb)) : PT X (.Compare a [.LtE] [b] pos) (pTT c E (eB (eOp2 leD ma mb))) := t_cmp op_le o_le ha hb
theorem y_gt (ha : PE X a (pT c E ma)) (hb : PE X b (pT c E mb)) : PT X (.Compare a [.Gt] [b] pos) (pTT c E (eB (eOp2 gtD ma mb))) := t_cmp op_gt o_gt ha hb
theorem y_ge (ha : PE X a (pT c E ma)) (hb : PE X b (pT c E mb)) : PT X (.Compare a [.GtE] [b] pos) (pTT c E (eB (eOp2 geD ma mb))) := t_cmp op_ge o_ge ha hb
theorem y_is (ha : PE X a (pT c E ma)) (hb : PE X b (pT c E mb)) : PT X (.Compare a [.Is] [b] pos) (pTT c E (eB (eOp2 isD ma mb))) := by
  obtain ⟨r, h1, h2⟩ := o_is (X := X) (c := c); exact t_cmp h1 h2 ha hb
theorem y_isn (ha : PE X a (pT c E ma)) (hb : PE X b (pT c E mb)) : PT X (.Compare a [.IsNot] [b] pos) (pTT c E (eB (eOp2 isnD ma mb))) := by
  obtain ⟨r, h1, h2⟩ := o_isn (X := X) (c := c); exact t_cmp h1 h2 ha hb
theorem y_in (hr : Room j X.A) (ha : PE X a (pT c E ma)) (hb : PE X b (pT c E mb)) (hm : behindInMarks .In b = false := by rfl) : PT X (.Compare a [.In] [b] pos) (pTT c E (eB (eOp2 inD ma mb))) := by
  obtain ⟨r, h1, h2⟩ := o_in (X := X) (c := c) (hu65 hr); exact t_cmp h1 h2 ha hb hm
theorem y_nin (hr : Room j X.A) (ha : PE X a (pT c E ma)) (hb : PE X b (pT c E mb)) (hm : behindInMarks .NotIn b = false := by rfl) : PT X (.Compare a [.NotIn] [b] pos) (pTT c E (eB (eOp2 ninD ma mb))) := by
  obtain ⟨r, h1, h2⟩ := o_nin (X := X) (c := c) (hu65 hr); exact t_cmp h1 h2 ha hb hm
/-! built-ins -/
variable {p : Pos}
theorem x_len (hg : Gl X "len") (hm : X.mg "len" = none) (ha : PE X e (pT c E me)) (he : starEach [e] X.env = (false, eval e X.env) :: starEach [] X.env := by rfl) (hpl : (backTo pos (starEach [] X.env)).any (·.1) = false := by rfl) : PE X (.Call (.Name "len" p) [e] [] pos) (pT c E (eOpN lenD (eCons me eNil))) := by
  obtain ⟨r, h1, h2⟩ := b_len (X := X) (c := c); exact g_bi h1 h2 hg hm PySem.boot_len (g_cons ha g_nil he) (he := he) (hpl := hpl)
theorem x_all (hc : X.calm = true) (hg : Gl X "all") (hm : X.mg "all" = none) (ha : PE X e (pT c E me)) (he : starEach [e] X.env = (false, eval e X.env) :: starEach [] X.env := by rfl) (hpl : (backTo pos (starEach [] X.env)).any (·.1) = false := by rfl) : PE X (.Call (.Name "all" p) [e] [] pos) (pT c E (eOpN allD (eCons me eNil))) :=
  g_bi (id := "all") (cr_all hc) (b_all hc) hg hm (by decide +kernel) (g_cons ha g_nil he) (he := he) (hpl := hpl)
theorem x_any (hc : X.calm = true) (hg : Gl X "any") (hm : X.mg "any" = none) (ha : PE X e (pT c E me)) (he : starEach [e] X.env = (false, eval e X.env) :: starEach [] X.env := by rfl) (hpl : (backTo pos (starEach [] X.env)).any (·.1) = false := by rfl) : PE X (.Call (.Name "any" p) [e] [] pos) (pT c E (eOpN anyD (eCons me eNil))) :=
  g_bi (id := "any") (cr_any hc) (b_any hc) hg hm (by decide +kernel) (g_cons ha g_nil he) (he := he) (hpl := hpl)
theorem x_abs (hg : Gl X "abs") (hm : X.mg "abs" = none) (ha : PE X e (pT c E me)) (he : starEach [e] X.env = (false, eval e X.env) :: starEach [] X.env := by rfl) (hpl : (backTo pos (starEach [] X.env)).any (·.1) = false := by rfl) : PE X (.Call (.Name "abs" p) [e] [] pos) (pT c E (eOpN absD (eCons me eNil))) := by
  obtain ⟨r, h1, h2⟩ := b_abs (X := X) (c := c); exact g_bi h1 h2 hg hm (by decide +kernel) (g_cons ha g_nil he) (he := he) (hpl := hpl)
theorem x_repr (hG : X.A.guards = some []) (hr : Room j X.A) (hg : Gl X "repr") (hm : X.mg "repr" = none) (ha : PE X e (pT c E me)) (he : starEach [e] X.env = (false, eval e X.env) :: starEach [] X.env := by rfl) (hpl : (backTo pos (starEach [] X.env)).any (·.1) = false := by rfl) : PE X (.Call (.Name "repr" p) [e] [] pos) (pT c E (eOpN reprL (eCons me eNil))) :=
  g_bi (call_reprD hG (by have := hr.un; omega)) d_repr hg hm (by decide +kernel) (g_cons ha g_nil he) (he := he) (hpl := hpl)
theorem x_tuple (hg : Gl X "tuple") (hm : X.mg "tuple" = none) (ha : PE X e (pT c E me)) (he : starEach [e] X.env = (false, eval e X.env) :: starEach [] X.env := by rfl) (hpl : (backTo pos (starEach [] X.env)).any (·.1) = false := by rfl) : PE X (.Call (.Name "tuple" p) [e] [] pos) (pT c E (eOpN tupleD (eCons me eNil))) := by
  obtain ⟨r, h1, h2⟩ := b_tuple (X := X) (c := c); exact g_biT h1 h2 hg hm (by decide +kernel) (g_cons ha g_nil he) (he := he) (hpl := hpl)
theorem x_int (hg : Gl X "int") (hm : X.mg "int" = none) (ha : PE X e (pT c E me)) (he : starEach [e] X.env = (false, eval e X.env) :: starEach [] X.env := by rfl) (hpl : (backTo pos (starEach [] X.env)).any (·.1) = false := by rfl) : PE X (.Call (.Name "int" p) [e] [] pos) (pT c E (eOpN intD (eCons me eNil))) := by
  obtain ⟨r, h1, h2⟩ := b_int (X := X) (c := c); exact g_biT h1 h2 hg hm (by decide +kernel) (g_cons ha g_nil he) (he := he) (hpl := hpl)
theorem x_bool (hg : Gl X "bool") (hm : X.mg "bool" = none) (ha : PE X e (pT c E me)) (he : starEach [e] X.env = (false, eval e X.env) :: starEach [] X.env := by rfl) (hpl : (backTo pos (starEach [] X.env)).any (·.1) = false := by rfl) : PE X (.Call (.Name "bool" p) [e] [] pos) (pT c E (eOpN boolD (eCons me eNil))) := by
  obtain ⟨r, h1, h2⟩ := b_bool (X := X) (c := c); exact g_biT h1 h2 hg hm (by decide +kernel) (g_cons ha g_nil he) (he := he) (hpl := hpl)
/-! an attribute's dict -/
/-! a, b = x, y where the names are not all plain locals: through a tuple -/
theorem s_par2n {i k : Nat} {x y : Str} {ia ib : EM Itm} {px py pt : Pos} {kt : Nat} {k2 : Nat} {pt2 : Pos} (hc : X.calm = true) (hN : X.N.Nodup) (hi : X.N[i]? = some x) (hj : X.N[k]? = some y)
    (hx : Loc X.env.scope x) (hy : Loc X.env.scope y) (ha : PE X a (pTi c E ia)) (hb : ∀ h : Hp, PE X b (pTi { c with H0 := h } E ib))
    (hw : swappedStores [.Tuple [.Name x px, .Name y py] kt pt] (.Tuple [a, b] k2 pt2) X.env = pure none := by rfl)
    (hs : swapsWithSole [.Tuple [.Name x px, .Name y py] kt pt] (.Tuple [a, b] k2 pt2) pos.line X.env = pure false := by rfl)
    (hfx : X.fn x = true ∨ X.env.scope.names.lookup x = some .local := by first | exact .inl rfl | exact .inr rfl) (hfy : X.fn y = true ∨ X.env.scope.names.lookup y = some .local := by first | exact .inl rfl | exact .inr rfl)
    (hA : (assignEach [.Tuple [.Name x px, .Name y py] kt pt] X.env).map (·.2) = [assign (.Tuple [.Name x px, .Name y py] kt pt) X.env] := by rfl)
    (hB : (assignEach [.Name x px, .Name y py] X.env).map (·.2) = assign (.Name x px) X.env :: (assignEach [.Name y py] X.env).map (·.2) := by rfl)
    (hC : (assignEach [.Name y py] X.env).map (·.2) = assign (.Name y py) X.env :: (assignEach [] X.env).map (·.2) := by rfl)
    (hn : (assignEach [.Name x px, .Name y py] X.env).length = 2 := by rfl) (hst : (assignEach [.Name x px, .Name y py] X.env).findIdx? (·.1) = none := by rfl)
    (h1 : starEach [a, b] X.env = (false, eval a X.env) :: starEach [b] X.env := by rfl) (h2 : starEach [b] X.env = (false, eval b X.env) :: starEach [] X.env := by rfl) :
    PS X (.Assign [.Tuple [.Name x px, .Name y py] kt pt] (.Tuple [a, b] k2 pt2) pos) (sT c E (sPar2 i k ia ib)) := by
  let tb : TE := fun σ H Q => ∃ h : Hp, pTi { c with H0 := h } E ib σ H Q
  have hB' : PE X b tb := ⟨fun pins s σ H Q I ⟨h, q⟩ => (hb h).run pins s σ H Q I q⟩
  refine (ps_asg (pe_tup (pa_cons ha (pa_cons hB' pa_nil h2) h1)) (pg_tup hc (pgs_cons (pg_name hN hi hx hfx) (pgs_cons (pg_name hN hj hy hfy) pgs_nil hC) hB) hn hst) hs hw hA).imp fun D σ H ⟨F, ρ, ps, S, h⟩ => ?_
  refine spost_bind S h fun u v F1 ρ1 ps1 H1 s1 S1 r1 h1 => ?_
  have fin : ∀ (w : Itm) (z : V) F2 ρ2 ps2 H2, SR c F2 H2 ρ2 ps2 σ → RIt c F2 H2 ρ2 σ u v → RIt c F2 H2 ρ2 σ w z → (isOwn u.slot = true → isOwn w.slot = true → v ≠ z) →
      spost c E D F2 ((fun ρ ps => if i < ρ.length ∧ k < ρ.length then SOut.nx ((ρ.set i u.slot).set k w.slot) ps else .stuck) ρ2 ps2) →
      ([v, z] : List V).length ≤ sizeLine ∧ ∀ p, H2 p = none → gTup X.K 2 (gCons (gName i) (gCons (gName k) gNil)) (.ref p) σ (upd H2 p (.tup [v, z])) D.nx := by
    intro w z F2 ρ2 ps2 H2 S2 ru rw' ne h2
    refine ⟨by show 2 ≤ sizeLine; rw [sizeLine_eq]; decide, fun p n => ?_⟩
    have kp : ∀ {it : Itm} {v : V}, RIt c F2 H2 ρ2 σ it v → RIt c F2 (upd H2 p (.tup [v, z])) ρ2 σ it v := fun {it v} r => by
      cases it with
      | v d => exact r
      | o ds =>
        obtain ⟨q, vs, ev, e1, rl, w, no⟩ := r
        exact ⟨q, vs, ev, by rw [upd_ne (ne_of_none e1 n)]; exact e1, rl, w, no⟩
      | nd =>
        obtain ⟨q, ev, e1, w, no⟩ := r
        exact ⟨q, ev, by rw [upd_ne (ne_of_none e1 n)]; exact e1, w, no⟩
    have kp2 : ∀ {it : Itm} {v' : V} {o : HO}, RIt c F2 H2 ρ2 σ it v' → RIt c F2 (upd H2 p o) ρ2 σ it v' := fun {it v' o} r => by
      cases it with
      | v d => exact r
      | o ds =>
        obtain ⟨q, vs, ev, e1, rl, w, no⟩ := r
        exact ⟨q, vs, ev, by rw [upd_ne (ne_of_none e1 n)]; exact e1, rl, w, no⟩
      | nd =>
        obtain ⟨q, ev, e1, w, no⟩ := r
        exact ⟨q, ev, by rw [upd_ne (ne_of_none e1 n)]; exact e1, w, no⟩
    by_cases hl : i < ρ2.length ∧ k < ρ2.length
    · simp only [hl, if_true, and_self] at h2
      obtain ⟨a1, a2⟩ := itm_slot (kp2 (o := .tup [v, z]) ru)
      obtain ⟨b1, b2⟩ := itm_slot (kp2 (o := .tup [v, z]) rw')
      have S3 := (S2.alloc (o := .tup [v, z]) n).set hl.1 a1 fun o p ep k => a2 o k p (Option.some.inj ep)
      have S4 := S3.set (i := k) (by rw [List.length_set]; exact hl.2) b1 fun o p ep k hk => by
        have ez : z = .ref p := Option.some.inj ep
        rcases owns_set hk S2.len with ⟨rfl, c1, c2⟩ | ⟨_, c1⟩
        · exact ne c1 o ((Option.some.inj c2).trans ez.symm)
        · exact b2 o k p ez c1
      exact ⟨p, [v, z], rfl, SqT.of upd_same, rfl, v, [z], rfl, z, [], rfl, rfl, h2 F2 _ _ (Sub.refl F2) S4⟩
    · simp only [hl, if_false] at h2
      exact h2.elim
  cases u with
  | v d =>
    refine ⟨c.H0, spost_bind (R' := RIt c) S1 h1 fun w z F2 ρ2 ps2 H2 s2 S2 r2 h2 => ?_⟩
    exact fin w z F2 ρ2 ps2 H2 S2 (Rep.mono s2 r1) r2 (fun o => by cases o) h2
  | o ds =>
    obtain ⟨p, vs, ev, e1, rl, w0, no⟩ := r1
    subst ev
    have nb : c.F0 p = none := by
      cases q : c.F0 p with
      | none => rfl
      | some u => have := S1.base _ _ q; rw [w0.nf] at this; cases this
    refine ⟨upd c.H0 p (.lst vs), spost_bind_un (c := c) (c' := c.and p (.lst vs)) (R' := RIt (c.and p (.lst vs))) rfl rfl (fun F' H' ρ' ps' S' => (SR.un w0.n0 w0.np S').1) (S1.and e1 w0 no) h1 fun w z F2 ρ2 ps2 H2 s2 S2 r2 h2 => ?_⟩
    obtain ⟨S2c, e2, f2, no2⟩ := SR.un w0.n0 w0.np S2
    refine fin w z F2 ρ2 ps2 H2 S2c ⟨p, vs, rfl, e2, rl.mono s2, ⟨f2.trans nb, w0.n0, w0.np⟩, no2⟩ ?_ ?_ h2
    · cases w with
      | v d => exact r2
      | o es =>
        obtain ⟨p', us, ez, e3, rl3, w3, no3⟩ := r2
        refine ⟨p', us, ez, e3, rl3, ⟨w3.nf, ?_, w3.np⟩, no3⟩
        have n0 : upd c.H0 p (.lst vs) p' = none := w3.n0
        by_cases ep : p' = p
        · subst ep; rw [upd_same] at n0; cases n0
        · rw [upd_ne ep] at n0; exact n0
      | nd =>
        obtain ⟨p', ez, e3, w3, no3⟩ := r2
        refine ⟨p', ez, e3, ⟨w3.nf, ?_, w3.np⟩, no3⟩
        have n0 : upd c.H0 p (.lst vs) p' = none := w3.n0
        by_cases ep : p' = p
        · subst ep; rw [upd_same] at n0; cases n0
        · rw [upd_ne ep] at n0; exact n0
    · intro _ ow ez
      cases w with
      | v d => cases ow
      | o es =>
        obtain ⟨p', us, ez', e3, rl3, w3, no3⟩ := r2
        rw [ez'] at ez
        cases ez
        have n0 : upd c.H0 p (.lst vs) p = none := w3.n0
        rw [upd_same] at n0; cases n0
      | nd =>
        obtain ⟨p', ez', e3, w3, no3⟩ := r2
        rw [ez'] at ez
        cases ez
        have n0 : upd c.H0 p (.lst vs) p = none := w3.n0
        rw [upd_same] at n0; cases n0
  | nd =>
    obtain ⟨p, ev, e1, w0, no⟩ := r1
    subst ev
    have nb : c.F0 p = none := by
      cases q : c.F0 p with
      | none => rfl
      | some u => have := S1.base _ _ q; rw [w0.nf] at this; cases this
    refine ⟨upd c.H0 p (.dK []), spost_bind_un (c := c) (c' := c.and p (.dK [])) (R' := RIt (c.and p (.dK []))) rfl rfl (fun F' H' ρ' ps' S' => (SR.un w0.n0 w0.np S').1) (S1.and e1 w0 no) h1 fun w z F2 ρ2 ps2 H2 s2 S2 r2 h2 => ?_⟩
    obtain ⟨S2c, e2, f2, no2⟩ := SR.un w0.n0 w0.np S2
    refine fin w z F2 ρ2 ps2 H2 S2c ⟨p, rfl, e2, ⟨f2.trans nb, w0.n0, w0.np⟩, no2⟩ ?_ ?_ h2
    · cases w with
      | v d => exact r2
      | o es =>
        obtain ⟨p', us, ez, e3, rl3, w3, no3⟩ := r2
        refine ⟨p', us, ez, e3, rl3, ⟨w3.nf, ?_, w3.np⟩, no3⟩
        have n0 : upd c.H0 p (.dK []) p' = none := w3.n0
        by_cases ep : p' = p
        · subst ep; rw [upd_same] at n0; cases n0
        · rw [upd_ne ep] at n0; exact n0
      | nd =>
        obtain ⟨p', ez, e3, w3, no3⟩ := r2
        refine ⟨p', ez, e3, ⟨w3.nf, ?_, w3.np⟩, no3⟩
        have n0 : upd c.H0 p (.dK []) p' = none := w3.n0
        by_cases ep : p' = p
        · subst ep; rw [upd_same] at n0; cases n0
        · rw [upd_ne ep] at n0; exact n0
    · intro _ ow ez
      cases w with
      | v d => cases ow
      | o es =>
        obtain ⟨p', us, ez', e3, rl3, w3, no3⟩ := r2
        rw [ez'] at ez
        cases ez
        have n0 : upd c.H0 p (.dK []) p = none := w3.n0
        rw [upd_same] at n0; cases n0
      | nd =>
        obtain ⟨p', ez', e3, w3, no3⟩ := r2
        rw [ez'] at ez
        cases ez
        have n0 : upd c.H0 p (.dK []) p = none := w3.n0
        rw [upd_same] at n0; cases n0
end
end PL

set_option maxHeartbeats 2000000
namespace PL
open PySem L2
/-! ### defs of which nothing is raised: what raises is not gone -/
def runB0 (np nl : Nat) (m : SM) : FM := fun ds ps => if ds.length = np then
    match m (ds.map .v ++ List.replicate (nl - np) .un) ps with
    | .nx _ ps' => .ok .non ps'
    | .rt d ps' => .ok d ps'
    | _ => .stuck
  else .stuck
theorem body0 {T : Tab} {pa : Pa} {F H : Hp} {Q : VK} {E : XK} {ds : List D} {vs : List V} {pn : Pn} {N ps : List Str} {m : SM} (hn : ds.length = ps.length) (hs : Sub F H) (r : RepL T pa F ds vs) (pen : PenR pa F H pn) (hp : fpost T pa F H Q E (runB0 ps.length N.length m ds pn)) :
    sT ⟨T, pa, F, H, none⟩ E0 m { nx := fun _ H' => Q .non H', rt := Q } (L2.start N vs) H := by
  refine ⟨F, _, pn, SR.start (N := N) hs r pen hn, ?_⟩
  unfold runB0 at hp
  rw [if_pos hn] at hp
  cases e : m (ds.map .v ++ List.replicate (N.length - ps.length) .un) pn with
  | nx ρ ps' => rw [e] at hp; exact fun F' H' σ' s' S' => hp .non F' H' S'.stpOf S'.pen rfl
  | rt d ps' => rw [e] at hp; exact fun v F' H' ρ' σ' s' S' r' => hp v F' H' S'.stpOf S'.pen r'
  | bk ρ ps' => rw [e] at hp; exact hp.elim
  | ct ρ ps' => rw [e] at hp; exact hp.elim
  | ex x ρ ps' => rw [e] at hp; exact hp.elim
  | stuck => rw [e] at hp; exact hp.elim
section
variable {P : Program} {w : World} {K : PySem.W.Frag} {mg : Str → Option Value} {base : Heap}
theorem fn_P0 {x qual : Str} {st : Stmt} {f : Addr} {fd : FuncData} {N ps : List Str} {k : Nat} {T : Tab} {m : SM} (F : Fun K x qual st f fd) (S : FnScope N ps (defScope st))
    (body : ∀ (cdv : Value) (A : Around) (outer : List Env) (s : Shared) (H : Hp) (E : XK) (c : Ct), c.T = T → Room k (A.deeper (PyProof.Rows.envOfC qual (defScope st) s.heap.objs.size f cdv)) →
      PSs (cxOf (L2.CX P w) P w K mg base N qual (defScope st) f cdv A outer s H E).nox (defBody st) (sT c E0 m)) : FnOk P w K mg base (L2.CX P w) (k + 1) f fd ps (spP T ps.length (runB0 ps.length N.length m)) := by
  refine F.okX S (fun vs H Q E ⟨pa, F, ds, pn, hn, _, r, _⟩ => by rw [← r.length]; exact hn) fun cdv A outer s H vs Q E hr h => ?_
  obtain ⟨pa, F, ds, pn, hn, hs, r, pen, hp⟩ := h
  exact ⟨_, (body cdv A outer s H E ⟨T, pa, F, H, none⟩ rfl hr).nox, body0 hn hs r pen hp⟩
/-- .. with defaults -/
theorem fn_D0 {x qual : Str} {params : Arguments} {bd : List Stmt} {scope : Scope} {dvs : List V} {kws : List (Str × V)} {f : Addr} {fd : FuncData} {N ps : List Str} {k : Nat} {T : Tab} {m : SM} (F : FunD K x qual params bd scope dvs kws f fd) (S : FnScope N ps scope)
    (body : ∀ (cdv : Value) (A : Around) (outer : List Env) (s : Shared) (H : Hp) (E : XK) (c : Ct), c.T = T → Room k (A.deeper (PyProof.Rows.envOfC qual scope s.heap.objs.size f cdv)) →
      PSs (cxOf (L2.CX P w) P w K mg base N qual scope f cdv A outer s H E).nox bd (sT c E0 m)) : FnOk P w K mg base (L2.CX P w) (k + 1) f fd ps (spP T ps.length (runB0 ps.length N.length m)) := by
  refine F.ok S (fun vs H Q E ⟨pa, F, ds, pn, hn, _, r, _⟩ => by rw [← r.length]; exact hn) fun cdv A outer s H vs Q E hr h => ?_
  obtain ⟨pa, F, ds, pn, hn, hs, r, pen, hp⟩ := h
  exact ⟨_, (body cdv A outer s H E ⟨T, pa, F, H, none⟩ rfl hr).nox, body0 hn hs r pen hp⟩
def runI0 (cn : Str) (np nl : Nat) (m : SM) : IM := fun ds ps => if ds.length = np then
    match m (Slot.oi cn [] [] :: (ds.map .v ++ List.replicate (nl - np) .un)) ps with
    | .nx ρ ps' => match ρ[0]? with
      | some (Slot.oi c ns xs) => if c = cn then .ok ns xs ps' else .stuck
      | _ => .stuck
    | _ => .stuck
  else .stuck
theorem fn_I0 {x qual : Str} {st : Stmt} {f : Addr} {fd : FuncData} {N ps : List Str} {xn cn : Str} {k : Nat} {T : Tab} {m : SM} (F : Fun K x qual st f fd) (S : FnScope (xn :: N) (xn :: ps) (defScope st))
    (body : ∀ (cdv : Value) (A : Around) (outer : List Env) (s : Shared) (H : Hp) (E : XK) (c : Ct), c.T = T → Room k (A.deeper (PyProof.Rows.envOfC qual (defScope st) s.heap.objs.size f cdv)) →
      PSs (cxOf (L2.CX P w) P w K mg base (xn :: N) qual (defScope st) f cdv A outer s H E).nox (defBody st) (sT c E0 m)) : FnOk P w K mg base (L2.CX P w) (k + 1) f fd (xn :: ps) (spI T cn ps.length (runI0 cn ps.length N.length m)) := by
  refine F.okX S (fun vs H Q E ⟨pa, F, ds, pn, x, dx, vs', ev, hn, _, r, _⟩ => by rw [ev, List.length_cons, List.length_cons, ← r.length, hn]) fun cdv A outer s H vs Q E hr h => ?_
  obtain ⟨pa, F, ds, pn, x, dx, vs', rfl, hn, hs, r, pen, hx, hd, fx, px, hp⟩ := h
  refine ⟨_, (body cdv A outer s H E ⟨T, pa, F, fun a => if a = x then none else H a, some (x, dx)⟩ rfl hr).nox, F, _, pn, SR.startI (N := N) (cn := cn) hs r pen hn hx hd fx px, ?_⟩
  unfold runI0 at hp
  rw [if_pos hn] at hp
  cases e : m (Slot.oi cn [] [] :: (ds.map .v ++ List.replicate (N.length - ps.length) .un)) pn with
  | nx ρ ps' =>
    rw [e] at hp
    dsimp only at hp
    intro F' H' σ' s' S'
    cases e0 : ρ[0]? with
    | none => rw [e0] at hp; exact hp.elim
    | some sl =>
      rw [e0] at hp
      cases sl with
      | oi c' ns xs =>
        dsimp only at hp
        by_cases hc : c' = cn
        case neg => rw [if_neg hc] at hp; exact hp.elim
        rw [if_pos hc] at hp
        subst hc
        obtain ⟨q, dx', fs, _, e2, e3, ⟨en, esf⟩, l, w⟩ := oi_at S' e0
        have esf' : (x, dx) = (q, dx') := Option.some.inj esf
        cases esf'
        exact hp fs F' H' (S'.stpX px) w.nf S'.pen e2 e3 en l
      | _ => exact hp.elim
  | rt d ps' => rw [e] at hp; exact hp.elim
  | bk ρ ps' => rw [e] at hp; exact hp.elim
  | ct ρ ps' => rw [e] at hp; exact hp.elim
  | ex ee ρ ps' => rw [e] at hp; exact hp.elim
  | stuck => rw [e] at hp; exact hp.elim
end
/-! ### a block's scope, looked at by a program -/
def blkB (N : List Str) (sc scope : Scope) (own : List (Str × Nat)) : Bool :=
  (match scope.kind with | .function => true | _ => false) &&
  scope.names.all (fun y => match scope.names.lookup y.1, y.2 with
    | some .local, .local => true | some .cell, .cell => true | some .free, .free => true
    | some .globalImplicit, .globalImplicit => true | some .globalExplicit, .globalExplicit => true | _, _ => false) &&
  own.all (fun p => match N[p.2]? with | some x => x == p.1 | none => false) &&
  scope.names.all (fun y => match y.2 with
    | .free => (match sc.names.lookup y.1 with | some .cell => true | some .free => true | _ => false)
    | .local => own.any (fun p => p.1 == y.1) || !(N.any fun n => n == y.1)
    | .cell => own.any (fun p => p.1 == y.1) || !(N.any fun n => n == y.1)
    | _ => true)
theorem BlkOk.of {N : List Str} {sc scope : Scope} {own : List (Str × Nat)} (h : blkB N sc scope own = true) : BlkOk N sc scope own := by
  unfold blkB at h
  simp only [Bool.and_eq_true, List.all_eq_true] at h
  obtain ⟨⟨⟨h1, h2⟩, h3⟩, h4⟩ := h
  refine ⟨?_, fun y hy => ?_, fun p hp => ?_, fun y hy e => ?_, fun y hy e => ?_⟩
  · cases e : scope.kind <;> rw [e] at h1 <;> first | rfl | cases h1
  · have := h2 y hy
    cases e1 : scope.names.lookup y.1 with
    | none => rw [e1] at this; cases this
    | some k => cases e2 : y.2 <;> rw [e1, e2] at this <;> cases k <;> first | rfl | cases this
  · have := h3 p hp
    cases e1 : N[p.2]? with
    | none => rw [e1] at this; cases this
    | some x => rw [e1] at this; rw [eq_of_beq this]
  · have := h4 y hy
    rw [e] at this
    cases e1 : sc.names.lookup y.1 with
    | none => rw [e1] at this; cases this
    | some k => rw [e1] at this; cases k <;> first | exact .inl rfl | exact .inr rfl | cases this
  · have := h4 y hy
    have q : (own.any (fun p => p.1 == y.1) || !(N.any fun n => n == y.1)) = true := by
      rcases e with e | e <;> rw [e] at this <;> exact this
    rw [Bool.or_eq_true] at q
    rcases q with q | q
    · obtain ⟨p, hp, e⟩ := List.any_eq_true.mp q
      exact .inl (List.mem_map.mpr ⟨p, hp, eq_of_beq e⟩)
    · refine .inr fun hm => ?_
      rw [Bool.not_eq_true'] at q
      have : (N.any fun n => n == y.1) = true := List.any_eq_true.mpr ⟨y.1, hm, by simp⟩
      rw [q] at this; cases this
/-! ### dicts written down -/
def eD0 : EM D := pureE (.dic [] [])
def eD1 (mk mv : EM D) : EM D := bindE mk fun k => bindE mv fun v => liftO ((keyOf k).map fun k => .dic [k] [v])
section
variable {X : Cx} {c : Ct} {pos : Pos} {a b : Expr} {ma mb : EM D} {E : XK}
theorem g_d0 : PE X (.Dict [] [] pos) (pT c E eD0) := pe_dnewK.imp fun σ H Q ⟨F, ρ, ps, S, h⟩ p n => by
  obtain ⟨s, S'⟩ := S.new (o := .dK []) n
  exact h _ _ _ s S' ⟨p, [], rfl, upd_same, rfl, RepL.nil⟩
theorem post_bind_un {α β γ δ : Type} {c c' : Ct} {R : RG α β} {R' : RG γ δ} {Q : β → Hp → Prop} {Q' : δ → Hp → Prop} {σ : St} {F H : Hp} {ρ : En} {ps : Pn} {m : EM γ} {k : γ → EM α} (S : SR c' F H ρ ps σ) (h : post c E0 R Q σ F (bindE m k ρ ps))
    (un : ∀ F' H' ρ' ps', SR c' F' H' ρ' ps' σ → SR c F' H' ρ' ps' σ) (hT : c'.T = c.T) (hp : c'.pa = c.pa)
    (go : ∀ a b F1 ρ1 ps1 H1, Sub F F1 → SR c' F1 H1 ρ1 ps1 σ → R' F1 H1 ρ1 σ a b → post c E0 R Q σ F1 (k a ρ1 ps1) → Q' b H1) : pG c' E0 R' m σ H Q' := by
  refine ⟨F, ρ, ps, S, ?_⟩
  unfold bindE at h
  cases e : m ρ ps with
  | ok a ρ1 ps1 =>
    rw [e] at h
    exact fun b F1 H1 s S1 r => go a b F1 ρ1 ps1 H1 s S1 r (h.mono s)
  | ex x ρ1 ps1 =>
    rw [e] at h
    refine fun cl dd F' H' s S' r => h cl dd F' H' s (un _ _ _ _ S') ?_
    unfold RepX at r ⊢
    rw [hT, hp] at r
    exact r
  | stuck => rw [e] at h; exact h
theorem g_d1 (ha : ∀ h : Hp, PE X a (pT { c with H0 := h } E0 ma)) (hb : ∀ h : Hp, PE X b (pT { c with H0 := h } E0 mb)) : PE X (.Dict [some a] [b] pos) (pT c E0 (eD1 ma mb)) := by
  let ta : TE := fun σ H Q => ∃ h : Hp, pT { c with H0 := h } E0 ma σ H Q
  let tb : TE := fun σ H Q => ∃ h : Hp, pT { c with H0 := h } E0 mb σ H Q
  have hA : PE X a ta := ⟨fun pins s σ H Q I ⟨h, q⟩ => (ha h).run pins s σ H Q I q⟩
  have hB : PE X b tb := ⟨fun pins s σ H Q I ⟨h, q⟩ => (hb h).run pins s σ H Q I q⟩
  refine (pe_disp (pps_cons hA hB pps_nil) rfl rfl (by simp) (by simp)).imp fun σ H Q ⟨F, ρ, ps, S, h⟩ p n => ?_
  have w0 := S.fresh n
  have nb : c.F0 p = none := by
    cases q : c.F0 p with
    | none => rfl
    | some u => have := S.base _ _ q; rw [w0.nf] at this; cases this
  have S0 := (S.alloc (o := .dK []) n).and upd_same w0 fun i z => S.notOwned n i z
  refine ⟨upd c.H0 p (.dK []), post_bind_un (c := c) (R' := RD (c.and p (.dK []))) S0 h (fun F' H' ρ' ps' S' => (SR.un w0.n0 w0.np S').1) rfl rfl fun k v F1 ρ1 ps1 H1 s1 S1 r1 h1 => ?_⟩
  refine ⟨upd c.H0 p (.dK []), post_bind_un (c := c) (R' := RD (c.and p (.dK []))) S1 h1 (fun F' H' ρ' ps' S' => (SR.un w0.n0 w0.np S').1) rfl rfl fun d v2 F2 ρ2 ps2 H2 s2 S2 r2 h2 => ?_⟩
  obtain ⟨S2c, e2, f2, no2⟩ := SR.un w0.n0 w0.np S2
  obtain ⟨kd, ek, h3⟩ := post_some h2
  cases ekk : keyOf k with
  | none => rw [ekk] at ek; cases ek
  | some kk =>
    rw [ekk] at ek
    cases ek
    have wF : F2 p = none := f2.trans nb
    refine ⟨e2, [(kk, v2)], by rw [key_kV ekk (Rep.mono s2 r1)]; rfl, by simp, ?_⟩
    have em : mergeK [] [(kk, v2)] = [(kk, v2)] := rfl
    rw [em]
    -- the dict is written, then frozen
    have S3 : SR c F2 (upd H2 p (.dK [(kk, v2)])) ρ2 ps2 σ := by
      refine ⟨fun a u z => ?_, fun a u z n => ?_, S2c.grow, S2c.base, S2c.len, fun j sl z => ?_, S2c.sep, ?_⟩
      · rw [upd_ne (fun k => by rw [k, wF] at z; cases z)]; exact S2c.sub a u z
      · rw [upd_ne (fun k => by rw [k, w0.n0] at z; cases z)]; exact S2c.keep a u z n
      · obtain ⟨ov, e1, r⟩ := S2c.slot j sl z
        refine ⟨ov, e1, ?_⟩
        cases sl with
        | un => trivial
        | v d => exact r
        | ol xs =>
          obtain ⟨p', us, g2, g3, r, w'⟩ := r
          have ne : p' ≠ p := fun k => no2 j ⟨_, z, rfl, by rw [e1, g2, k]⟩
          exact ⟨p', us, g2, by rw [upd_ne ne]; exact g3, r, w'⟩
        | od ks xs =>
          obtain ⟨p', us, g2, g3, r, w'⟩ := r
          have ne : p' ≠ p := fun k => no2 j ⟨_, z, rfl, by rw [e1, g2, k]⟩
          exact ⟨p', us, g2, by rw [upd_ne ne]; exact g3, r, w'⟩
        | oi cn ns xs =>
          obtain ⟨p', dx, fs, g2, g3, g4, g7, r, w'⟩ := r
          have ne : p' ≠ p := fun k => no2 j ⟨_, z, rfl, by rw [e1, g2, k]⟩
          exact ⟨p', dx, fs, g2, by rw [upd_ne ne]; exact g3, by rw [upd_ne (ne_of g4 e2 (by intro k; cases k))]; exact g4, g7, r, w'⟩
      · have hp := S2c.pen
        unfold PenR at hp ⊢
        cases ep : c.pa with
        | none => trivial
        | some pp =>
          obtain ⟨pp, ca⟩ := pp
          rw [ep] at hp
          obtain ⟨q1, q2, q3⟩ := hp
          exact ⟨by rw [upd_ne (fun k => w0.np (by rw [ep, ← k]; rfl))]; exact q1, q2, q3⟩
    have w3 : Own c F2 p := ⟨wF, w0.n0, w0.np⟩
    exact h3 _ _ _ (sub_upd wF) (S3.freeze upd_same w3 no2) ⟨p, [(kk, v2)], rfl, upd_same, rfl, RepL.one (Rep.mono (sub_upd wF) r2)⟩
end
/-! ### where defs and classes stand -/
def tabOf (mg : Str → Option Value) : Tab := ⟨fun x => match mg x with | some (.ref a) => a | _ => 0, fun x => match mg x with | some (.ref a) => a | _ => 0⟩
theorem tab_fn {mg : Str → Option Value} {x : Str} {a : Addr} (h : mg x = some (.ref a)) : (tabOf mg).fn x = a := by simp [tabOf, h]
theorem tab_cls {mg : Str → Option Value} {x : Str} {a : Addr} (h : mg x = some (.ref a)) : (tabOf mg).cls x = a := by simp [tabOf, h]
end PL

set_option maxHeartbeats 2000000
namespace PL
open PySem L2
/-! ### what the top has written of a def, a class -/
structure DefP (K : PySem.W.Frag) (mg : Str → Option Value) (x : Str) (st : Stmt) (ps : List Str) : Prop where
  at_ : ∃ fa fd, Fun K x x st fa fd ∧ Binds K fd ps [] ∧ mg x = some (.ref fa)
structure DefD (K : PySem.W.Frag) (mg : Str → Option Value) (x : Str) (st : Stmt) (ps : List Str) (dvs : List V) : Prop where
  at_ : ∃ fa fd, FunD K x x (defArgs st) (defBody st) (defScope st) dvs [] fa fd ∧ mg x = some (.ref fa)
structure MetF (K : PySem.W.Frag) (mg : Str → Option Value) (cn m : Str) (st : Stmt) (ps : List Str) : Prop where
  at_ : ∃ fa fd, Fun K m (cn ++ "." ++ m) st fa fd ∧ Binds K fd ps [] ∧ Meth K ((tabOf mg).cls cn) m fa
structure MakF (K : PySem.W.Frag) (mg : Str → Option Value) (cn : Str) (st : Stmt) (ps : List Str) : Prop where
  at_ : ∃ fa fd, Fun K "__init__" (cn ++ "." ++ "__init__") st fa fd ∧ Binds K fd ps [] ∧ Mk K ((tabOf mg).cls cn) fa ∧ mg cn = some (.ref ((tabOf mg).cls cn))
theorem mgf {K : PySem.W.Frag} {mg : Str → Option Value} {x : Str} {st : Stmt} {ps : List Str} (h : ∃ fa fd, Fun K x x st fa fd ∧ Binds K fd ps [] ∧ mg x = some (.ref fa)) : mg x = some (.ref ((tabOf mg).fn x)) := by
  obtain ⟨fa, _, _, _, hm⟩ := h
  rw [tab_fn hm]; exact hm
theorem manyD {n m : Nat} {ml : EM (List D)} {df : List D} (h : Many n ml) (e : n + df.length = m) : ∀ ρ ps ds ρ' ps', ml ρ ps = .ok ds ρ' ps' → (ds ++ df).length = m := fun ρ ps ds ρ' ps' q => by
  rw [List.length_append, h ρ ps ds ρ' ps' q, e]
/-- a def that calls itself, so deep -/
def iterF (step : FM → FM) : Nat → FM
  | 0 => fun _ _ => .stuck
  | n + 1 => step (iterF step n)
theorem cal_stuck {P : Program} {w : World} {K : PySem.W.Frag} {mg : Str → Option Value} {base : Heap} {T : Tab} {k : Nat} {x : Str} {n : Nat} {f : FM} (C : CalP P w K mg base T k x n f) (j : Nat) : CalP P w K mg base T j x n (fun _ _ => .stuck) := by
  obtain ⟨a, fd, ps, F, hb, hm, kp, ht⟩ := C.at_
  refine ⟨a, fd, ps, ⟨fun vs H Q E h => ?_, fun A outer s H args us vs Q E hr he hbd hv h => ?_⟩, hb, hm, kp, ht⟩
  · obtain ⟨_, _, _, _, _, _, _, _, z⟩ := h; exact z.elim
  · obtain ⟨_, _, _, _, _, _, _, _, z⟩ := h; exact z.elim
theorem cal_stuck0 {P : Program} {w : World} {K : PySem.W.Frag} {mg : Str → Option Value} {base : Heap} {x : Str} {st : Stmt} {ps : List Str} (D : DefP K mg x st ps) (j n : Nat) : CalP P w K mg base (tabOf mg) j x n (fun _ _ => .stuck) := by
  obtain ⟨fa, fd, F, hb, hm⟩ := D.at_
  refine ⟨fa, fd, ps, ⟨fun vs H Q E h => ?_, fun A outer s H args us vs Q E hr he hbd hv h => ?_⟩, hb, hm, F.kp, tab_fn hm⟩
  · obtain ⟨_, _, _, _, _, _, _, _, z⟩ := h; exact z.elim
  · obtain ⟨_, _, _, _, _, _, _, _, z⟩ := h; exact z.elim
theorem cal_iter {P : Program} {w : World} {K : PySem.W.Frag} {mg : Str → Option Value} {base : Heap} {x : Str} {st : Stmt} {ps : List Str} {n : Nat} {step : FM → FM} (D : DefP K mg x st ps)
    (h : ∀ {k : Nat} {rec : FM}, CalP P w K mg base (tabOf mg) k x n rec → CalP P w K mg base (tabOf mg) (k + 1) x n (step rec)) : ∀ j : Nat, CalP P w K mg base (tabOf mg) j x n (iterF step j)
  | 0 => cal_stuck0 D 0 n
  | j + 1 => h (cal_iter D h j)
theorem boot_str_ : bootBuiltins "str" = some (.type "str") := by decide +kernel
theorem boot_list_ : bootBuiltins "list" = some (.type "list") := by decide +kernel
theorem boot_tuple_ : bootBuiltins "tuple" = some (.type "tuple") := by decide +kernel
theorem boot_int_ : bootBuiltins "int" = some (.type "int") := by decide +kernel
theorem boot_bool_ : bootBuiltins "bool" = some (.type "bool") := by decide +kernel
theorem boot_dict_ : bootBuiltins "dict" = some (.type "dict") := by decide +kernel
end PL

set_option maxHeartbeats 2000000
namespace PL
open PySem L2
/-! ### _law_pen: the pen is made -/
def eInt1 (i : Nat) : EM D := eOpN intD (eCons (eVar i) eNil)
def m_pen (ns : List Int) : SM := sRet (eFz (eLst (eCons (eFz (fComp (iSq (eFz (fScr ns (eVar 0)))) (tName 1) [1] tYesE (eInt1 1))) (eCons (eC (.int 0)) (eCons (eC (.int 0)) eNil)))))
theorem small64 {n : Nat} (h : n ≤ 64) : n < sizeLine := Nat.lt_of_le_of_lt h (by decide)
theorem pen_comp (s0 : Slot) (ps : Pn) : ∀ (ns : List Int) (acc : List D) (s1 : Slot), acc.length + ns.length ≤ 64 → ∃ s2, compL (tName 1) [1] tYesE (eInt1 1) (dInts ns) acc [s0, s1] ps = .ok (acc ++ dInts ns) [s0, s2] ps
  | [], acc, s1, _ => ⟨s1, by simp [compL, dInts, pureE]⟩
  | n :: ns, acc, s1, h => by
    rw [List.length_cons] at h
    obtain ⟨s2, e⟩ := pen_comp s0 ps ns (acc ++ [.int n]) .un (by rw [List.length_append, List.length_singleton]; omega)
    refine ⟨s2, ?_⟩
    have hz : acc.length < sizeLine := small64 (by omega)
    show compL (tName 1) [1] tYesE (eInt1 1) (D.int n :: dInts ns) acc [s0, s1] ps = _
    unfold compL
    have t1 : tName 1 (D.int n) [s0, s1] = some [s0, .v (.int n)] := rfl
    rw [t1]
    have t2 : tYesE [s0, Slot.v (.int n)] ps = .ok true [s0, .v (.int n)] ps := rfl
    dsimp only
    rw [t2]
    have t3 : eInt1 1 [s0, Slot.v (.int n)] ps = .ok (.int n) [s0, .v (.int n)] ps := rfl
    dsimp only
    rw [t3]
    dsimp only
    rw [if_pos hz]
    have t4 : wipeE [s0, Slot.v (.int n)] [1] = [s0, .un] := rfl
    rw [t4, e]
    simp [dInts, List.append_assoc]
theorem m_pen_run {ns : List Int} (hl : ns.length ≤ 63) (ps : Pn) : m_pen ns [.v (.fn scrN), .un] ps = .rt (.lst [.lst (dInts ns), .int 0, .int 0]) ps := by
  obtain ⟨s2, e⟩ := pen_comp (.v (.fn scrN)) ps ns [] .un (by simp; omega)
  have e1 : iSq (eFz (fScr ns (eVar 0))) [.v (.fn scrN), .un] ps = .ok (dInts ns) [.v (.fn scrN), .un] ps := rfl
  have e2 : fComp (iSq (eFz (fScr ns (eVar 0)))) (tName 1) [1] tYesE (eInt1 1) [.v (.fn scrN), .un] ps = .ok (dInts ns) [.v (.fn scrN), .un] ps := by
    unfold fComp bindE
    rw [e1]
    have t4 : wipeE [Slot.v (.fn scrN), .un] [1] = [.v (.fn scrN), .un] := rfl
    show (if _ then _ else _) = _
    rw [if_pos (by rfl), t4, e]
    rfl
  unfold m_pen sRet sBind eFz eLst eCons bindE eNil eC pureE at *
  simp only [e2]
  have hz : szOk [D.lst (dInts ns), .int 0, .int 0] = true := by
    unfold szOk
    exact decide_eq_true (Nat.le_of_lt (small64 (show 3 ≤ 64 by decide)))
  rw [if_pos hz]
section
variable {P : Program} {w : World} {K : PySem.W.Frag} {mg : Str → Option Value} {base : Heap}
theorem pen_fn {st : Stmt} {fa : Addr} {fd : FuncData} (F : Fun K "_law_pen" "_law_pen" st fa fd) (S : FnScope ["script", "cell"] ["script"] (defScope st))
    (body : ∀ (ns : List Int) (cdv : Value) (A : Around) (outer : List Env) (s : Shared) (H : Hp) (E : XK) (c : Ct), ns.length ≤ 63 → c.pa = none → SqL K c.H0 (c.T.fn scrN) (ns.map V.int) → Room 0 (A.deeper (PyProof.Rows.envOfC "_law_pen" (defScope st) s.heap.objs.size fa cdv)) →
      PSs (cxOf (L2.CX P w) P w K mg base ["script", "cell"] "_law_pen" (defScope st) fa cdv A outer s H E).nox (defBody st) (sT c E0 (m_pen ns))) : FnOk P w K mg base (L2.CX P w) 1 fa fd ["script"] (spPen K) := by
  refine F.okX S (fun vs H Q E ⟨a, ns, ev, _⟩ => by rw [ev]; rfl) fun cdv A outer s H vs Q E hr h => ?_
  obtain ⟨a, ns, rfl, hl, hS, hQ⟩ := h
  let T : Tab := ⟨fun x => if x = scrN then a else 0, fun x => if x = scrN then a else 0⟩
  have hT : T.fn scrN = a := by show (if scrN = scrN then a else 0) = a; rw [if_pos rfl]
  let c : Ct := ⟨T, none, fun _ => none, H, none⟩
  refine ⟨_, (body ns cdv A outer s H E c hl rfl (by show SqL K H (T.fn scrN) _; rw [hT]; exact hS) hr).nox, fun _ => none, [.v (.fn scrN), .un], ⟨[], 0, 0⟩, ?_, ?_⟩
  · refine ⟨fun _ _ z => (by cases z), fun b o e _ => e, fun _ _ => rfl, Sub.refl _, rfl, fun i sl e => ?_, fun i j p ⟨sl, e1, e2, _⟩ => ?_, trivial⟩
    · match i, e with
      | 0, e =>
        cases e
        exact ⟨some (.ref a), rfl, .ref a, rfl, by show V.ref a = .ref (T.fn scrN); rw [hT]⟩
      | 1, e => cases e; exact ⟨none, rfl, trivial⟩
    · match i, e1 with
      | 0, e1 => cases e1; cases e2
      | 1, e1 => cases e1; cases e2
  · rw [m_pen_run hl]
    intro v F' H' ρ' σ' s' S' r
    obtain ⟨p, vs, rfl, f, rl⟩ := r
    obtain ⟨v1, r1, e1, ⟨ca, ws, ev, f2, rl2⟩, v2, r2, e2, q2, v3, r3, e3, q3, q4⟩ := rl
    have q2 : v2 = .int 0 := q2
    have q3 : v3 = .int 0 := q3
    have q4 : r3 = [] := q4
    subst ev q2 q3 q4 e3 e2 e1
    rw [repL_ints_eq rl2] at f2
    have nH : ∀ b o, F' b = some o → H b = none := fun b o e => by
      cases q : H b with
      | none => rfl
      | some u =>
        have z := S'.grow b (by show H b ≠ none; rw [q]; simp)
        rw [e] at z
        cases z
    refine hQ H' p ca (fun b o e => S'.keep b o e (by intro z; cases z)) (nH p _ f) (nH ca _ f2) (fun z => ?_) (S'.sub _ _ f) (S'.sub _ _ f2)
    subst z
    rw [f] at f2
    cases ns with
    | nil => cases f2
    | cons n ns => cases f2
/-! ### the law's def -/
def tAny (T : Tab) (m : SM) : TS := fun D σ H => ∃ c : Ct, c.T = T ∧ sT c E0 m D σ H
theorem pss_any {X : Cx} {T : Tab} {m : SM} {sts : List Stmt} (h : ∀ c : Ct, c.T = T → PSs X sts (sT c E0 m)) : PSs X sts (tAny T m) := ⟨fun pins s σ H D I ⟨c, e, q⟩ => (h c e).run pins s σ H D I q⟩
theorem law_at {st st1 : Stmt} {rest : List Stmt} {fa : Addr} {fd : FuncData} {N : List Str} {k : Nat} {m : SM} (F : Fun K "law" "law" st fa fd) (S : FnScope ("script" :: "pen" :: N) ["script"] (defScope st)) (hb : defBody st = st1 :: rest)
    (h1 : ∀ (cdv : Value) (outer : List Env) (s : Shared) (H : Hp) (E : XK), Room k (callerA.deeper (PyProof.Rows.envOfC "law" (defScope st) s.heap.objs.size fa cdv)) →
      PS (cxOf (L2.CX P w) P w K mg base ("script" :: "pen" :: N) "law" (defScope st) fa cdv callerA outer s H E).nox st1 (tAsg (tCall (spPen K) [] E0 (tCons (tVar 0) tNil)) (gName 1)))
    (h2 : ∀ (cdv : Value) (outer : List Env) (s : Shared) (H : Hp) (E : XK) (c : Ct), c.T = tabOf mg → Room k (callerA.deeper (PyProof.Rows.envOfC "law" (defScope st) s.heap.objs.size fa cdv)) →
      PSs (cxOf (L2.CX P w) P w K mg base ("script" :: "pen" :: N) "law" (defScope st) fa cdv callerA outer s H E).nox rest (sT c E0 m))
    (hm : ∀ ns : List Int, ns.length ≤ 63 → ∃ ps', m (.un :: .v .pen :: List.replicate N.length .un) ⟨ns, 0, 0⟩ = .rt (.bl true) ps') : FnAt callerA P w K mg base (L2.CX P w) (k + 1) fa fd ["script"] (spLaw K) := by
  refine Fun.okA F S (fun vs H Q E ⟨a, ns, ev, _⟩ => by rw [ev]; rfl) fun cdv outer s H vs Q E hr h => ?_
  obtain ⟨a, ns, rfl, hl, hS, hQ⟩ := h
  rw [hb]
  refine ⟨_, (pss_cons (h1 cdv outer s H E hr) (pss_any (T := tabOf mg) fun c hT => h2 cdv outer s H E c hT hr)).nox, ?_⟩
  refine ⟨.ref a, rfl, a, ns, rfl, hl, hS, fun H' p ca sub n1 n2 ne e1 e2 => ?_⟩
  refine ⟨⟨tabOf mg, some (p, ca), upd (fun _ => none) ca (.lst (ns.map V.int)), H', none⟩, rfl, upd (fun _ => none) ca (.lst (ns.map V.int)), .un :: .v .pen :: List.replicate N.length .un, ⟨ns, 0, 0⟩, ?_, ?_⟩
  · refine ⟨fun b o z => ?_, fun b o e _ => e, fun _ _ => rfl, Sub.refl _, ?_, fun i sl e => ?_, fun i j q ⟨sl, e1, e2, _⟩ => ?_, ?_⟩
    · by_cases q : b = ca
      · subst q; rw [upd_same] at z; cases z; exact e2
      · rw [upd_ne q] at z; cases z
    · show ((L2.start ("script" :: "pen" :: N) [V.ref a]).set 1 (some (.ref p))).length = _
      unfold L2.start
      simp
    · match i, e with
      | 0, e => cases e; exact ⟨_, rfl, trivial⟩
      | 1, e =>
        cases e
        exact ⟨some (.ref p), by show ((L2.start ("script" :: "pen" :: N) [V.ref a]).set 1 (some (.ref p)))[1]? = _; rfl, .ref p, rfl, p, rfl, rfl⟩
      | i + 2, e =>
        have e' : (List.replicate N.length Slot.un)[i]? = some sl := e
        rw [List.getElem?_replicate] at e'
        by_cases hi : i < N.length
        · rw [if_pos hi] at e'
          cases e'
          refine ⟨_, List.getElem?_eq_getElem (h := ?_), trivial⟩
          show i + 2 < ((L2.start ("script" :: "pen" :: N) [V.ref a]).set 1 (some (.ref p))).length
          unfold L2.start
          simp
          omega
        · rw [if_neg hi] at e'; cases e'
    · match i, e1 with
      | 0, e1 => cases e1; cases e2
      | 1, e1 => cases e1; cases e2
      | i + 2, e1 =>
        have e' : (List.replicate N.length Slot.un)[i]? = some sl := e1
        rw [List.getElem?_replicate] at e'
        by_cases hi : i < N.length
        · rw [if_pos hi] at e'; cases e'; cases e2
        · rw [if_neg hi] at e'; cases e'
    · exact ⟨e1, upd_same, upd_ne ne⟩
  · obtain ⟨ps', em⟩ := hm ns hl
    rw [em]
    intro v F' H'' ρ' σ' s' S' r
    have r : v = .bl true := r
    subst r
    exact hQ H''
end
/-- the goal behind the head, for a law that is promised around callerA -/
theorem walk_law {l : PySem.W.OpenLaw} {k : Nat} {q : Program} {loose : List Str} {XP : (Str → Option Value) → Heap → Prop} {YP : World → Heap → Prop} {d : DefRec} {K : Params → PySem.W.Frag} (hn : l.most = some 63) (hdf : d.params.defaults = []) (hr : Room k callerA)
    (hY : ∀ (w : World) (h : Heap), YP w h → (K w.params).In h)
    (F : ∀ (w : World) (mg : Str → Option Value) (fa : Addr) (h : Heap), (K w.params).In h → h.Ns mainGlobals mg → mg d.name = some (.ref fa) →
      ∃ fd : FuncData, (∀ (s : Shared) (u : Value), BindsTo s fd ⟨[u], []⟩ [("script", u)]) ∧ ∀ base : Heap, (K w.params).In base → base.Ns mainGlobals mg → FnAt callerA l.prog w (K w.params) mg base (L2.CX l.prog w) k fa fd ["script"] (spLaw (K w.params))) :
    PySem.W.WalkO q loose XP YP l.row.toRowW d [] (fun f vs => PySem.call f vs) :=
  walk_ofA (n := 63) (k := k) (x := "script") (CX := fun w => L2.CX l.prog w) (sp := fun w => spLaw (K w.params)) hn (by decide) hdf hr hY F (fun _ _ a ns hl _ hS => ⟨a, ns, rfl, hl, hS, fun _ => rfl⟩) fun w H s e s' z => by
    obtain ⟨_, _, _, _, _, _, _, _, _, _, _, _, z⟩ := z
    exact z.elim
end PL

set_option maxHeartbeats 4000000
namespace PL
open PySem L2
/-! ### while -/
def whileL (t : EM Bool) (body : SM) : Nat → SM
  | 0 => stuckS
  | n + 1 => fun ρ ps => match t ρ ps with
    | .ok true ρ1 ps1 => match body ρ1 ps1 with
      | .nx ρ2 ps2 => whileL t body n ρ2 ps2
      | .ct ρ2 ps2 => whileL t body n ρ2 ps2
      | .bk ρ2 ps2 => .nx ρ2 ps2
      | .rt d ps2 => .rt d ps2
      | .ex e ρ2 ps2 => .ex e ρ2 ps2
      | .stuck => .stuck
    | .ok false ρ1 ps1 => .nx ρ1 ps1
    | .ex e ρ1 ps1 => .ex e ρ1 ps1
    | .stuck => .stuck
def sWhile (t : EM Bool) (body : SM) : SM := whileL t body 100000
section
variable {X : Cx} {c : Ct} {E : XK} {t : EM Bool} {mb : SM} {cc : Expr} {body : List Stmt} {pos : Pos}
theorem s_while (hp : PassesOwn (model X.prog X.w) X.A X.env X.xe) (hc : PT X cc (pTT c E t)) (hb : PSs X body (sT c E mb)) : PS X (.While cc body [] pos) (sT c E (sWhile t mb)) :=
  (ps_while hp hc hb).imp fun D σ H ⟨F, ρ, ps, S, h⟩ => by
    refine ⟨fun m σ' H' => ∃ F' ρ' ps', Sub F F' ∧ SR c F' H' ρ' ps' σ' ∧ spost c E D F' (whileL t mb m ρ' ps'), ⟨100000, F, ρ, ps, Sub.refl F, S, h⟩, ?_⟩
    rintro m σ' H' ⟨F', ρ', ps', s', S', q⟩
    cases m with
    | zero => exact q.elim
    | succ n =>
      unfold whileL at q
      refine ⟨F', ρ', ps', S', ?_⟩
      cases et : t ρ' ps' with
      | stuck => rw [et] at q; exact q
      | ex e ρ1 ps1 => rw [et] at q; exact fun cl dd F2 H2 s2 S2 r => q cl dd F2 H2 σ' s2 S2 r
      | ok b ρ1 ps1 =>
        rw [et] at q
        intro b' F1 H1 s1 S1 rb
        cases rb
        cases b with
        | false => exact iteF (spost.mono s1 q F1 H1 σ' (Sub.refl F1) S1)
        | true =>
          dsimp only at q
          have q := spost.mono s1 q
          refine iteT ⟨fun σ2 H2 => ∃ F2 ρ2 ps2, Sub F F2 ∧ SR c F2 H2 ρ2 ps2 σ2 ∧ spost c E D F2 (whileL t mb n ρ2 ps2), fun σ2 H2 ⟨F2, ρ2, ps2, a1, a2, a3⟩ => ⟨n, Nat.lt_succ_self n, F2, ρ2, ps2, a1, a2, a3⟩, F1, ρ1, ps1, S1, ?_⟩
          cases eb : mb ρ1 ps1 with
          | nx ρ2 ps2 => rw [eb] at q; exact fun F2 H2 σ2 s2 S2 => ⟨F2, ρ2, ps2, s'.trans (s1.trans s2), S2, spost.mono s2 q⟩
          | ct ρ2 ps2 => rw [eb] at q; exact fun F2 H2 σ2 s2 S2 => ⟨F2, ρ2, ps2, s'.trans (s1.trans s2), S2, spost.mono s2 q⟩
          | bk ρ2 ps2 => rw [eb] at q; exact q
          | rt d ps2 => rw [eb] at q; exact q
          | ex e ρ2 ps2 => rw [eb] at q; exact q
          | stuck => rw [eb] at q; exact q
end
/-! ### an owned dict -/
def sFrzD (i : Nat) : SM := fun ρ ps => match ρ[i]? with
  | some (.od ks xs) => .nx (ρ.set i (.v (.dic ks xs))) ps
  | _ => .nx ρ ps
def sPutD (i : Nat) (mk mv : EM D) : SM := sBind mv fun d => sBind mk fun k => fun ρ ps => match ρ[i]?, keyOf k with
  | some (.od ks xs), some k => if ks.length < 100000 ∧ ks.length = xs.length then .nx (ρ.set i (.od ((putP (ks.zip xs) k d).map (·.1)) ((putP (ks.zip xs) k d).map (·.2)))) ps else .stuck
  | _, _ => .stuck
def isOd (ρ : En) (i : Nat) : Bool := match ρ[i]? with
  | some (.od _ _) => true
  | _ => false
def sPut (i : Nat) (mk mv : EM D) : SM := fun ρ ps => if isOd ρ i = true then sPutD i mk mv ρ ps else .stuck
theorem isOd_at {ρ : En} {i : Nat} (h : isOd ρ i = true) : ∃ ks xs, ρ[i]? = some (.od ks xs) := by
  unfold isOd at h
  cases e : ρ[i]? with
  | none => rw [e] at h; cases h
  | some sl =>
    rw [e] at h
    cases sl with
    | od ks xs => exact ⟨ks, xs, rfl⟩
    | _ => cases h
theorem repK_of {T : Tab} {pa : Pa} {F : Hp} : ∀ {kvs : List (Key × V)} {ks : List Key} {xs : List D}, kvs.map (·.1) = ks → RepL T pa F xs (kvs.map (·.2)) → RepK T pa F (ks.zip xs) kvs
  | [], ks, xs, e, r => by
    subst e
    cases xs with
    | nil => rfl
    | cons x xs => obtain ⟨v, s, e, _⟩ := r; cases e
  | q :: kvs, ks, xs, e, r => by
    subst e
    cases xs with
    | nil => cases r
    | cons x xs =>
      obtain ⟨v, s, e, h, t⟩ := r
      cases e
      exact ⟨q, kvs, rfl, rfl, h, repK_of rfl t⟩
section
variable {X : Cx} {c : Ct} {E : XK} {e a b : Expr} {me ma mb mk mv : EM D} {pos pos' p p2 : Pos} {x : Str} {i : Nat}
theorem od_at {F H : Hp} {ρ : En} {ps : Pn} {σ : St} {ks : List Key} {xs : List D} (S : SR c F H ρ ps σ) (e : ρ[i]? = some (.od ks xs)) : ∃ q kvs, σ[i]? = some (some (.ref q)) ∧ H q = some (.dK kvs) ∧ (kvs.map (·.1) = ks ∧ RepL c.T c.pa F xs (kvs.map (·.2))) ∧ Own c F q := by
  obtain ⟨o, e1, q, kvs, e2, r⟩ := S.slot i _ e
  exact ⟨q, kvs, by rw [e1, e2], r⟩
theorem SR.frzD {F H : Hp} {ρ : En} {ps : Pn} {σ : St} {ks : List Key} {xs : List D} (S : SR c F H ρ ps σ) (e : ρ[i]? = some (.od ks xs)) : ∃ F', Sub F F' ∧ SR c F' H (ρ.set i (.v (.dic ks xs))) ps σ := by
  obtain ⟨q, kvs, eq, eH, ⟨ek, l⟩, w⟩ := od_at S e
  have s := sub_upd (o := .dK kvs) w.nf
  have S0 : SR c F H (ρ.set i .un) ps σ := S.retell (s' := .un) e (fun _ _ => trivial) fun z => by cases z
  have no : ∀ j, ¬ Owns (ρ.set i .un) σ j q := fun j ⟨t, t1, t2, t3⟩ => by
    by_cases hj : j = i
    · subst hj
      rw [List.getElem?_set_self (List.getElem?_eq_some_iff.mp e).1] at t1; cases t1; cases t2
    · rw [List.getElem?_set_ne (Ne.symm hj)] at t1
      exact hj (S.sep j i q ⟨t, t1, t2, t3⟩ ⟨_, e, rfl, eq⟩)
  have S1 := S0.freeze (o := .dK kvs) eH w no
  have e' : (ρ.set i Slot.un)[i]? = some .un := List.getElem?_set_self (List.getElem?_eq_some_iff.mp e).1
  have S2 := S1.retell (s' := .v (.dic ks xs)) e' (fun o z => by rw [eq] at z; cases z; exact ⟨.ref q, rfl, q, kvs, rfl, upd_same, ek, l.mono s⟩) fun z => by cases z
  rw [List.set_set] at S2
  exact ⟨_, s, S2⟩
theorem s_frzD {st : Stmt} {m : SM} (h : PS X st (sT c E m)) : PS X st (sT c E (sSeq (sFrzD i) m)) := h.imp fun D σ H ⟨F, ρ, ps, S, h⟩ => by
  unfold sSeq sFrzD at h
  cases er : ρ[i]? with
  | none => rw [er] at h; exact ⟨F, ρ, ps, S, h⟩
  | some sl =>
    rw [er] at h
    cases sl with
    | od ks xs =>
      obtain ⟨F', s, S'⟩ := S.frzD er
      exact ⟨F', _, ps, S', spost.mono s h⟩
    | _ => exact ⟨F, ρ, ps, S, h⟩
/-- name[key] = value, the name an owned dict -/
theorem s_put (hu : X.A.units + 1 < cLine) (hN : X.N[i]? = some x) (hv : Vis X.env.scope x) (hk : PE X b (pT c E mk)) (he : PE X e (pT c E mv)) (hs : swapsWith e (some (.Subscript (.Name x p) b pos')) pos.line X.env = pure false := by rfl)
    (hd : (x == ("__debug__" : Str)) = false := by decide) (hcd : (x == ("__classdict__" : Str)) = false := by decide) : PS X (.Assign [.Subscript (.Name x p) b pos'] e pos) (sT c E (sPut i mk mv)) :=
  (ps_dput hu (pv i hN hv hd hcd) hk he hs).imp fun D σ H ⟨F, ρ, ps, S, h⟩ => by
    unfold sPut at h
    by_cases ho : isOd ρ i = true
    case neg => rw [if_neg ho] at h; exact h.elim
    rw [if_pos ho] at h
    obtain ⟨ks0, xs0, e0⟩ := isOd_at ho
    obtain ⟨q0, kvs0, eq0, _, _, _⟩ := od_at S e0
    unfold sPutD at h
    refine spost_bind (R' := RD c) S h fun d v F1 ρ1 ps1 H1 s1 S1 r1 h1 => ?_
    refine ⟨_, eq0, spost_bind (R' := RD c) S1 h1 fun k w F2 ρ2 ps2 H2 s2 S2 r2 h2 => ?_⟩
    cases er : ρ2[i]? with
    | none => rw [er] at h2; exact h2.elim
    | some sl =>
      rw [er] at h2
      cases sl with
      | od ks xs =>
        cases ek : keyOf k with
        | none => rw [ek] at h2; exact h2.elim
        | some kk =>
          rw [ek] at h2
          by_cases hz : ks.length < 100000 ∧ ks.length = xs.length
          case neg => simp only [if_neg hz] at h2; exact h2.elim
          simp only [if_pos hz] at h2
          obtain ⟨q, kvs, eq, eH, ⟨ekk, l⟩, wo⟩ := od_at S2 er
          rw [eq0] at eq
          cases eq
          have rk := (repK_of ekk l).put (Rep.mono s2 r1) (k := kk)
          have hlen : kvs.length < sizeLine := by
            have : kvs.length = ks.length := by rw [← ekk, List.length_map]
            rw [sizeLine_eq]; omega
          rw [key_kV ek r2]
          refine ⟨q0, _, rfl, DPut.k eH hlen, h2 F2 _ σ (Sub.refl F2) ?_⟩
          exact S2.write er rfl eq0 wo (fun x z => by rw [eH] at z; cases z) ⟨q0, _, rfl, upd_same, ⟨rk.keys, rk.vals⟩, wo⟩
      | _ => exact h2.elim
end
/-! ### isinstance of an own class -/
def isC (cn : Str) (d : D) : Option D := match d with
  | .ins c _ _ => if c = cn then some (.bl true) else none
  | _ => none
section
variable {X : Cx} {c : Ct} {E : XK} {e : Expr} {me : EM D} {pos p p2 : Pos}
theorem g_isC (cn : Str) {y : Str} (he : PE X e (pT c E me)) (ci : C8.InsC X.K (c.T.cls cn)) (hg : Gl X "isinstance") (hm : X.mg "isinstance" = none) (hgy : Gl X y) (hmy : X.mg y = some (.ref (c.T.cls cn))) (hyd : (y == ("__debug__" : Str)) = false := by decide)
    (hs : starEach [e, .Name y p2] X.env = (false, eval e X.env) :: starEach [.Name y p2] X.env := by rfl) (hs2 : starEach [.Name y p2] X.env = (false, eval (.Name y p2) X.env) :: starEach [] X.env := by rfl) (hpl : (backTo pos (starEach [.Name y p2] X.env)).any (·.1) = false := by rfl)
    (hv : bootBuiltins "isinstance" = some (.builtin "isinstance") := by decide +kernel) : PE X (.Call (.Name "isinstance" p) [e, .Name y p2] [] pos) (pT c E (eOp1 (isC cn) me)) :=
  (pe_callB (C8.call_isC ci) hg hm hv (pa_cons he (pa_cons (pe_glob (v := .ref (c.T.cls cn)) hgy hmy rfl hyd) pa_nil hs2) hs) (by decide) (by decide) hs hpl).imp fun σ H Q ⟨F, ρ, ps, S, h⟩ =>
    post_bind S h fun d v F1 ρ1 ps1 H1 s1 S1 r1 h1 => by
      have h1' := okd_of h1
      cases d <;> first
        | exact (okd_none h1').elim
        | skip
      rename_i c' ns xs
      unfold isC at h1'
      by_cases hc : c' = cn
      case neg => simp only [if_neg hc] at h1'; exact (okd_none h1').elim
      simp only [if_pos hc] at h1'
      subst hc
      obtain ⟨a, dx, fs, rfl, f, _⟩ := r1
      exact ⟨a, dx, fs, rfl, S1.sub _ _ f, OkD.flat h1' S1 rfl⟩
end
end PL

set_option maxHeartbeats 4000000
namespace PL
open PySem L2
/-! ### [.. for .. in .. for .. in ..] -/
def compL2 (t : TM) (ow : List Nat) (mt : EM Bool) (mi1 : EM (List D)) (t1 : TM) (ow1 : List Nat) (mt1 : EM Bool) (me : EM D) : List D → List D → EM (List D)
  | [], acc => pureE acc
  | x :: r, acc => fun ρ ps => match t x ρ with
    | none => .stuck
    | some ρ1 => match mt ρ1 ps with
      | .ok true ρ2 ps2 => match mi1 ρ2 ps2 with
        | .ok items1 ρ3 ps3 => match compL t1 ow1 mt1 me items1 acc (wipeE ρ3 ow1) ps3 with
          | .ok acc' ρ4 ps4 => compL2 t ow mt mi1 t1 ow1 mt1 me r acc' (wipeE ρ4 ow) ps4
          | _ => .stuck
        | _ => .stuck
      | .ok false ρ2 ps2 => compL2 t ow mt mi1 t1 ow1 mt1 me r acc (wipeE ρ2 ow) ps2
      | _ => .stuck
def fComp2 (mi : EM (List D)) (t : TM) (ow : List Nat) (mt : EM Bool) (mi1 : EM (List D)) (t1 : TM) (ow1 : List Nat) (mt1 : EM Bool) (me : EM D) : EM (List D) := bindE mi fun items => fun ρ ps =>
  if (ow.all (fun i => decide (i < ρ.length) && !isOwn (ρ.getD i .un)) && ow1.all (fun i => ow.contains i)) = true then
    match compL2 t ow mt mi1 t1 ow1 mt1 me items [] (wipeE ρ ow) ps with
    | .ok acc ρ' ps' => .ok acc (backE ρ ow ρ') ps'
    | _ => .stuck
  else .stuck
theorem SR.addTo {c : Ct} {F H : Hp} {ρ : En} {ps : Pn} {σ : St} {Dd : Addr} {vs : List V} {y : V} (n0 : c.H0 Dd = none) (np : c.pa.at ≠ some Dd) (nb : c.F0 Dd = none) (S : SR (c.and Dd (.lst vs)) F H ρ ps σ) :
    H Dd = some (.lst vs) ∧ SR (c.and Dd (.lst (vs ++ [y]))) F (upd H Dd (.lst (vs ++ [y]))) ρ ps σ := by
  obtain ⟨Sc, eD, fD, no⟩ := SR.un n0 np S
  have wD : Own c F Dd := ⟨fD.trans nb, n0, np⟩
  refine ⟨eD, ?_⟩
  have S7 : SR c F (upd H Dd (.lst (vs ++ [y]))) ρ ps σ := by
    refine ⟨fun a u z => ?_, fun a u z n => ?_, Sc.grow, Sc.base, Sc.len, fun j sl z => ?_, Sc.sep, ?_⟩
    · rw [upd_ne (fun k => by rw [k, wD.nf] at z; cases z)]; exact Sc.sub a u z
    · rw [upd_ne (fun k => by rw [k, n0] at z; cases z)]; exact Sc.keep a u z n
    · obtain ⟨ov, e1, r⟩ := Sc.slot j sl z
      refine ⟨ov, e1, ?_⟩
      cases sl with
      | un => trivial
      | v d => exact r
      | ol xs =>
        obtain ⟨p', us, e2, e3, r, w'⟩ := r
        have ne : p' ≠ Dd := fun k => no j ⟨_, z, rfl, by rw [e1, e2, k]⟩
        exact ⟨p', us, e2, by rw [upd_ne ne]; exact e3, r, w'⟩
      | od ks xs =>
        obtain ⟨p', us, e2, e3, r, w'⟩ := r
        have ne : p' ≠ Dd := fun k => no j ⟨_, z, rfl, by rw [e1, e2, k]⟩
        exact ⟨p', us, e2, by rw [upd_ne ne]; exact e3, r, w'⟩
      | oi cn ns xs =>
        obtain ⟨p', dx, fs, e2, e3, e4, e7, r, w'⟩ := r
        have ne : p' ≠ Dd := fun k => no j ⟨_, z, rfl, by rw [e1, e2, k]⟩
        exact ⟨p', dx, fs, e2, by rw [upd_ne ne]; exact e3, by rw [upd_ne (ne_of e4 eD (by intro k; cases k))]; exact e4, e7, r, w'⟩
    · have hp := Sc.pen
      unfold PenR at hp ⊢
      cases ep : c.pa with
      | none => trivial
      | some pp =>
        obtain ⟨pp, ca⟩ := pp
        rw [ep] at hp
        obtain ⟨q1, q2, q3⟩ := hp
        exact ⟨by rw [upd_ne (fun k => np (by rw [ep, ← k]; rfl))]; exact q1, q2, q3⟩
  exact S7.and upd_same wD no
theorem wipe_sub {σ : St} {ow ow1 : List Nat} (h : ∀ i ∈ ow1, i ∈ ow) : L2.wipe (L2.wipe σ ow1) ow = L2.wipe σ ow :=
  wipe_chg (ix := ow1) (σ := σ) (σ' := L2.wipe σ ow1) ⟨wipe_length .., fun j hj => wipe_get hj⟩ h
section
variable {X : Cx} {c : Ct} {E : XK} {elt tg iter tg1 iter1 : Expr} {ifs ifs1 : List Expr} {scope : Scope} {own : List (Str × Nat)} {ow1 : List Nat} {pos : Pos} {mi mi1 : EM (List D)} {g g1 : TG} {t t1 : TM} {ix ix1 : List Nat} {mt mt1 : EM Bool} {me : EM D}
abbrev cI (c : Ct) (m : EM (List D)) : TI := fun σ H R => ∃ h : Hp, pTI { c with H0 := h } E0 m σ H R
theorem comp_read2 (hix : ∀ i ∈ ix, i ∈ own.map (·.2)) (hix1 : ∀ i ∈ ix1, i ∈ ow1)
    (hg2 : ∀ (h : Hp) (F H : Hp) (ρ : En) (ps : Pn) (σ : St) (d : D) (v : V) (Q : St → Hp → Prop) (ρ' : En), SR { c with H0 := h } F H ρ ps σ → Rep c.T c.pa F d v → t d ρ = some ρ' → (∀ σ', Chg ix σ σ' → SR { c with H0 := h } F H ρ' ps σ' → Q σ' H) → g v σ H Q)
    (hg3 : ∀ (h : Hp) (F H : Hp) (ρ : En) (ps : Pn) (σ : St) (d : D) (v : V) (Q : St → Hp → Prop) (ρ' : En), SR { c with H0 := h } F H ρ ps σ → Rep c.T c.pa F d v → t1 d ρ = some ρ' → (∀ σ', Chg ix1 σ σ' → SR { c with H0 := h } F H ρ' ps σ' → Q σ' H) → g1 v σ H Q)
    {σ : St} {H : Hp} {Q : VK} (h : pTF c E (fComp2 mi t (own.map (·.2)) mt mi1 t1 ow1 mt1 me) σ H Q) : tLc2 (pTI c E mi) g (cT c mt) (cI c mi1) g1 (cT c mt1) (cE c me) (own.map (·.2)) ow1 σ H Q := by
  obtain ⟨F, ρ, ps, S, h⟩ := h
  refine post_bind S h fun items J F1 ρ1 ps1 H1 s1 S1 r1 h1 => ?_
  intro Dd nD
  generalize hown : own.map (·.2) = ow at h1 hix ⊢
  by_cases hal : (ow.all (fun i => decide (i < ρ1.length) && !isOwn (ρ1.getD i .un)) && ow1.all (fun i => ow.contains i)) = true
  case neg => rw [if_neg hal] at h1; exact h1.elim
  rw [if_pos hal] at h1
  rw [Bool.and_eq_true] at hal
  obtain ⟨hal, hsb⟩ := hal
  have hsub : ∀ i ∈ ow1, i ∈ ow := fun i hi => by simpa using List.all_eq_true.mp hsb i hi
  have hal' : ∀ i ∈ ow, i < ρ1.length ∧ isOwn (ρ1.getD i .un) = false := fun i hi => by
    have := List.all_eq_true.mp hal i hi
    simpa [Bool.and_eq_true] using this
  obtain ⟨Sw, _⟩ := S1.wipe (own := ow) fun i hi => (hal' i hi).1
  have w0 := S1.fresh nD
  have nb : c.F0 Dd = none := by
    cases q : c.F0 Dd with
    | none => rfl
    | some u => have := S1.base _ _ q; rw [w0.nf] at this; cases this
  -- the invariant
  let Wo : Nat → Hp → Prop := fun i H' => ∃ F' ρ' ps' acc vs, Sub F1 F' ∧ SR (c.and Dd (.lst vs)) F' H' ρ' ps' (L2.wipe σ ow) ∧ RepL c.T c.pa F' acc vs ∧
      post c E (RF c) Q σ F' (match compL2 t ow mt mi1 t1 ow1 mt1 me (items.drop i) acc ρ' ps' with
        | .ok acc ρ' ps' => .ok acc (backE ρ1 ow ρ') ps'
        | _ => .stuck)
  refine ⟨fun i m H' => m = items.length - i ∧ i ≤ items.length ∧ Wo i H', ⟨items.length, by simp, Nat.zero_le _, F1, wipeE ρ1 ow, ps1, [], [], Sub.refl F1, ?_, RepL.nil, h1⟩, ?_⟩
  · exact (Sw.alloc (o := .lst []) nD).and upd_same w0 fun i z => Sw.notOwned nD i z
  rintro i m H' ⟨rfl, hi, F', ρ', ps', acc, vs, s', S', ra, q⟩
  obtain ⟨S'c, eD, fD, noD⟩ := SR.un w0.n0 w0.np S'
  have okc : IterOk (c.and Dd (.lst vs)) J items F1 := r1 (upd c.H0 Dd (.lst vs)) fun a n => by
    by_cases z : a = Dd
    · subst z; exact .inr (w0.nf.trans nb.symm)
    · rw [upd_ne z] at n; exact .inl n
  obtain ⟨k1, k2⟩ := okc i F' H' ρ' ps' (L2.wipe σ ow) s' S'
  by_cases hlt : i < items.length
  · have ei : items[i]? = some items[i] := List.getElem?_eq_getElem hlt
    obtain ⟨go, yl⟩ := k1 _ ei
    refine .inr ⟨go, Wo (i + 1), fun H2 a => ⟨items.length - (i + 1), by omega, rfl, hlt, a⟩, fun x H2 y => ?_⟩
    obtain ⟨F2, s2, S2, rx⟩ := yl x H2 y
    rw [List.drop_eq_getElem_cons hlt] at q
    simp only [compL2] at q
    cases et : t items[i] ρ' with
    | none => rw [et] at q; exact q.elim
    | some ρ3 =>
      rw [et] at q
      dsimp only at q
      refine hg2 (upd c.H0 Dd (.lst vs)) F2 H2 ρ' ps' _ _ x _ ρ3 S2 rx et fun σ3 k3 S3 => ⟨(wipe_chg k3 hix).trans (wipe_wipe ow), ?_⟩
      have wσ : L2.wipe σ3 ow = L2.wipe σ ow := (wipe_chg k3 hix).trans (wipe_wipe ow)
      have lenσ : σ3.length = σ.length := by rw [k3.1, wipe_length]
      have len3 : ∀ {ρ4 : En} {F4 H4 : Hp} {ps4 : Pn} {c4 : Ct} {σ4 : St}, σ4.length = σ.length → SR c4 F4 H4 ρ4 ps4 σ4 → ∀ i ∈ ow, i < ρ4.length := fun {ρ4 F4 H4 ps4 c4 σ4} el S4 i hi => by
        rw [← S4.len, el, S1.len]
        exact (hal' i hi).1
      refine ⟨upd c.H0 Dd (.lst vs), F2, ρ3, ps', S3, ?_⟩
      cases em : mt ρ3 ps' with
      | stuck => rw [em] at q; exact q.elim
      | ex e ρ4 ps4 => rw [em] at q; exact q.elim
      | ok b ρ4 ps4 =>
        rw [em] at q
        intro b' F4 H4 s4 S4 eb
        have eb' : b = b' := eb
        subst eb'
        cases b with
        | false =>
          dsimp only at q
          refine iteF ?_
          have S5 := (S4.wipe (own := ow) (len3 lenσ S4)).1
          rw [wσ] at S5
          exact ⟨F4, wipeE ρ4 ow, ps4, acc, vs, s'.trans (s2.trans s4), S5, ra.mono (s2.trans s4), q.mono (s2.trans s4)⟩
        | true =>
          dsimp only at q
          refine iteT ⟨upd c.H0 Dd (.lst vs), F4, ρ4, ps4, S4, ?_⟩
          cases ee : mi1 ρ4 ps4 with
          | stuck => rw [ee] at q; exact q.elim
          | ex e ρ5 ps5 => rw [ee] at q; exact q.elim
          | ok items1 ρ5 ps5 =>
            rw [ee] at q
            dsimp only at q
            intro J1 F5 H5 s5 S5 r5
            have s15 : Sub F' F5 := s2.trans (s4.trans s5)
            have q := q.mono s15
            have S5w := (S5.wipe (own := ow1) fun i hi => len3 lenσ S5 i (hsub i hi)).1
            -- the inner invariant
            refine ⟨fun j k H6 => k = items1.length - j ∧ j ≤ items1.length ∧ ∃ F6 ρ6 ps6 acc6 vs6, Sub F5 F6 ∧ SR (c.and Dd (.lst vs6)) F6 H6 ρ6 ps6 (L2.wipe σ3 ow1) ∧ RepL c.T c.pa F6 acc6 vs6 ∧
                post c E (RF c) Q σ F6 (match (match compL t1 ow1 mt1 me (items1.drop j) acc6 ρ6 ps6 with
                    | .ok acc' ρ4 ps4 => compL2 t ow mt mi1 t1 ow1 mt1 me (items.drop (i + 1)) acc' (wipeE ρ4 ow) ps4
                    | _ => .stuck) with
                  | .ok acc ρ' ps' => .ok acc (backE ρ1 ow ρ') ps'
                  | _ => .stuck), ⟨items1.length, by simp, Nat.zero_le _, F5, wipeE ρ5 ow1, ps5, acc, vs, Sub.refl F5, S5w, ra.mono s15, q⟩, ?_⟩
            rintro j k H6 ⟨rfl, hj, F6, ρ6, ps6, acc6, vs6, s6, S6, ra6, q6⟩
            have ok6 : IterOk (c.and Dd (.lst vs6)) J1 items1 F5 := r5 (upd c.H0 Dd (.lst vs6)) fun a n => by
              refine .inl ?_
              show upd c.H0 Dd (.lst vs) a ≠ none
              by_cases z : a = Dd
              · rw [z, upd_same]; simp
              · rw [upd_ne z] at n ⊢; exact n
            obtain ⟨l1, l2⟩ := ok6 j F6 H6 ρ6 ps6 (L2.wipe σ3 ow1) s6 S6
            by_cases hlt1 : j < items1.length
            · have ej : items1[j]? = some items1[j] := List.getElem?_eq_getElem hlt1
              obtain ⟨go1, yl1⟩ := l1 _ ej
              refine .inr ⟨go1, fun H7 => ∃ F6 ρ6 ps6 acc6 vs6, Sub F5 F6 ∧ SR (c.and Dd (.lst vs6)) F6 H7 ρ6 ps6 (L2.wipe σ3 ow1) ∧ RepL c.T c.pa F6 acc6 vs6 ∧
                post c E (RF c) Q σ F6 (match (match compL t1 ow1 mt1 me (items1.drop (j + 1)) acc6 ρ6 ps6 with
                    | .ok acc' ρ4 ps4 => compL2 t ow mt mi1 t1 ow1 mt1 me (items.drop (i + 1)) acc' (wipeE ρ4 ow) ps4
                    | _ => .stuck) with
                  | .ok acc ρ' ps' => .ok acc (backE ρ1 ow ρ') ps'
                  | _ => .stuck), fun H7 a => ⟨items1.length - (j + 1), by omega, rfl, hlt1, a⟩, fun x1 H7 y1 => ?_⟩
              obtain ⟨F7, s7, S7, rx1⟩ := yl1 x1 H7 y1
              rw [List.drop_eq_getElem_cons hlt1] at q6
              simp only [compL] at q6
              cases et1 : t1 items1[j] ρ6 with
              | none => rw [et1] at q6; exact q6.elim
              | some ρ7 =>
                rw [et1] at q6
                dsimp only at q6
                refine hg3 (upd c.H0 Dd (.lst vs6)) F7 H7 ρ6 ps6 _ _ x1 _ ρ7 S7 rx1 et1 fun σ7 k7 S8 => ⟨(wipe_chg k7 hix1).trans (wipe_wipe ow1), ?_⟩
                have wσ7 : L2.wipe σ7 ow1 = L2.wipe σ3 ow1 := (wipe_chg k7 hix1).trans (wipe_wipe ow1)
                have lenσ7 : σ7.length = σ.length := by rw [k7.1, wipe_length]; exact lenσ
                refine ⟨upd c.H0 Dd (.lst vs6), F7, ρ7, ps6, S8, ?_⟩
                cases em1 : mt1 ρ7 ps6 with
                | stuck => rw [em1] at q6; exact q6.elim
                | ex e ρ8 ps8 => rw [em1] at q6; exact q6.elim
                | ok b ρ8 ps8 =>
                  rw [em1] at q6
                  intro b' F8 H8 s8 S9 eb1
                  have eb1' : b = b' := eb1
                  subst eb1'
                  cases b with
                  | false =>
                    dsimp only at q6
                    refine iteF ?_
                    have S10 := (S9.wipe (own := ow1) fun i hi => len3 lenσ7 S9 i (hsub i hi)).1
                    rw [wσ7] at S10
                    exact ⟨F8, wipeE ρ8 ow1, ps8, acc6, vs6, s6.trans (s7.trans s8), S10, ra6.mono (s7.trans s8), q6.mono (s7.trans s8)⟩
                  | true =>
                    dsimp only at q6
                    refine iteT ⟨upd c.H0 Dd (.lst vs6), F8, ρ8, ps8, S9, ?_⟩
                    cases ee1 : me ρ8 ps8 with
                    | stuck => rw [ee1] at q6; exact q6.elim
                    | ex e ρ9 ps9 => rw [ee1] at q6; exact q6.elim
                    | ok d ρ9 ps9 =>
                      rw [ee1] at q6
                      dsimp only at q6
                      intro yy F9 H9 s9 S11 rd
                      by_cases hz : acc6.length < sizeLine
                      case neg => rw [if_neg hz] at q6; exact q6.elim
                      rw [if_pos hz] at q6
                      obtain ⟨e9, S12⟩ := SR.addTo (y := yy) w0.n0 w0.np nb S11
                      have S13 := (S12.wipe (own := ow1) fun i hi => len3 lenσ7 S12 i (hsub i hi)).1
                      rw [wσ7] at S13
                      have s69 : Sub F6 F9 := s7.trans (s8.trans s9)
                      exact ⟨vs6, e9, by rw [← ra6.length]; exact hz, F9, wipeE ρ9 ow1, ps9, acc6 ++ [d], vs6 ++ [yy], s6.trans s69, S13, (ra6.mono s69).append (RepL.one rd), q6.mono s69⟩
            · have e : j = items1.length := by omega
              subst e
              rw [List.drop_length] at q6
              refine .inl ⟨l2 (Nat.le_refl _), ?_⟩
              have q6' : post c E (RF c) Q σ F6 (match compL2 t ow mt mi1 t1 ow1 mt1 me (items.drop (i + 1)) acc6 (wipeE ρ6 ow) ps6 with
                  | .ok acc ρ' ps' => .ok acc (backE ρ1 ow ρ') ps'
                  | _ => .stuck) := q6
              have S14 := (S6.wipe (own := ow) fun i hi => len3 (by rw [wipe_length]; exact lenσ) S6 i hi).1
              rw [wipe_sub hsub, wσ] at S14
              exact ⟨F6, wipeE ρ6 ow, ps6, acc6, vs6, (s'.trans s15).trans s6, S14, ra6, q6'⟩
  · have e : i = items.length := by omega
    subst e
    rw [List.drop_length] at q
    refine .inl ⟨k2 (Nat.le_refl _), ?_⟩
    have wD : Own c F' Dd := ⟨fD.trans nb, w0.n0, w0.np⟩
    have q' : post c E (RF c) Q σ F' (.ok acc (backE ρ1 ow ρ') ps') := q
    have Sb : SR c F' H' (backE ρ1 ow ρ') ps' σ := S1.back s' S'c fun i hi => (hal' i hi).2
    refine q' _ F' H' (Sub.refl F') Sb ⟨Dd, vs, rfl, eD, ra, wD, fun i ⟨sl, e1, e2, e3⟩ => ?_⟩
    rw [back_get] at e1
    by_cases hc : i ∈ ow ∧ i < ρ'.length
    · rw [if_pos hc] at e1
      cases e1
      rw [(hal' i hc.1).2] at e2; cases e2
    · rw [if_neg hc] at e1
      have hi : i ∉ ow := fun z => hc ⟨z, (List.getElem?_eq_some_iff.mp e1).1⟩
      exact noD i ⟨sl, e1, e2, by rw [wipe_get hi]; exact e3⟩
theorem f_comp2 (hc : X.calm = true) (hN : X.N.Nodup) (hi : PI X tg iter (pTI c E mi)) (ok : BlkOk X.N X.env.scope scope own) (hv : ∀ i ∈ ow1, i ∈ own.map (·.2)) (hix : ∀ i ∈ ix, i ∈ own.map (·.2)) (hix1 : ∀ i ∈ ix1, i ∈ ow1)
    (hg : ∀ (h : Hp) (s : Shared) (H : Hp) (C : Addr) (cl : List (Str × Addr)) (fp : List Addr), GT (X.blk s H scope (compEnvC scope cl C X.env) fp) { c with H0 := h } tg g t ix)
    (ht : ∀ (h : Hp) (s : Shared) (H : Hp) (C : Addr) (cl : List (Str × Addr)) (fp : List Addr), PTs (X.blk s H scope (compEnvC scope cl C X.env) fp) ifs (pTT { c with H0 := h } E0 mt))
    (hi1 : ∀ (h : Hp) (s : Shared) (H : Hp) (C : Addr) (cl : List (Str × Addr)) (fp : List Addr), PI (X.blk s H scope (compEnvC scope cl C X.env) fp) tg1 iter1 (pTI { c with H0 := h } E0 mi1))
    (hg1 : ∀ (h : Hp) (s : Shared) (H : Hp) (C : Addr) (cl : List (Str × Addr)) (fp : List Addr), GT (X.blk s H scope (compEnvC scope cl C X.env) fp) { c with H0 := h } tg1 g1 t1 ix1)
    (ht1 : ∀ (h : Hp) (s : Shared) (H : Hp) (C : Addr) (cl : List (Str × Addr)) (fp : List Addr), PTs (X.blk s H scope (compEnvC scope cl C X.env) fp) ifs1 (pTT { c with H0 := h } E0 mt1))
    (he : ∀ (h : Hp) (s : Shared) (H : Hp) (C : Addr) (cl : List (Str × Addr)) (fp : List Addr), PE (X.blk s H scope (compEnvC scope cl C X.env) fp) elt (pT { c with H0 := h } E0 me)) (hs : ∀ x, foldedSetIterable iter X.env x = pure x := by intro _; rfl) (hs1 : ∀ env x, foldedSetIterable iter1 env x = pure x := by intro _ _; rfl) :
    PE X (.ListComp elt [⟨tg, iter, ifs, 0⟩, ⟨tg1, iter1, ifs1, 0⟩] scope pos) (pTF c E (fComp2 mi t (own.map (·.2)) mt mi1 t1 ow1 mt1 me)) := by
  have hT : ∀ (s : Shared) (H : Hp) (C : Addr) (cl : List (Str × Addr)) (fp : List Addr), PTs (X.blk s H scope (compEnvC scope cl C X.env) fp) ifs (cT c mt) := fun s H C cl fp => ⟨fun pins s' σ H' Q I ⟨h, q⟩ => (ht h s H C cl fp).run pins s' σ H' Q I q⟩
  have hT1 : ∀ (s : Shared) (H : Hp) (C : Addr) (cl : List (Str × Addr)) (fp : List Addr), PTs (X.blk s H scope (compEnvC scope cl C X.env) fp) ifs1 (cT c mt1) := fun s H C cl fp => ⟨fun pins s' σ H' Q I ⟨h, q⟩ => (ht1 h s H C cl fp).run pins s' σ H' Q I q⟩
  have hI1 : ∀ (s : Shared) (H : Hp) (C : Addr) (cl : List (Str × Addr)) (fp : List Addr), PI (X.blk s H scope (compEnvC scope cl C X.env) fp) tg1 iter1 (cI c mi1) := fun s H C cl fp => ⟨fun pins s' σ H' Q I ⟨h, q⟩ => (hi1 h s H C cl fp).run pins s' σ H' Q I q⟩
  have hE : ∀ (s : Shared) (H : Hp) (C : Addr) (cl : List (Str × Addr)) (fp : List Addr), PE (X.blk s H scope (compEnvC scope cl C X.env) fp) elt (cE c me) := fun s H C cl fp => ⟨fun pins s' σ H' Q I ⟨h, q⟩ => (he h s H C cl fp).run pins s' σ H' Q I q⟩
  exact ⟨fun pins sh σ H Q I h => (pe_lc2 hc hN hi ok hv (fun s H C cl fp => (hg c.H0 s H C cl fp).1) hT hI1 (fun s H C cl fp => (hg1 c.H0 s H C cl fp).1) hT1 hE hs hs1).run pins sh σ H Q I (comp_read2 hix hix1 (fun h => (hg h sh H 0 [] []).2) (fun h => (hg1 h sh H 0 [] []).2) h)⟩
end
end PL

set_option maxHeartbeats 4000000
namespace PL
open PySem L2
/-! ### sorted, of ints -/
def intsO : List D → Option (List Int)
  | [] => some []
  | .int i :: r => (intsO r).map (i :: ·)
  | _ => none
def sortInts (ns : List Int) : List Int := ns.mergeSort fun a b => decide (a ≤ b)
def sortedD : List D → Option D
  | [.lst xs] => (intsO xs).map fun ns => .lst ((sortInts ns).map .int)
  | _ => none
theorem intsO_some : ∀ {xs : List D} {ns : List Int}, intsO xs = some ns → xs = ns.map .int
  | [], _, h => by cases h; rfl
  | d :: r, ns, h => by
    cases d <;> first | (cases h; done) | skip
    rename_i i
    simp only [intsO] at h
    cases e : intsO r with
    | none => rw [e] at h; cases h
    | some m => rw [e] at h; cases h; rw [intsO_some e]; rfl
theorem repLe {T : Tab} {pa : Pa} {F : Hp} : ∀ {ns : List Int} {vs : List V}, RepL T pa F (ns.map .int) vs → vs = ns.map V.int
  | [], _, h => h
  | n :: ns, _, ⟨v, r, e, h, t⟩ => by subst e; rw [repLe t]; cases h; rfl
theorem repLi {T : Tab} {pa : Pa} {F : Hp} : ∀ (ns : List Int), RepL T pa F (ns.map .int) (ns.map V.int)
  | [] => rfl
  | n :: ns => RepL.cons rfl (repLi ns)
theorem sort_uniq {ns ms : List Int} (p : ms.Perm ns) (h : ms.Pairwise (· ≤ ·)) : ms = sortInts ns := by
  have h2 : (sortInts ns).Pairwise (fun a b => decide (a ≤ b) = true) := List.pairwise_mergeSort (fun a b c h1 h2 => by simp at *; omega) (fun a b => by simp; omega) ns
  have h2' : (sortInts ns).Pairwise (· ≤ ·) := h2.imp fun h => of_decide_eq_true h
  exact List.Perm.eq_of_pairwise (le := (· ≤ ·)) (fun a b _ _ h1 h2 => Int.le_antisymm h1 h2) h h2' (p.trans (List.mergeSort_perm ns _).symm)
section
variable {X : Cx} {c : Ct} {E : XK} {e : Expr} {me : EM D} {pos p : Pos}
theorem d_sorted : CallD c (rSortedI X.K) sortedD := fun F H ρ ps σ ds vs Q S r h => by
  cases ds with
  | nil => exact (okd_none h).elim
  | cons d r1 =>
    cases r1 with
    | cons _ _ => cases d <;> exact (okd_none h).elim
    | nil =>
      cases d <;> first
        | exact (okd_none h).elim
        | skip
      rename_i xs
      simp only [sortedD] at h
      cases ei : intsO xs with
      | none => rw [ei] at h; exact (okd_none h).elim
      | some ns =>
        rw [ei] at h
        have ex := intsO_some ei
        subst ex
        obtain ⟨v, rr, rfl, ⟨a, us, rfl, f, l⟩, hr⟩ := r
        cases hr
        rw [repLe l] at f
        refine ⟨a, ns, rfl, SqL.of (S.sub _ _ f), fun ns' p hp hs n => ?_⟩
        rw [sort_uniq hp hs]
        exact OkD.lst h S (repLi _) n
theorem x_sorted (hc : X.calm = true) (hg : Gl X "sorted") (hm : X.mg "sorted" = none) (ha : PE X e (pT c E me)) (he : starEach [e] X.env = (false, eval e X.env) :: starEach [] X.env := by rfl) (hpl : (backTo pos (starEach [] X.env)).any (·.1) = false := by rfl) : PE X (.Call (.Name "sorted" p) [e] [] pos) (pT c E (eOpN sortedD (eCons me eNil))) :=
  g_bi (id := "sorted") cr_sortedI d_sorted hg hm (by decide +kernel) (g_cons ha g_nil he) (he := he) (hpl := hpl)
end
end PL

set_option maxHeartbeats 4000000
namespace PL
open PySem L2
/-! ### [a[x] == b[x] for x in b], of dicts of texts -/
def isSt : D → Bool
  | .str _ => true
  | _ => false
def dEq (ka : List Key) (xa : List D) (kb : List Key) (xb : List D) : List Key → Option (List Bool)
  | [] => some []
  | k :: ks => match lookD ka xa k, lookD kb xb k with
    | some a, some b => if (isSt a && isSt b) = true then (dEq ka xa kb xb ks).map (eqv a b :: ·) else none
    | _, _ => none
def fDictEq (i j k : Nat) : EM (List D) := fun ρ ps => match ρ[i]?, ρ[j]? with
  | some (.v (.dic ka xa)), some (.v (.dic kb xb)) => if k < ρ.length ∧ i ≠ k ∧ j ≠ k ∧ kb.length < 1000 then match dEq ka xa kb xb kb with
      | some bs => .ok (bs.map .bl) ρ ps
      | none => .stuck
    else .stuck
  | _, _ => .stuck
theorem dEq_at {ka : List Key} {xa : List D} {kb : List Key} {xb : List D} : ∀ {ks : List Key} {bs : List Bool}, dEq ka xa kb xb ks = some bs → bs.length = ks.length ∧ ∀ (i : Nat) k, ks[i]? = some k → ∃ a b, lookD ka xa k = some (.str a) ∧ lookD kb xb k = some (.str b) ∧ bs[i]? = some (a == b)
  | [], bs, h => by cases h; exact ⟨rfl, fun i k e => by cases e⟩
  | k0 :: ks, bs, h => by
    simp only [dEq] at h
    cases ea : lookD ka xa k0 with
    | none => rw [ea] at h; cases h
    | some a =>
      cases eb : lookD kb xb k0 with
      | none => rw [ea, eb] at h; cases h
      | some b =>
        rw [ea, eb] at h
        dsimp only at h
        by_cases hs : (isSt a && isSt b) = true
        case neg => rw [if_neg hs] at h; cases h
        rw [if_pos hs] at h
        cases er : dEq ka xa kb xb ks with
        | none => rw [er] at h; cases h
        | some rs =>
          rw [er] at h
          cases h
          obtain ⟨h1, h2⟩ := dEq_at er
          refine ⟨by rw [List.length_cons, List.length_cons, h1], fun i k e => ?_⟩
          cases i with
          | zero =>
            cases e
            rw [Bool.and_eq_true] at hs
            obtain ⟨sa, sb⟩ := hs
            cases a <;> first | (cases sa; done) | skip
            cases b <;> first | (cases sb; done) | skip
            exact ⟨_, _, ea, eb, rfl⟩
          | succ i => exact h2 i k (by simpa using e)
section
variable {X : Cx} {c : Ct} {E : XK} {scope : Scope} {pos p1 p2 p3 p4 p5 p6 p7 p8 p9 : Pos} {A B x : Str} {i j k : Nat}
theorem f_dictEq (hc : X.calm = true) (hN : X.N.Nodup) (hu : X.A.units + 1 < cLine) (hiA : X.N[i]? = some A) (hiB : X.N[j]? = some B) (hik : X.N[k]? = some x) (hvB : Vis X.env.scope B) (ok : BlkOk X.N X.env.scope scope [(x, k)])
    (hA : ∀ (s : Shared) (H : Hp) (C : Addr) (cl : List (Str × Addr)) (fp : List Addr), Vis (X.blk s H scope (compEnvC scope cl C X.env) fp).env.scope A)
    (hB : ∀ (s : Shared) (H : Hp) (C : Addr) (cl : List (Str × Addr)) (fp : List Addr), Vis (X.blk s H scope (compEnvC scope cl C X.env) fp).env.scope B)
    (hx : ∀ (s : Shared) (H : Hp) (C : Addr) (cl : List (Str × Addr)) (fp : List Addr), Vis (X.blk s H scope (compEnvC scope cl C X.env) fp).env.scope x)
    (hg : ∀ (s : Shared) (H : Hp) (C : Addr) (cl : List (Str × Addr)) (fp : List Addr), PG (X.blk s H scope (compEnvC scope cl C X.env) fp) (.Name x p6) (gName k))
    (hdA : (A == ("__debug__" : Str)) = false := by decide) (hcA : (A == ("__classdict__" : Str)) = false := by decide) (hdB : (B == ("__debug__" : Str)) = false := by decide) (hcB : (B == ("__classdict__" : Str)) = false := by decide) (hdx : (x == ("__debug__" : Str)) = false := by decide) (hcx : (x == ("__classdict__" : Str)) = false := by decide)
    (hs : ∀ z, foldedSetIterable (.Name B p7) X.env z = pure z := by intro _; rfl) :
    PE X (.ListComp (.Compare (.Subscript (.Name A p1) (.Name x p2) p3) [.Eq] [.Subscript (.Name B p4) (.Name x p5) p8] p9) [⟨.Name x p6, .Name B p7, [], 0⟩] scope pos) (pTF c E (fDictEq i j k)) := by
  have hE : ∀ (s : Shared) (H : Hp) (C : Addr) (cl : List (Str × Addr)) (fp : List Addr), PE (X.blk s H scope (compEnvC scope cl C X.env) fp) (.Compare (.Subscript (.Name A p1) (.Name x p2) p3) [.Eq] [.Subscript (.Name B p4) (.Name x p5) p8] p9) (tOp rEq (tDGet (tVar i) (tVar k)) (tDGet (tVar j) (tVar k))) := fun s H C cl fp =>
    pe_cmpR op_eq (pe_dget hu (pv i hiA (hA s H C cl fp) hdA hcA) (pv k hik (hx s H C cl fp) hdx hcx) (fun _ _ => rfl)) (pe_dget hu (pv j hiB (hB s H C cl fp) hdB hcB) (pv k hik (hx s H C cl fp) hdx hcx) (fun _ _ => rfl)) (nobehind _ (by decide) (by decide))
  refine (pe_lock (pe_lc hc hN (pi_keys (pv j hiB hvB hdB hcB)) ok hg (fun _ _ _ _ _ => pts_nil) hE hs)).imp fun σ H Q ⟨F, ρ, ps, S, h⟩ => ?_
  unfold fDictEq at h
  cases ea : ρ[i]? with
  | none => rw [ea] at h; exact h.elim
  | some sa =>
    cases eb : ρ[j]? with
    | none => rw [ea, eb] at h; cases sa <;> first | exact h.elim | skip
              rename_i d; cases d <;> exact h.elim
    | some sb =>
      rw [ea, eb] at h
      cases sa <;> first | exact h.elim | skip
      rename_i da
      cases da <;> first | exact h.elim | skip
      rename_i ka xa
      cases sb <;> first | exact h.elim | skip
      rename_i db
      cases db <;> first | exact h.elim | skip
      rename_i kb xb
      dsimp only at h
      by_cases hz : k < ρ.length ∧ i ≠ k ∧ j ≠ k ∧ kb.length < 1000
      case neg => rw [if_neg hz] at h; exact h.elim
      rw [if_pos hz] at h
      obtain ⟨hk, hik', hjk', hlen⟩ := hz
      cases ed : dEq ka xa kb xb kb with
      | none => rw [ed] at h; exact h.elim
      | some bs =>
        rw [ed] at h
        dsimp only at h
        obtain ⟨hbl, hbs⟩ := dEq_at ed
        obtain ⟨oa, e1, va, e2, a1, kvA, e3, fA, hka, lA⟩ := S.slot i _ ea
        obtain ⟨ob, e4, vb, e5, a2, kvB, e6, fB, hkb, lB⟩ := S.slot j _ eb
        subst e2 e3 e5 e6
        subst hka hkb
        have HA := S.sub _ _ fA
        have HB := S.sub _ _ fB
        refine ⟨a2, .dK kvB, HB, trivial, fun od => ⟨.ref a2, e4, a2, od, rfl, .inl ⟨kvB, upd_same, fun Dd nD => ?_⟩⟩⟩
        have nD2 : Dd ≠ a2 := fun z => by rw [z, upd_same] at nD; cases nD
        have nDH : H Dd = none := by rw [upd_ne nD2] at nD; exact nD
        let vs : List V := bs.map V.bl
        let HL : Hp := upd H a2 (.frz od (.dK kvB))
        have hn : bs.length = kvB.length := by rw [hbl, List.length_map]
        refine ⟨fun m n H' => n = kvB.length - m ∧ m ≤ kvB.length ∧ H' = upd HL Dd (.lst (vs.take m)), ⟨kvB.length, by simp, Nat.zero_le _, rfl⟩, ?_⟩
        rintro m n H' ⟨rfl, hm, rfl⟩
        have g2 : upd HL Dd (.lst (vs.take m)) a2 = some (.frz od (.dK kvB)) := by rw [upd_ne (Ne.symm nD2)]; exact upd_same
        by_cases hlt : m < kvB.length
        · refine .inr ⟨⟨g2, hlt⟩, fun H' => H' = upd HL Dd (.lst (vs.take (m + 1))), fun H' e => ⟨kvB.length - (m + 1), by omega, rfl, hlt, e⟩, fun z H'' y => ?_⟩
          obtain ⟨eH, key, v0, ek, ez⟩ := y
          subst eH ez
          have hki : (kvB.map (·.1))[m]? = some key := by rw [List.getElem?_map, ek]; rfl
          obtain ⟨sa, sb, la, lb, eb2⟩ := hbs m key hki
          obtain ⟨va, ga, ra⟩ := (look_rep lA).1 _ la
          obtain ⟨vb, gb, rb⟩ := (look_rep lB).1 _ lb
          have ra : va = .str sa := ra
          have rb : vb = .str sb := rb
          subst ra rb
          have hkσ : k < σ.length := by rw [S.len]; exact hk
          have hw : ∀ q, q ≠ k → (L2.wipe σ [k])[q]? = σ[q]? := fun q hq => by show (σ.set k none)[q]? = _; rw [List.getElem?_set_ne (Ne.symm hq)]
          have hσk : ((L2.wipe σ [k]).set k (some (kV key)))[k]? = some (some (kV key)) := List.getElem?_set_self (by show k < (σ.set k none).length; rw [List.length_set]; exact hkσ)
          have hσq : ∀ q, q ≠ k → ((L2.wipe σ [k]).set k (some (kV key)))[q]? = σ[q]? := fun q hq => by rw [List.getElem?_set_ne (Ne.symm hq)]; exact hw q hq
          have rdB : Rd (upd HL Dd (.lst (vs.take m))) a2 (.dK kvB) := .inr ⟨od, g2⟩
          have rdA : Rd (upd HL Dd (.lst (vs.take m))) a1 (.dK kvA) := by
            by_cases z : a1 = a2
            · subst z
              rw [HA] at HB
              cases HB
              exact .inr ⟨od, g2⟩
            · refine .inl ?_
              rw [upd_ne (fun q => by rw [q, nDH] at HA; cases HA)]
              show upd H a2 _ a1 = _
              rw [upd_ne z]; exact HA
          refine ⟨by show (((σ.set k none).set k _).set k none) = σ.set k none; rw [List.set_set, List.set_set], ?_⟩
          simp only [tYes, if_true]
          refine ⟨.ref a1, (hσq i hik').trans e1, kV key, hσk, a1, .str sa, rfl, .inl ⟨kvA, key, rdA, rfl, ga.symm⟩, .ref a2, (hσq j hjk').trans e4, kV key, hσk, a2, .str sb, rfl, .inl ⟨kvB, key, rdB, rfl, gb.symm⟩, rfl, ?_⟩
          refine ⟨vs.take m, upd_same, by rw [List.length_take, sizeLine_eq]; have := hlen; rw [List.length_map] at this; omega, ?_⟩
          have e8 : vs[m]? = some (V.bl (sa == sb)) := by show (bs.map V.bl)[m]? = _; rw [List.getElem?_map, eb2]; rfl
          have e9 : decide (V.str sa = V.str sb) = (sa == sb) := by
            by_cases q : sa = sb
            · subst q; simp
            · rw [decide_eq_false (fun z => q (V.str.inj z))]; symm; simpa using q
          rw [e9]
          have e10 : vs.take (m + 1) = vs.take m ++ [V.bl (sa == sb)] := by
            rw [List.take_add_one, e8]; rfl
          rw [e10]
          funext b
          by_cases q : b = Dd
          · subst q; rw [upd_same, upd_same]
          · rw [upd_ne q, upd_ne q, upd_ne q]
        · have em : m = kvB.length := by omega
          subst em
          refine .inl ⟨⟨g2, Nat.le_refl _⟩, g2, ?_⟩
          have e11 : vs.take kvB.length = vs := List.take_of_length_le (by show (bs.map V.bl).length ≤ _; rw [List.length_map, hn]; exact Nat.le_refl _)
          rw [e11]
          have e12 : upd (upd HL Dd (.lst vs)) a2 (.dK kvB) = upd H Dd (.lst vs) := by
            funext b
            by_cases q : b = a2
            · subst q; rw [upd_same, upd_ne (Ne.symm nD2)]; exact HB.symm
            · rw [upd_ne q]
              by_cases q2 : b = Dd
              · subst q2; rw [upd_same, upd_same]
              · rw [upd_ne q2, upd_ne q2]
                show upd H a2 _ b = _
                rw [upd_ne q]
          rw [e12]
          have rl : RepL c.T c.pa F (bs.map .bl) vs := by
            show RepL c.T c.pa F (bs.map .bl) (bs.map V.bl)
            clear e11 e12 g2 hbs hbl ed h hn
            induction bs with
            | nil => exact RepL.nil
            | cons b bs ih => exact RepL.cons rfl ih
          exact h (.ref Dd) F (upd H Dd (.lst vs)) (Sub.refl F) (S.alloc nDH) ⟨Dd, vs, rfl, upd_same, rl, S.fresh nDH, fun q z => S.notOwned nDH q z⟩
end
end PL
namespace PL
open PySem L2
theorem kit_self (K : PySem.W.Frag) (A : Addr) : PySem.W.kitOne K (.ref A) (.ref A) = some true := by
  unfold PySem.W.kitOne
  rw [if_pos]
  first | exact beq_self_eq_true _ | (show decide _ = true; simp) | simp
end PL

set_option maxHeartbeats 4000000
/-! ## enumerate of a tuple -/
namespace PL
open PySem PySem.Spec PyProof.Rows L2
open AutoSeq1 (wpAny_loadPart')
theorem enT_new (l : Addr) (its : Array Value) (n : Nat) (dd : Option Addr) (sl : Array (Option Value)) :
    Meets (Builtin.«enumerate.__new__» ⟨[.type "enumerate", .ref l], []⟩) (fun _ R s => s.heap.get? l = some ⟨.type "tuple", dd, .seq its n, sl⟩ ∧
      R (.ok (.ret (.ref (s.heap.push { cls := .type "tuple_iterator", data := .fields #[.ref l, .int 0 0] }).objs.size)))
        { s with heap := (s.heap.push { cls := .type "tuple_iterator", data := .fields #[.ref l, .int 0 0] }).push { cls := .type "enumerate", data := .fields #[.none, .bool false, .ref s.heap.objs.size, rawInt 0, .none, .none] } }) :=
  .of_wp fun prog w A R s hyp => by
    obtain ⟨hp, g, d, tk, os⟩ := s
    obtain ⟨hl, hyp⟩ := hyp
    have hsb := sub_enumerate
    have hT : Heap.IsTuple (Shared.heap ⟨hp, g, d, tk, os⟩) l its := ⟨_, hl, rfl, n, rfl⟩
    wp_walk using wpAny_loadPart' hl
    refine wpAny_stack_any fun q => wpAny_pure ?_
    split
    · rename_i c _ _ _ _ _
      cases (c == Value.type "enumerate") <;>
        (wp_walk using wpAny_loadPart' hl, wpAny_pyIter_tuple hT
         exact ⟨_, rfl, hyp⟩)
    · wp_walk using wpAny_loadPart' hl, wpAny_pyIter_tuple hT
      exact ⟨_, rfl, hyp⟩
theorem call_enT {P : Program} {w : World} {A : Around} {E : Value → Shared → Prop} {s : Shared} {l : Addr} {its : Array Value} {Q : Value → Shared → Prop} (hT : s.heap.IsTuple l its)
    (h : ∀ h', IsEnum h' (s.heap.objs.size + 1) s.heap.objs.size 0 .none → h'.IsTupleIter s.heap.objs.size l 0 → h'.objs.size = s.heap.objs.size + 2 →
      (∀ b o, s.heap.get? b = some o → h'.get? b = some o) → Q (.ref (s.heap.objs.size + 1)) { s with heap := h' }) :
    wpAny (model P w) A (call (.type "enumerate") [.ref l]) Q E s := by
  obtain ⟨⟨c, dd, dt, sl⟩, hl, hc, n, hd⟩ := hT
  simp only at hc hd
  subst hc hd
  refine callType_new F.called_enumerate (by decide) (F.typeCall_enumerate_1 _) (F.newCall_enumerate_1 _) (fun ob => F.args_object_init_2 ob _)
    F.entry_enumerate_new (enT_new l its n dd sl) ⟨hl, ?_⟩
  have z1 : (s.heap.push { cls := .type "tuple_iterator", data := .fields #[.ref l, .int 0 0] }).objs.size = s.heap.objs.size + 1 := Heap.size_push ..
  show _ ∧ _
  rw [z1]
  have en := Heap.get?_push_size (s.heap.push { cls := .type "tuple_iterator", data := .fields #[.ref l, .int 0 0] })
    (o := { cls := .type "enumerate", data := .fields #[.none, .bool false, .ref s.heap.objs.size, rawInt 0, .none, .none] }) rfl
  rw [z1] at en
  exact ⟨⟨_, en, rfl⟩, h _ en ⟨_, Heap.get?_push_of_some _ (Heap.get?_push_size _ rfl), rfl, rfl⟩ (by rw [Heap.size_push, z1])
    fun b o x => Heap.get?_push_of_some _ (Heap.get?_push_of_some _ x)⟩
theorem enT_end {P : Program} {w : World} {A : Around} {E : Value → Shared → Prop} {s : Shared} {e it l : Addr} {i : Nat} {its : Array Value} {old : Value} {Q : Option Value → Shared → Prop} (hh : A.handled = none)
    (he : IsEnum s.heap e it i old) (hit : s.heap.IsTupleIter it l i) (hl : s.heap.IsTuple l its) (hx : its[i]? = none)
    (hQ : ∀ h', Heap.ExtBut it s.heap h' → Q none { s with heap := h' }) : wpAny (model P w) A (pyNext (.ref e)) Q E s := by
  have ty : s.TypeIs (.ref e) "enumerate" := ⟨_, he, rfl⟩
  unfold pyNext
  refine wpAny_bind (wpAny_attempt (wpAny_callSpecial?_slot (name := Str.ofString "__next__") ty F.slot_enumerate_next (wpAny_call_entry F.slot_enumerate_next ty
    F.entry_enumerate_next ?_ (F.args_enumerate_next_1 _))))
  show wpAny _ _ (field (.ref e) 2 >>= _) _ _ _
  refine wpAny_bind (wpAny_field he rfl (x := Value.ref it) rfl (wpAny_bind (wpAny_nextOf_tuple_end hh hit hl hx fun h' x eb hx' => ?_)))
  obtain ⟨o, ho, hc⟩ := hx'
  exact wpAny_bind (wpAny_isInstance (T := "StopIteration") (b := true) ⟨o, ho, hc⟩ isSubtype_stop (wpAny_pure (hQ _ eb)))
/-- the tuple at a, each item in a new pair with its place -/
def Itet (K : PySem.W.Frag) (a : Addr) : It :=
  ⟨fun i H => ∃ (xs : List V) (x : V), SqT K H a xs ∧ xs[i]? = some x,
    fun i H v H' => ∃ T x, v = .ref T ∧ H T = none ∧ H' = upd H T (.tup [.int (i : Nat), x]) ∧ ∀ xs, SqT K H a xs → xs[i]? = some x,
    fun i H => ∃ xs : List V, SqT K H a xs ∧ xs.length ≤ i⟩
theorem turn_enT {P : Program} {w : World} {K : PySem.W.Frag} {elts : List Expr} {kk : Nat} {tpos : Pos} (a e it : Addr) :
    Turn P w K (.Tuple elts kk tpos) (Itet K a) [e, it] e (fun i h => (∃ old, IsEnum h e it ((i : Nat) : Int) old) ∧ h.IsTupleIter it a i ∧ e ≠ it ∧ a ≠ it ∧ a ≠ e) where
  mem := by simp
  obj := fun i h st b hb => by
    obtain ⟨⟨old, he⟩, ⟨o, ho, hc, hd⟩, _⟩ := st
    have z : b = e ∨ b = it := by simpa using hb
    rcases z with rfl | rfl
    · exact ⟨_, he, fun v q => nomatch q⟩
    · exact ⟨o, ho, fun v q => by rw [hd] at q; cases q⟩
  keep := fun i h h' st k => by
    obtain ⟨⟨old, he⟩, hi, r⟩ := st
    exact ⟨⟨old, k e (by simp) _ he⟩, hi.at fun o q => k it (by simp) o q, r⟩
  item := by
    intro X hP hw hK hc i pins s σ H E I hf st hg
    subst hP hw hK
    obtain ⟨⟨old, he⟩, hit, hne, hai, hae⟩ := st
    obtain ⟨xs, x, hq, hx⟩ := hg
    obtain ⟨its, rv, p, hz⟩ := I.tuple hq
    obtain ⟨u, hu, ru⟩ := rv.get hx
    have hel : e < s.heap.objs.size := Heap.lt_size he
    have hil : it < s.heap.objs.size := by obtain ⟨_, q, _⟩ := hit; exact Heap.lt_size q
    have hlt : i < its.toArray.size := by
      have := (List.getElem?_eq_some_iff.mp hu).1
      simpa using this
    refine wpAny_pyNext_enum_itemD (Draws.tuple (A := X.A.in1) (I.ok.hd hc) it a hai its.toArray) he ⟨hit, p⟩ hlt hne (by simp [hne, Ne.symm hae]) fun y h' tk hy ho hst hT hsz hk => ?_
    have ey : y = u := by
      have : its.toArray[i]? = some u := by simpa using hu
      rw [this] at hy; exact (Option.some.inj hy).symm
    subst ey
    refine ⟨_, rfl, wpAny_letOwnedTupleGo_enum (s := { s with heap := h', toks := tk + 1 }) ho fun h'' he' sb => ?_⟩
    have hT2 := (sb.2 _ (Nat.ne_of_gt hel)).trans hT
    have new : ObjOk X.prog X.w (upd H s.heap.objs.size (.tup [.int (i : Nat), x])) h'' s.heap.objs.size (.tup [.int (i : Nat), x]) :=
      ⟨by show 2 ≤ sizeLine; decide, [.int i tk, y], .cons ⟨_, rfl⟩ (.cons ru .nil), ⟨_, hT2, rfl, _, rfl⟩⟩
    have hch : ∀ b, b ∉ [e, it] → b ≠ e ∧ b ≠ it := fun b hb => ⟨fun z => hb (by simp [z]), fun z => hb (by simp [z])⟩
    have I1 : Inv X pins σ (upd H s.heap.objs.size (.tup [.int (i : Nat), x])) { s with heap := h'', toks := tk + 1 } :=
      I.turnedNew (ch := [e, it]) (fun b ob hb q => (sb.2 b (hch b hb).1).trans (hk b ob (hch b hb).1 (hch b hb).2 q)) hf (Nat.le_refl _) new
    refine ⟨.ref s.heap.objs.size, _, I1, rfl, ⟨_, x, rfl, I.hok.fresh (Nat.le_refl _), rfl, fun ys hy => ?_⟩, ⟨⟨y, ?_⟩, ?_, hne, hai, hae⟩, fun b hb => ?_⟩
    · rw [I.tuple_inj hy hq]; exact hx
    · have e1 : ((i + 1 : Nat) : Int) = (i : Int) + 1 := by omega
      rw [e1]; exact he'
    · exact hst.1.at fun o q => (sb.2 it (Ne.symm hne)).trans q
    · have hb' : b < s.heap.objs.size := by
        have z : b = e ∨ b = it := by simpa using hb
        rcases z with rfl | rfl
        · exact hel
        · exact hil
      rw [upd_ne (Nat.ne_of_lt hb')]
      exact (hf b hb).1
  done := by
    intro X hP hw hK hc i pins s σ H E I hf st hg
    subst hP hw hK
    obtain ⟨⟨old, he⟩, hit, hne, hai, hae⟩ := st
    obtain ⟨xs, hq, hx⟩ := hg
    obtain ⟨its, rv, p, hz⟩ := I.tuple hq
    obtain ⟨f0, f1, f2, f3, f4, f5⟩ := hf it (by simp)
    have hl := rv.length
    exact enT_end (I.ok.hd hc) he hit p (by simp; omega) fun h' eb => ⟨rfl, I.turned (t' := s.toks) (fun b o hb q => eb b o hb q) f0 f1 f3 f4 f5⟩
  self := fun A i s Q E st h => by
    obtain ⟨⟨_, he⟩, _⟩ := st
    exact wpAny_pyIter_enum he h
theorem one_ref {a : Addr} {us : List Value} (r : Vals [V.ref a] us) : ∃ u, u = Value.ref a ∧ us = [u] := by
  cases r with
  | cons h t => cases t; exact ⟨_, h, rfl⟩
def iEnumT (K : PySem.W.Frag) (ta : TA) : TI := fun σ H R => ta σ H fun vs H1 => ∃ a xs, vs = [.ref a] ∧ SqT K H1 a xs ∧ R (Itet K a) H1
theorem pi_enT {X : Cx} {e : Expr} {ta : TA} {p pos tpos : Pos} {elts : List Expr} {kk : Nat} (hg : Gl X "enumerate") (hm : X.mg "enumerate" = none) (ha : PA X [e] ta) (hs : starEach [e] X.env = [(false, eval e X.env)] := by rfl) :
    PI X (.Tuple elts kk tpos) (.Call (.Name "enumerate" p) [e] [] pos) (iEnumT X.K ta) := by
  refine ⟨fun pins s σ H R I h => Call_ (ld_blt I hg hm boot_enumerate (PyProof.Rows.callWith_type1 (thn (ha.run pos pins s σ H _ I h) fun us s1 ⟨vs, H1, I1, r1, q1⟩ => ?_) hs rfl))⟩
  obtain ⟨a, xs, ex, hq, q⟩ := q1
  subst ex
  obtain ⟨u, ru, hu⟩ := one_ref r1
  subst hu
  obtain rfl := ru
  obtain ⟨its, rv, tp, hz⟩ := I1.tuple hq
  refine call_enT tp ?_
  intro h' he hit hsz hk
  refine wpAny_pyIter_enum he ?_
  have hal : a < s1.heap.objs.size := by obtain ⟨o, q, _⟩ := tp; exact Heap.lt_size q
  refine ⟨s1.heap.objs.size + 1, [s1.heap.objs.size + 1, s1.heap.objs.size], _, _, H1, rfl, I1.kept (t' := s1.toks) hk, turn_enT a (s1.heap.objs.size + 1) s1.heap.objs.size, ⟨⟨.none, he⟩, hit, Nat.succ_ne_self _, Nat.ne_of_lt hal, Nat.ne_of_lt (Nat.lt_succ_of_lt hal)⟩, fun b hb => ?_, q⟩
  have hle : s1.heap.objs.size ≤ b := by
    have z : b = s1.heap.objs.size + 1 ∨ b = s1.heap.objs.size := by simpa using hb
    rcases z with rfl | rfl
    · exact Nat.le_succ _
    · exact Nat.le_refl _
  exact I1.fpOk hle (I1.hok.fresh hle)
section
variable {X : Cx} {c : Ct} {E : XK} {a : Expr} {ml : EM (List D)} {p pos : Pos}
def iEnT (ml : EM (List D)) : EM (List D) := bindE ml fun ds => liftO (match ds with | [.tup xs] => some (enumL 0 xs) | _ => none)
theorem i_enT {elts : List Expr} {kk : Nat} {tpos : Pos} (hg : Gl X "enumerate") (hm : X.mg "enumerate" = none) (ha : PA X [a] (pTA c E ml)) (hn : Many 1 ml) (hs : starEach [a] X.env = [(false, eval a X.env)] := by rfl) : PI X (.Tuple elts kk tpos) (.Call (.Name "enumerate" p) [a] [] pos) (pTI c E (iEnT ml)) :=
  (pi_enT hg hm ha hs).imp fun σ H R ⟨F, ρ, ps, S, h⟩ => args_n hn S h fun ds vs F1 ρ1 ps1 H1 hl s1 S1 r1 h1 => by
    obtain ⟨zs, ez, h4⟩ := post_some h1
    match ds, hl with
    | [d], _ =>
      obtain ⟨v, rfl, rv⟩ := rep1 r1
      cases d with
      | tup xs =>
        cases ez
        obtain ⟨a, vs, rfl, f, l⟩ := rv
        refine ⟨a, vs, rfl, SqT.of (S1.sub _ _ f), post_ok (R := RI c) S1 h4 (fun h _ i F' H' ρ' ps' σ' sb S' => ?_)⟩
        have q : SqT X.K H' a vs := SqT.of (S'.sub _ _ (sb _ _ f))
        refine ⟨fun d e => ?_, fun hl => ⟨vs, q, by rw [enum_len, l.length] at hl; exact hl⟩⟩
        rw [enum_get] at e
        cases ex : xs[i]? with
        | none => rw [ex] at e; cases e
        | some d' =>
          rw [ex] at e
          cases e
          obtain ⟨v, ev, rv⟩ := l.get ex
          refine ⟨⟨vs, v, q, ev⟩, fun x H'' ⟨T, y1, e1, n, e2, e3⟩ => ?_⟩
          subst e1 e2
          have := e3 vs q
          rw [ev] at this; cases this
          rw [Nat.zero_add]
          exact pair_new S' n rfl (rv.mono sb)
      | _ => cases ez
end
end PL

set_option maxHeartbeats 4000000
/-! ## a view of owned lists beside an own thing that has no fields yet -/
namespace PL
open PySem L2
def oi0 (cn : Str) (ρ : En) : Bool := match ρ with
  | .oi c [] [] :: _ => decide (c = cn)
  | _ => false
theorem oi0_at {cn : Str} {ρ : En} (h : oi0 cn ρ = true) : ρ[0]? = some (.oi cn [] []) := by
  unfold oi0 at h
  split at h
  · rename_i c r; rw [of_decide_eq_true h]; rfl
  · cases h
/-- an expression that looks at the owned lists (all of them at is) beside the own thing at 0 -/
def eViewI (cn : Str) (is : List Nat) (m : EM D) : EM D := fun ρ ps => if (oi0 cn (frzL is ρ) && (frzL is ρ).tail.all (fun s => !isOwn s)) = true then
    match m (frzL is ρ) ps with
    | .ok d ρ1 ps' => if (oi0 cn ρ1 && flatC d) = true then .ok d ρ ps' else .stuck
    | _ => .stuck
  else .stuck
section
variable {X : Cx} {c : Ct} {E : XK} {e : Expr} {me : EM D}
theorem SR.unviewI {F F0 F1 H H1 : Hp} {ρ ρ1 : En} {ps ps1 : Pn} {σ : St} {is : List Nat} {cn : Str} (S : SR c F H ρ ps σ) (h0 : (PL.frzL is ρ)[0]? = some (.oi cn [] [])) (hn : (PL.frzL is ρ).tail.all (fun s => !isOwn s) = true) (s0 : Sub F F0) (S0 : SR c F0 H (PL.frzL is ρ) ps σ) (s1 : Sub F0 F1) (S1 : SR c F1 H1 ρ1 ps1 σ) (hr : ρ1[0]? = some (.oi cn [] [])) : SR c F H1 ρ ps1 σ := by
  have no : ∀ j sl, j ≠ 0 → (PL.frzL is ρ)[j]? = some sl → isOwn sl = false := fun j sl hj e => by
    cases j with
    | zero => exact absurd rfl hj
    | succ j =>
      have e' : (PL.frzL is ρ).tail[j]? = some sl := by rw [← e, List.getElem?_tail]
      have := List.all_eq_true.mp hn sl (List.mem_of_getElem? e')
      simpa using this
  refine ⟨(s0.trans s1).trans S1.sub, S1.keep, S.grow, S.base, S.len, fun j sl e => ?_, S.sep, ?_⟩
  · obtain ⟨o, e1, r⟩ := S.slot j sl e
    refine ⟨o, e1, ?_⟩
    cases sl with
    | un => trivial
    | v d => exact r
    | ol xs =>
      obtain ⟨q, vs, e2, e3, l, w⟩ := r
      rcases frzL_get (is := is) e with z | z
      · have hj : j ≠ 0 := fun y => by subst y; rw [h0] at z; cases z
        cases no j _ hj z
      · obtain ⟨o', e1', v', e4, q', vs', e5, e6, _⟩ := S0.slot j _ z
        have : q' = q := by rw [e1] at e1'; cases e1'; rw [e2] at e4; cases e4; exact (V.ref.inj e5).symm
        subst this
        have : vs' = vs := by have := S0.sub _ _ e6; rw [e3] at this; cases this; rfl
        subst this
        exact ⟨q', vs', e2, S1.sub _ _ (s1 _ _ e6), l, w⟩
    | od ks xs =>
      have z := frzL_od (is := is) e
      have hj : j ≠ 0 := fun y => by subst y; rw [h0] at z; cases z
      cases no j _ hj z
    | oi c' ns xs =>
      have z := frzL_oi (is := is) e
      by_cases hj : j = 0
      · subst hj
        rw [h0] at z
        cases z
        obtain ⟨p, dx, fs, e2, e3, e4, ⟨e5, e5'⟩, e6, w⟩ := r
        obtain ⟨o', e1', p', dx', fs', e2', e3', e4', ⟨e7, e7'⟩, e6', w'⟩ := S1.slot 0 _ hr
        have ep : p' = p := by rw [e1] at e1'; cases e1'; rw [e2] at e2'; cases e2'; rfl
        subst ep
        have ed : dx' = dx := by rw [e5'] at e7'; cases e7'; rfl
        subst ed
        have ef : fs' = [] := by cases fs' with | nil => rfl | cons a b => cases e7
        subst ef
        exact ⟨p', dx', [], e2, e3', e4', ⟨rfl, e5'⟩, RepL.nil, w⟩
      · cases no j _ hj z
  · have h1 := S1.pen
    have h0 := S.pen
    unfold PenR at h0 h1 ⊢
    cases hp : c.pa with
    | none => trivial
    | some q =>
      obtain ⟨q, ca⟩ := q
      rw [hp] at h0 h1
      obtain ⟨a1, a2, a3⟩ := h0
      obtain ⟨b1, b2, b3⟩ := h1
      have z := (s0.trans s1) _ _ a2
      refine ⟨b1, ?_, a3⟩
      rw [z] at b2
      rw [a2]
      exact b2
theorem g_viewI {cn : Str} {is : List Nat} (h : PE X e (pT c E me)) : PE X e (pT c E (eViewI cn is me)) := h.imp fun σ H Q ⟨F, ρ, ps, S, h⟩ => by
  unfold eViewI at h
  by_cases hn : (oi0 cn (PL.frzL is ρ) && (PL.frzL is ρ).tail.all (fun s => !isOwn s)) = true
  case neg => rw [if_neg hn] at h; exact h.elim
  rw [if_pos hn] at h
  obtain ⟨n1, n2⟩ := Bool.and_eq_true_iff.mp hn
  obtain ⟨F0, s0, S0⟩ := SR.frzL is S
  refine ⟨F0, _, ps, S0, ?_⟩
  cases em : me (PL.frzL is ρ) ps with
  | stuck => rw [em] at h; exact h
  | ex x ρ1 ps1 => rw [em] at h; exact h.elim
  | ok d ρ1 ps1 =>
    rw [em] at h
    dsimp only at h
    by_cases hf : (oi0 cn ρ1 && flatC d) = true
    case neg => rw [if_neg hf] at h; exact h.elim
    rw [if_pos hf] at h
    obtain ⟨f1, f2⟩ := Bool.and_eq_true_iff.mp hf
    exact fun v F1 H1 s1 S1 r => h v F H1 (Sub.refl F) (S.unviewI (oi0_at n1) n2 s0 S0 s1 S1 (oi0_at f1)) (rep_flatC f2 r)
end
end PL

set_option maxHeartbeats 2000000
namespace PL
open PySem L2 PySem.Spec PyProof.Rows
/-! ### a fresh list of flat things, made while owned lists are looked at -/
def fView (is : List Nat) (m : EM (List D)) : EM (List D) := fun ρ ps => if (frzL is ρ).all (fun s => !isOwn s) = true then
    match m (frzL is ρ) ps with
    | .ok xs _ ps' => if xs.all flatC = true then .ok xs ρ ps' else .stuck
    | _ => .stuck
  else .stuck
section
variable {X : Cx} {c : Ct} {E : XK} {e : Expr} {mf : EM (List D)}
theorem repL_flatC {T : Tab} {pa : Pa} {F F' : Hp} : ∀ {ds : List D} {vs : List V}, ds.all flatC = true → RepL T pa F ds vs → RepL T pa F' ds vs
  | [], _, _, r => r
  | d :: ds, _, h, ⟨v, vr, e, r1, r2⟩ => by
    rw [List.all_cons, Bool.and_eq_true] at h
    exact ⟨v, vr, e, rep_flatC h.1 r1, repL_flatC h.2 r2⟩
theorem f_view {is : List Nat} (h : PE X e (pTF c E mf)) : PE X e (pTF c E (fView is mf)) := h.imp fun σ H Q ⟨F, ρ, ps, S, h⟩ => by
  unfold fView at h
  by_cases hn : (PL.frzL is ρ).all (fun s => !isOwn s) = true
  case neg => rw [if_neg hn] at h; exact h.elim
  rw [if_pos hn] at h
  obtain ⟨F0, s0, S0⟩ := SR.frzL is S
  refine ⟨F0, _, ps, S0, ?_⟩
  cases em : mf (PL.frzL is ρ) ps with
  | stuck => rw [em] at h; exact h
  | ex x ρ1 ps1 => rw [em] at h; exact h.elim
  | ok xs ρ1 ps1 =>
    rw [em] at h
    dsimp only at h
    by_cases hf : xs.all flatC = true
    case neg => rw [if_neg hf] at h; exact h.elim
    rw [if_pos hf] at h
    refine fun v F1 H1 s1 S1 r => h v F H1 (Sub.refl F) (S.unview hn s0 S0 s1 S1) ?_
    obtain ⟨p, vs, rfl, eH, rl, w, no⟩ := r
    refine ⟨p, vs, rfl, eH, repL_flatC hf rl, ⟨?_, w.n0, w.np⟩, fun i o => ?_⟩
    · cases z : F p with
      | none => rfl
      | some o => have := (s0.trans s1) _ _ z; rw [w.nf] at this; cases this
    · obtain ⟨s, e1, e2, e3⟩ := o
      have nno : ∀ j sl, (PL.frzL is ρ)[j]? = some sl → isOwn sl = false := fun j sl e => by
        have := List.all_eq_true.mp hn sl (List.mem_of_getElem? e)
        simpa using this
      cases s with
      | un => cases e2
      | v d => cases e2
      | ol ys =>
        rcases frzL_get (is := is) e1 with z | z
        · cases nno i _ z
        · obtain ⟨o', e1', v', e4, q', vs', e5, e6, _⟩ := S0.slot i _ z
          rw [e3] at e1'
          cases e1'
          cases e4
          cases e5
          have := s1 _ _ e6
          rw [w.nf] at this; cases this
      | od ks ys => cases nno i _ (frzL_od (is := is) e1)
      | oi cn ns ys => cases nno i _ (frzL_oi (is := is) e1)
end
end PL

set_option maxHeartbeats 4000000
/-! ### a, b, c = x, y, z -/
namespace PL
open PySem L2 PySem.Spec PyProof.Rows
abbrev Ct.h0 (c : Ct) (h : Hp) : Ct := { c with H0 := h }
theorem rit_wk {c : Ct} {F H : Hp} {ρ : En} {σ : St} {p : Addr} {o : HO} {w : Itm} {z : V} (r2 : RIt (c.and p o) F H ρ σ w z) (n0 : c.H0 p = none) : RIt c F H ρ σ w z ∧ (isOwn w.slot = true → .ref p ≠ z) := by
  cases w with
  | v d => exact ⟨r2, fun z => by cases z⟩
  | o es =>
    obtain ⟨p', us, ez, e3, rl3, w3, no3⟩ := r2
    have n1 : upd c.H0 p o p' = none := w3.n0
    have hne : p' ≠ p := fun ep => by rw [ep, upd_same] at n1; cases n1
    refine ⟨⟨p', us, ez, e3, rl3, ⟨w3.nf, by rw [upd_ne hne] at n1; exact n1, w3.np⟩, no3⟩, fun _ e => ?_⟩
    rw [ez] at e; cases e; exact hne rfl
  | nd =>
    obtain ⟨p', ez, e3, w3, no3⟩ := r2
    have n1 : upd c.H0 p o p' = none := w3.n0
    have hne : p' ≠ p := fun ep => by rw [ep, upd_same] at n1; cases n1
    refine ⟨⟨p', ez, e3, ⟨w3.nf, by rw [upd_ne hne] at n1; exact n1, w3.np⟩, no3⟩, fun _ e => ?_⟩
    rw [ez] at e; cases e; exact hne rfl
/-- a fresh thing is kept while others are made -/
theorem par_keep {c : Ct} {F1 H1 : Hp} {ρ1 : En} {ps1 : Pn} {σ : St} {u : Itm} {v : V} (S1 : SR c F1 H1 ρ1 ps1 σ) (r1 : RIt c F1 H1 ρ1 σ u v) :
    ∃ h0 : Hp, SR (c.h0 h0) F1 H1 ρ1 ps1 σ ∧ (∀ F' H' ρ' ps', SR (c.h0 h0) F' H' ρ' ps' σ → SR c F' H' ρ' ps' σ) ∧
      (∀ F' H' ρ' ps', Sub F1 F' → SR (c.h0 h0) F' H' ρ' ps' σ → RIt c F' H' ρ' σ u v) ∧ ∀ F' H' ρ' w z, RIt (c.h0 h0) F' H' ρ' σ w z → RIt c F' H' ρ' σ w z ∧ (isOwn u.slot = true → isOwn w.slot = true → v ≠ z) := by
  have nbOf : ∀ p, Own c F1 p → c.F0 p = none := fun p w => by
    cases q : c.F0 p with
    | none => rfl
    | some u => have := S1.base _ _ q; rw [w.nf] at this; cases this
  cases u with
  | v d => exact ⟨c.H0, S1, fun _ _ _ _ S => S, fun F' H' ρ' ps' s S' => Rep.mono s r1, fun F' H' ρ' w z r => ⟨r, fun o => by cases o⟩⟩
  | o ds =>
    obtain ⟨p, vs, rfl, e1, rl, w0, no⟩ := r1
    refine ⟨upd c.H0 p (.lst vs), S1.and e1 w0 no, fun F' H' ρ' ps' S' => (SR.un w0.n0 w0.np S').1, fun F' H' ρ' ps' s S' => ?_, fun F' H' ρ' w z r => ?_⟩
    · obtain ⟨S2c, e2, f2, no2⟩ := SR.un w0.n0 w0.np S'
      exact ⟨p, vs, rfl, e2, rl.mono s, ⟨f2.trans (nbOf p w0), w0.n0, w0.np⟩, no2⟩
    · obtain ⟨a, b⟩ := rit_wk (c := c) (p := p) (o := .lst vs) r w0.n0
      exact ⟨a, fun _ => b⟩
  | nd =>
    obtain ⟨p, rfl, e1, w0, no⟩ := r1
    refine ⟨upd c.H0 p (.dK []), S1.and e1 w0 no, fun F' H' ρ' ps' S' => (SR.un w0.n0 w0.np S').1, fun F' H' ρ' ps' s S' => ?_, fun F' H' ρ' w z r => ?_⟩
    · obtain ⟨S2c, e2, f2, no2⟩ := SR.un w0.n0 w0.np S'
      exact ⟨p, rfl, e2, ⟨f2.trans (nbOf p w0), w0.n0, w0.np⟩, no2⟩
    · obtain ⟨a, b⟩ := rit_wk (c := c) (p := p) (o := .dK []) r w0.n0
      exact ⟨a, fun _ => b⟩
def sPar3 (i j k : Nat) (ma mb mc : EM Itm) : SM := sBind ma fun x => sBind mb fun y => sBind mc fun z ρ ps => if i < ρ.length ∧ j < ρ.length ∧ k < ρ.length then .nx (((ρ.set i x.slot).set j y.slot).set k z.slot) ps else .stuck
section
variable {X : Cx} {c : Ct} {E : XK} {pos : Pos}
theorem s_par3 {i j k : Nat} {x y z : Str} {a b d : Expr} {ma mb mc : EM Itm} {px py pz pt : Pos} {kt k2 pt2} (hc : X.calm = true) (hN : X.N.Nodup) (hi : X.N[i]? = some x) (hj : X.N[j]? = some y) (hk : X.N[k]? = some z) (hij : i ≠ j) (hik : i ≠ k) (hjk : j ≠ k)
    (hx : X.env.scope.names.lookup x = some .local) (hy : X.env.scope.names.lookup y = some .local) (hz : X.env.scope.names.lookup z = some .local) (ha : PE X a (pTi c E ma)) (hb : ∀ h : Hp, PE X b (pTi (c.h0 h) E mb)) (hd : ∀ h : Hp, PE X d (pTi (c.h0 h) E mc))
    (hw : swappedStores [.Tuple [.Name x px, .Name y py, .Name z pz] kt pt] (.Tuple [a, b, d] k2 pt2) X.env = pure (some [x, y, z]))
    (hs : swapsWithSole [.Tuple [.Name x px, .Name y py, .Name z pz] kt pt] (.Tuple [a, b, d] k2 pt2) pos.line X.env = pure false := by rfl)
    (h1 : starEach [a, b, d] X.env = (false, eval a X.env) :: starEach [b, d] X.env := by rfl) (h2 : starEach [b, d] X.env = (false, eval b X.env) :: starEach [d] X.env := by rfl) (h3 : starEach [d] X.env = (false, eval d X.env) :: starEach [] X.env := by rfl) :
    PS X (.Assign [.Tuple [.Name x px, .Name y py, .Name z pz] kt pt] (.Tuple [a, b, d] k2 pt2) pos) (sT c E (sPar3 i j k ma mb mc)) := by
  let tb : TE := fun σ H Q => ∃ h : Hp, pTi (c.h0 h) E mb σ H Q
  let td : TE := fun σ H Q => ∃ h : Hp, pTi (c.h0 h) E mc σ H Q
  have hB : PE X b tb := ⟨fun pins s σ H Q I ⟨h, q⟩ => (hb h).run pins s σ H Q I q⟩
  have hD : PE X d td := ⟨fun pins s σ H Q I ⟨h, q⟩ => (hd h).run pins s σ H Q I q⟩
  refine (ps_par3 hc hN hi hj hk hij hik hjk hx hy hz (pa_cons ha (pa_cons hB (pa_cons hD pa_nil h3) h2) h1) hw hs).imp fun D σ H ⟨F, ρ, ps, S, h⟩ => ?_
  refine spost_bind S h fun u v F1 ρ1 ps1 H1 s1 S1 r1 g1 => ?_
  obtain ⟨h0, S1', un1, kp1, wk1⟩ := par_keep S1 r1
  refine ⟨h0, spost_bind_un (c := c) (c' := c.h0 h0) (R' := RIt (c.h0 h0)) rfl rfl un1 S1' g1 fun w y2 F2 ρ2 ps2 H2 s2 S2 r2 g2 => ?_⟩
  obtain ⟨h0', S2', un2, kp2, wk2⟩ := par_keep S2 r2
  refine ⟨h0', spost_bind_un (c := c) (c' := c.h0 h0') (R' := RIt (c.h0 h0')) rfl rfl (fun F' H' ρ' ps' S' => un1 _ _ _ _ (un2 _ _ _ _ S')) S2' g2 fun w3 y3 F3 ρ3 ps3 H3 s3 S3 r3 g3 => ?_⟩
  have S3b := un2 _ _ _ _ S3
  have S3c := un1 _ _ _ _ S3b
  have r3b := wk2 _ _ _ _ _ r3
  have r3c := wk1 _ _ _ _ _ r3b.1
  have r2b := kp2 _ _ _ _ s3 S3
  have r2c := wk1 _ _ _ _ _ r2b
  have r1c := kp1 _ _ _ _ (s2.trans s3) S3b
  refine ⟨v, y2, y3, rfl, ?_⟩
  by_cases hl : i < ρ3.length ∧ j < ρ3.length ∧ k < ρ3.length
  · simp only [hl, if_true, and_self] at g3
    obtain ⟨a1, a2⟩ := itm_slot r1c
    obtain ⟨b1, b2⟩ := itm_slot r2c.1
    obtain ⟨d1, d2⟩ := itm_slot r3c.1
    have S4 := S3c.set hl.1 a1 fun o p ep k => a2 o k p (Option.some.inj ep)
    have S5 := S4.set (i := j) (by rw [List.length_set]; exact hl.2.1) b1 fun o p ep k hk => by
      have ez : y2 = .ref p := Option.some.inj ep
      rcases owns_set hk S3c.len with ⟨rfl, c1, c2⟩ | ⟨_, c1⟩
      · exact r2c.2 c1 o ((Option.some.inj c2).trans ez.symm)
      · exact b2 o k p ez c1
    have S6 := S5.set (i := k) (by rw [List.length_set, List.length_set]; exact hl.2.2) d1 fun o p ep k hk => by
      have ez : y3 = .ref p := Option.some.inj ep
      rcases owns_set hk S4.len with ⟨rfl, c1, c2⟩ | ⟨_, c1⟩
      · exact r3b.2 c1 o ((Option.some.inj c2).trans ez.symm)
      · rcases owns_set c1 S3c.len with ⟨rfl, c3, c4⟩ | ⟨_, c3⟩
        · exact r3c.2 c3 o ((Option.some.inj c4).trans ez.symm)
        · exact d2 o k p ez c3
    exact g3 F3 H3 _ (Sub.refl F3) S6
  · simp only [hl, if_false] at g3
    exact g3.elim
end
end PL

set_option maxHeartbeats 2000000
namespace PL
open PySem L2 PySem.Spec PyProof.Rows
/-! ### slices of texts -/
def slSD (lo hi : Option Int) : D → Option D
  | .str z => if z.length ≤ sizeLine then some (.str (cutS z lo hi)) else none
  | _ => none
def eSlS (m : EM D) (lo hi : EM (Option Int)) : EM D := bindE m fun x => bindE lo fun l => bindE hi fun u => liftO (slSD l u x)
section
variable {X : Cx} {c : Ct} {E : XK} {e : Expr} {me : EM D} {p2 pos : Pos}
theorem g_slS {lo hi : Option Expr} {ml mh : EM (Option Int)} (he : PE X e (pT c E me)) (hl : PO X lo (pTO c E ml)) (hh : PO X hi (pTO c E mh)) : PE X (.Subscript e (.Slice lo hi none p2) pos) (pT c E (eSlS me ml mh)) :=
  (pe_slice sl_str he hl hh).imp fun σ H Q ⟨F, ρ, ps, S, h⟩ => post_bind S h fun d1 v1 F1 ρ1 ps1 H1 s1 S1 r1 h1 => post_bind S1 h1 fun l l' F2 ρ2 ps2 H2 s2 S2 r2 h2 => post_bind S2 h2 fun u u' F3 ρ3 ps3 H3 s3 S3 r3 h3 => by
    cases r2; cases r3
    obtain ⟨d, e, h4⟩ := post_some h3
    cases d1 <;> first
      | (cases (show none = some d from e); done)
      | skip
    rename_i z
    unfold slSD at e
    dsimp only at e
    by_cases hz : z.length ≤ sizeLine
    · rw [if_pos hz] at e
      cases e
      cases r1
      exact ⟨z, rfl, hz, post_ok (R := RD c) S3 h4 rfl⟩
    · rw [if_neg hz] at e; cases e
end
end PL

set_option maxHeartbeats 4000000
namespace HNe
open PySem PySem.Spec PyProof.Rows PySem.SeqAt
section
variable {M : Model} {prog : Program} {w : World} {A : Around} {E : Value → Shared → Prop} {s : Shared} {K : PySem.W.Frag} {x C f : Addr} {ox : Obj} {od : Option Obj} {b tb : Value}
theorem ifBound_objNe {args : List Value} {Q : Option Value → Shared → Prop} (X : K.In s.heap) (I : PySem.W.InstAt s.heap x ox C od) (hs : PySem.W.findIn K (.ref C) "__ne__" = some (some (.builtin "object.__ne__")))
    (h : wpAny M A (call (.builtin "object.__ne__") (.ref x :: args)) (fun v => Q (some v)) E s) : wpAny M A (callSpecialIfBound? (.ref x) "__ne__" args) Q E s := by
  simp only [callSpecialIfBound?, bindSpecialIfBound?]
  refine wpAny_holding (wpAny_bind (wpAny_bind (wpAny_bind (I.type.here ((PySem.W.looks_findIn X hs).here ?_)))))
  refine wpAny_bind (wpAny_askSetting (wpAny_ite ?_))
  have fin : wpAny M A (call (.builtin "object.__ne__") ([.ref x] ++ args) >>= fun v => pure (some v)) Q E s := wpAny_bind (wpAny_mono h (fun v s' h' => wpAny_pure h') fun _ _ h' => h')
  split
  · exact wpAny_bind (wpAny_of_eq (F.cmp_object.ne.bind _) (wpAny_pure (by exact fin)))
  · exact wpAny_tryCatch (wpAny_bind (wpAny_of_eq (F.cmp_object.ne.bind _) (wpAny_pure (by exact fin))))
theorem entry_ne (hu : A.units < cLine) (X : K.In s.heap) (I : PySem.W.InstAt s.heap x ox C od) (hs : PySem.W.findIn K (.ref C) "__eq__" = some (some (.ref f))) (hf : PySem.W.isFn K (.ref f) = true) {Q : Fin → Shared → Prop}
    (h : wpAny (model prog w) A (call (.ref f) [.ref x, b]) (fun v s' => ∃ z, v = .bool z ∧ Q (.done (.ret (.bool (!z)))) s') E s) : wpAny (model prog w) A (Builtin.«object.__ne__» ⟨[.ref x, b], []⟩) Q E s := by
  unfold Builtin.«object.__ne__»
  repeat (first
    | with_reducible refine wpAny_cRoomFor hu ?_
    | (refine wpAny_bind (m := callSpecialIfBound? (.ref x) (Str.ofString "__eq__") [b])
        (PySem.W.ifBound_K X I hs hf (wpAny_mono h (fun r s' hr => by
          obtain ⟨z, rfl, hq⟩ := hr
          repeat (first | exact hq | exact wpAny_pure hq | exact wpAny_truthy_bool hq | (refine wpAny_bind (m := truthy (.bool _)) (wpAny_truthy_bool ?_)) | wp_step)) fun _ _ e => e)))
    | wp_step)
theorem ne_K {Q : Value → Shared → Prop} (hu : A.units + 1 < cLine) (X : K.In s.heap) (I : PySem.W.InstAt s.heap x ox C od) (hb : PySem.W.Looks (model prog w) s.heap (typeOf b) tb) (hn : PySem.W.notFirst K C tb = true)
    (hobj : PySem.W.mroIn K C (.type "object") = some true) (hne : PySem.W.findIn K (.ref C) "__ne__" = some (some (.builtin "object.__ne__"))) (hs : PySem.W.findIn K (.ref C) "__eq__" = some (some (.ref f))) (hf : PySem.W.isFn K (.ref f) = true)
    (h : wpAny (model prog w) A.in1 (call (.ref f) [.ref x, b]) (fun v s' => ∃ z, v = .bool z ∧ Q (.bool (!z)) s') E s) : wpAny (model prog w) A (richCompare .NotEq (.ref x) b) Q E s := by
  have one : wpAny (model prog w) A (tryCompare (.ref x) "__ne__" b) (fun r s' => ∃ v, r = some v ∧ Q v s') E s := by
    unfold tryCompare
    refine wpAny_bind (ifBound_objNe X I hne (wpAny_call (codeAny_call_builtin F.cmp_object.ne.plain F.cmpEntry_ne (PySem.W.check_slot F.cmpKind_ne F.cmpSplit_ne (I.type.andThen (PySem.W.looks_mroIn X hobj)) (F.cmpArgs_ne _ _)
      (entry_ne (A := A.in1) hu X I hs hf (wpAny_mono h (fun v s' hv => ?_) fun _ _ e => e))))))
    obtain ⟨z, rfl, hq⟩ := hv
    exact ⟨z, rfl, wpAny_pure ⟨_, rfl, hq⟩⟩
  unfold richCompare
  simp only [oneThing_ref]
  refine wpAny_holding (wpAny_bind (wpAny_cRoomFor (Nat.lt_of_succ_lt hu) ?_))
  refine wpAny_bind (I.type.here (wpAny_bind (hb.here ?_)))
  split
  · rename_i q
    have e : PySem.W.subIn K tb (.ref C) = some false := by
      rcases Bool.or_eq_true_iff.mp hn with e | e
      · rw [beq_iff_eq.mp e] at q; simp at q
      · exact beq_iff_eq.mp e
    refine wpAny_bind ((PySem.W.looks_subIn X e).here ?_)
    simp only [Bool.false_eq_true, if_false]
    refine wpAny_bind (wpAny_mono one (fun r s' z => ?_) fun _ _ e => e)
    obtain ⟨v, rfl, hq⟩ := z
    exact wpAny_pure hq
  · refine wpAny_bind (wpAny_pure ?_)
    simp only [Bool.false_eq_true, if_false]
    refine wpAny_bind (wpAny_mono one (fun r s' z => ?_) fun _ _ e => e)
    obtain ⟨v, rfl, hq⟩ := z
    exact wpAny_pure hq
theorem sub_tuple : PySem.W.subIn K (.type "tuple") (.ref C) = some false := by
  have e : fastBuiltinMro "tuple" = some [.type "tuple", .type "object"] := by decide +kernel
  show (fastBuiltinMro "tuple").map (·.contains (.ref C)) = some false
  rw [e]
  first
    | rfl
    | simp
end
end HNe
namespace PL
open PySem L2 PySem.Spec PyProof.Rows
/-- what != asks of a class besides its __eq__ -/
structure NeC (K : PySem.W.Frag) (C : Addr) : Prop where
  ob : PySem.W.mroIn K C (.type "object") = some true
  ne : PySem.W.findIn K (.ref C) "__ne__" = some (some (.builtin "object.__ne__"))
/-- what stands to the right: an instance of the class, a tuple -/
def eqR (cn : Str) : D → Bool
  | .ins c _ _ => c == cn
  | .tup _ => true
  | _ => false
def eqI (cn : Str) (f : FM) (neg : Bool) (x y : D) : EM D := match x with
  | .ins c _ _ => if c = cn ∧ eqR cn y = true then bindE (callE f [x, y]) fun d => match d with
    | .bl b => pureE (.bl (if neg = true then !b else b))
    | _ => stuckE
    else stuckE
  | _ => stuckE
def eEqI (cn : Str) (f : FM) (neg : Bool) (ma mb : EM D) : EM D := bindE ma fun x => bindE mb fun y => eqI cn f neg x y
section
variable {X : Cx} {c : Ct} {E : XK} {a b : Expr} {ma mb : EM D} {pos : Pos} {cn : Str} {fm : FM} {j k : Nat}
def OkY (C : Addr) (y : V) (H : Hp) : Prop := (∃ p dx fs, y = .ref p ∧ H p = some (.ins C dx fs)) ∨ ∃ p vs, y = .ref p ∧ H p = some (.tup vs)
def rEqI (C : Addr) (sp : Sp) (neg : Bool) (E : XK) : R2 := fun x y H Q => ∃ p dx fs, x = .ref p ∧ H p = some (.ins C dx fs) ∧ OkY C y H ∧ sp [x, y] H (fun z H' => ∃ b, z = .bl b ∧ Q (.bl (if neg = true then !b else b)) H') E
theorem okY_looks {pins : List (Addr × Obj)} {σ : L2.St} {H : Hp} {s : Shared} {C : Addr} {y : V} {u : Value} (I : Inv X pins σ H s) (ry : RelV y u) (h : OkY C y H) : ∃ tb, PySem.W.Looks (model X.prog X.w) s.heap (typeOf u) tb ∧ PySem.W.notFirst X.K C tb = true := by
  rcases h with ⟨p, dx, fs, rfl, e⟩ | ⟨p, vs, rfl, e⟩
  · obtain ⟨mA, O, _⟩ := ins_get I.hok e
    obtain ⟨od, J, _⟩ := O.look
    cases (show u = Value.ref p from ry)
    exact ⟨.ref C, J.type, by unfold PySem.W.notFirst; rw [beq_self_eq_true]; rfl⟩
  · obtain ⟨_, its, _, t⟩ := (show ObjOk X.prog X.w H s.heap p (.tup vs) from I.hok p _ e)
    cases (show u = Value.ref p from ry)
    refine ⟨.type "tuple", ?_, by unfold PySem.W.notFirst; rw [HNe.sub_tuple]; exact Bool.or_true _⟩
    obtain ⟨o, ho, hc, _⟩ := t
    exact hc ▸ (PySem.W.Looks.ld ho).andThen .now
theorem op_eqI {C g : Addr} {sp : Sp} {n : Nat} (m : Meth X.K C "__eq__" g) (F : FnR X.prog X.w X.K X.mg X.base (L2.CX X.prog X.w) n g sp) (hr : Room n X.A) (hx : Passes (L2.CX X.prog X.w) X E) : OpR X (compareOp .Eq) (rEqI C sp false E) := by
  intro pins s σ H x y v u Q I rx ry h
  obtain ⟨p, dx, fs, rfl, e, hy, q⟩ := h
  cases (show v = Value.ref p from rx)
  obtain ⟨mA, O, _⟩ := ins_get I.hok e
  obtain ⟨od, J, _⟩ := O.look
  obtain ⟨tb, hl, hn⟩ := okY_looks I ry hy
  obtain ⟨mm, hF⟩ := I.fr
  show wpAny _ _ (richCompare .Eq (.ref p) u) _ _ _
  refine PySem.W.cmp_K (op := .Eq) (tb := tb) hr.units0 hF I.ok.mod.kin J hl hn m.at_ m.fn ?_
  refine wpAny_mono (wpAny_call (run_fnR (us := [.ref p, u]) (vs := [.ref p, y]) F hr hx I (.cons rfl (.cons ry .nil)) q)) (fun w s' z => ?_) fun _ _ x => x
  obtain ⟨z', H', I', rz, bb, ez, qz⟩ := z
  subst ez
  obtain rfl : w = Value.bool bb := rz
  exact ⟨.bl bb, H', I', rfl, qz⟩
theorem op_neI {C g : Addr} {sp : Sp} {n : Nat} (nc : NeC X.K C) (m : Meth X.K C "__eq__" g) (F : FnR X.prog X.w X.K X.mg X.base (L2.CX X.prog X.w) n g sp) (hr : Room (n + 1) X.A) (hx : Passes (L2.CX X.prog X.w) X E) : OpR X (compareOp .NotEq) (rEqI C sp true E) := by
  intro pins s σ H x y v u Q I rx ry h
  obtain ⟨p, dx, fs, rfl, e, hy, q⟩ := h
  cases (show v = Value.ref p from rx)
  obtain ⟨mA, O, _⟩ := ins_get I.hok e
  obtain ⟨od, J, _⟩ := O.look
  obtain ⟨tb, hl, hn⟩ := okY_looks I ry hy
  have hu : X.A.units + 1 < cLine := by have := hr.units; omega
  show wpAny _ _ (richCompare .NotEq (.ref p) u) _ _ _
  refine HNe.ne_K (tb := tb) hu I.kIn J hl hn nc.ob nc.ne m.at_ m.fn ?_
  refine wpAny_mono (wpAny_call (SlX.run_at (us := [.ref p, u]) (ws := [.ref p, y]) F hr.in1 I.env0.in1 hx I (.cons rfl (.cons ry .nil)) q)) (fun w s' z => ?_) fun _ _ x => x
  obtain ⟨z', H', I', rz, bb, ez, qz⟩ := z
  subst ez
  obtain rfl : w = Value.bool bb := rz
  exact ⟨bb, rfl, .bl (!bb), H', I', rfl, qz⟩
theorem eqI_sp {neg : Bool} {F2 H2 : Hp} {ρ2 : En} {ps2 : Pn} {σ : L2.St} {d1 d2 : D} {v1 v2 : V} {Q : VK} (S2 : SR c F2 H2 ρ2 ps2 σ) (r1 : Rep c.T c.pa F2 d1 v1) (r2 : Rep c.T c.pa F2 d2 v2)
    (h2 : post c E (RD c) Q σ F2 (eqI cn fm neg d1 d2 ρ2 ps2)) : rEqI (c.T.cls cn) (spP c.T 2 fm) neg E v1 v2 H2 Q := by
  cases d1 with
  | ins c' ns xs =>
    unfold eqI at h2
    dsimp only at h2
    by_cases hc : c' = cn ∧ eqR cn d2 = true
    case neg => rw [if_neg hc] at h2; exact h2.elim
    rw [if_pos hc] at h2
    obtain ⟨hc, hy⟩ := hc
    subst hc
    have r1' := r1
    obtain ⟨p, dx, fs, rfl, f1, f2, en, l⟩ := r1
    refine ⟨p, dx, fs, rfl, S2.sub _ _ f1, ?_, ?_⟩
    · cases d2 with
      | ins c2 ns2 xs2 =>
        obtain ⟨p2, dx2, fs2, rfl, g1, _⟩ := r2
        have : c2 = c' := by simpa [eqR] using hy
        subst this
        exact .inl ⟨p2, dx2, fs2, rfl, S2.sub _ _ g1⟩
      | tup xs2 =>
        obtain ⟨p2, vs2, rfl, g1, _⟩ := r2
        exact .inr ⟨p2, vs2, rfl, S2.sub _ _ g1⟩
      | _ => cases hy
    · refine call_post (ρ := ρ2) (ps := ps2) (f := fm) (ds := [.ins c' ns xs, d2]) rfl S2 (RepL.cons r1' (RepL.one r2)) ?_
      unfold bindE at h2
      cases ec : callE fm [.ins c' ns xs, d2] ρ2 ps2 with
      | ok d ρ3 ps3 =>
        rw [ec] at h2
        cases d with
        | bl z =>
          intro v F' H' s S' r
          cases (show v = V.bl z from r)
          exact ⟨z, rfl, h2 _ F' H' s S' rfl⟩
        | _ => exact h2.elim
      | ex x ρ3 ps3 => rw [ec] at h2; exact h2
      | stuck => rw [ec] at h2; exact h2.elim
  | _ => exact h2.elim
theorem metR {n : Nat} {m : Str} (M : MetP X.prog X.w X.K X.mg X.base c.T k cn m n fm) : ∃ g, Meth X.K (c.T.cls cn) m g ∧ FnR X.prog X.w X.K X.mg X.base (L2.CX X.prog X.w) k g (spP c.T (n + 1) fm) := by
  obtain ⟨fa, fd, pp, Fn, hbind, cl, me⟩ := M.at_
  exact ⟨fa, me, (Fn.raw hbind .nil).imp fun vs H Q E h => by rw [List.append_nil]; exact h⟩
theorem g_eqI (M : MetP X.prog X.w X.K X.mg X.base c.T k cn "__eq__" 1 fm) (hr : Room j X.A) (hk : k ≤ j) (hx : Passes (L2.CX X.prog X.w) X E) (ha : PE X a (pT c E ma)) (hb : PE X b (pT c E mb)) (hm : behindInMarks .Eq b = false := by first | exact nobehind _ (by decide) (by decide) | rfl) :
    PE X (.Compare a [.Eq] [b] pos) (pT c E (eEqI cn fm false ma mb)) := by
  obtain ⟨g, me, F⟩ := metR M
  exact (pe_cmpR (op_eqI me F (hr.mono hk) hx) ha hb hm).imp fun σ H Q ⟨F, ρ, ps, S, h⟩ => post_bind S h fun d1 v1 F1 ρ1 ps1 H1 s1 S1 r1 h1 => post_bind S1 h1 fun d2 v2 F2 ρ2 ps2 H2 s2 S2 r2 h2 => eqI_sp S2 (Rep.mono s2 r1) r2 h2
theorem g_neI (N : NeC X.K (c.T.cls cn)) (M : MetP X.prog X.w X.K X.mg X.base c.T k cn "__eq__" 1 fm) (hr : Room j X.A) (hk : k + 1 ≤ j) (hx : Passes (L2.CX X.prog X.w) X E) (ha : PE X a (pT c E ma)) (hb : PE X b (pT c E mb)) (hm : behindInMarks .NotEq b = false := by first | exact nobehind _ (by decide) (by decide) | rfl) :
    PE X (.Compare a [.NotEq] [b] pos) (pT c E (eEqI cn fm true ma mb)) := by
  obtain ⟨g, me, F⟩ := metR M
  exact (pe_cmpR (op_neI N me F (hr.mono hk) hx) ha hb hm).imp fun σ H Q ⟨F, ρ, ps, S, h⟩ => post_bind S h fun d1 v1 F1 ρ1 ps1 H1 s1 S1 r1 h1 => post_bind S1 h1 fun d2 v2 F2 ρ2 ps2 H2 s2 S2 r2 h2 => eqI_sp S2 (Rep.mono s2 r1) r2 h2
theorem eqI_test {neg : Bool} {F2 : Hp} {ρ2 : En} {ps2 : Pn} {σ : L2.St} {d1 d2 : D} {Q : Bool → Hp → Prop} (h2 : post c E RB Q σ F2 (bindE (eqI cn fm neg d1 d2) (fun d => liftO (asB d)) ρ2 ps2)) : post c E (RD c) (fun z H' => ∃ k, z = .bl k ∧ Q k H') σ F2 (eqI cn fm neg d1 d2 ρ2 ps2) := by
  unfold bindE at h2
  cases ec : eqI cn fm neg d1 d2 ρ2 ps2 with
  | ok d ρ3 ps3 =>
    rw [ec] at h2
    cases d with
    | bl z =>
      intro v F' H' s S' r
      cases (show v = V.bl z from r)
      exact ⟨z, rfl, h2 z F' H' s S' rfl⟩
    | _ => exact h2.elim
  | ex x ρ3 ps3 => rw [ec] at h2; exact h2
  | stuck => rw [ec] at h2; exact h2.elim
theorem t_eqI (M : MetP X.prog X.w X.K X.mg X.base c.T k cn "__eq__" 1 fm) (hr : Room j X.A) (hk : k ≤ j) (hx : Passes (L2.CX X.prog X.w) X E) (ha : PE X a (pT c E ma)) (hb : PE X b (pT c E mb)) (hm : behindInMarks .Eq b = false := by first | exact nobehind _ (by decide) (by decide) | rfl) :
    PT X (.Compare a [.Eq] [b] pos) (pTT c E (eB (eEqI cn fm false ma mb))) := by
  obtain ⟨g, me, F⟩ := metR M
  refine (pt_cmpR (op_eqI me F (hr.mono hk) hx) ha hb hm).imp fun σ H Q ⟨F, ρ, ps, S, h⟩ => ?_
  unfold eB eEqI at h
  rw [bind_bind] at h
  refine post_bind S h fun d1 v1 F1 ρ1 ps1 H1 s1 S1 r1 h1 => ?_
  rw [bind_bind] at h1
  exact post_bind S1 h1 fun d2 v2 F2 ρ2 ps2 H2 s2 S2 r2 h2 => eqI_sp S2 (Rep.mono s2 r1) r2 (eqI_test h2)
theorem t_neI (N : NeC X.K (c.T.cls cn)) (M : MetP X.prog X.w X.K X.mg X.base c.T k cn "__eq__" 1 fm) (hr : Room j X.A) (hk : k + 1 ≤ j) (hx : Passes (L2.CX X.prog X.w) X E) (ha : PE X a (pT c E ma)) (hb : PE X b (pT c E mb)) (hm : behindInMarks .NotEq b = false := by first | exact nobehind _ (by decide) (by decide) | rfl) :
    PT X (.Compare a [.NotEq] [b] pos) (pTT c E (eB (eEqI cn fm true ma mb))) := by
  obtain ⟨g, me, F⟩ := metR M
  refine (pt_cmpR (op_neI N me F (hr.mono hk) hx) ha hb hm).imp fun σ H Q ⟨F, ρ, ps, S, h⟩ => ?_
  unfold eB eEqI at h
  rw [bind_bind] at h
  refine post_bind S h fun d1 v1 F1 ρ1 ps1 H1 s1 S1 r1 h1 => ?_
  rw [bind_bind] at h1
  exact post_bind S1 h1 fun d2 v2 F2 ρ2 ps2 H2 s2 S2 r2 h2 => eqI_sp S2 (Rep.mono s2 r1) r2 (eqI_test h2)
end
end PL

namespace PL
open PySem L2
/-! ### statements behind which frozen things may be gone -/
def upost (c : Ct) (E : XK) (D : Ends) (o : SOut) : Prop :=
  match o with
  | .nx ρ ps => ∀ F' H' σ', SR c F' H' ρ ps σ' → D.nx σ' H'
  | .rt d ps => ∀ v F' H' ρ' σ', SR c F' H' ρ' ps σ' → Rep c.T c.pa F' d v → D.rt v H'
  | .bk ρ ps => ∀ F' H' σ', SR c F' H' ρ ps σ' → D.bk σ' H'
  | .ct ρ ps => ∀ F' H' σ', SR c F' H' ρ ps σ' → D.ct σ' H'
  | .ex e ρ ps => ∀ cl dd F' H' σ', SR c F' H' ρ ps σ' → RepX c F' H' e cl dd → E cl dd H'
  | .stuck => False
def uT (c : Ct) (E : XK) (m : SM) : TS := fun D σ H => ∃ F ρ ps, SR c F H ρ ps σ ∧ upost c E D (m ρ ps)
theorem upost.sp {c : Ct} {E : XK} {D : Ends} {F : Hp} {o : SOut} (h : upost c E D o) : spost c E D F o := by
  cases o with
  | nx ρ ps => exact fun F' H' σ' _ S => h F' H' σ' S
  | rt d ps => exact fun v F' H' ρ' σ' _ S r => h v F' H' ρ' σ' S r
  | bk ρ ps => exact fun F' H' σ' _ S => h F' H' σ' S
  | ct ρ ps => exact fun F' H' σ' _ S => h F' H' σ' S
  | ex e ρ ps => exact fun cl dd F' H' σ' _ S r => h cl dd F' H' σ' S r
  | stuck => exact h
section
variable {X : Cx} {c : Ct} {E : XK} {α β : Type} {R' : RG α β}
theorem upost_bind {D : Ends} {m : EM α} {k : α → SM} {F H : Hp} {ρ : En} {ps : Pn} {σ : St} {Q' : β → Hp → Prop} (S : SR c F H ρ ps σ) (h : upost c E D (sBind m k ρ ps))
    (go : ∀ a b F1 ρ1 ps1 H1, Sub F F1 → SR c F1 H1 ρ1 ps1 σ → R' F1 H1 ρ1 σ a b → upost c E D (k a ρ1 ps1) → Q' b H1) : pG c E R' m σ H Q' := by
  refine ⟨F, ρ, ps, S, ?_⟩
  unfold sBind at h
  cases e : m ρ ps with
  | ok a ρ1 ps1 =>
    rw [e] at h
    exact fun b F1 H1 s S1 r => go a b F1 ρ1 ps1 H1 s S1 r h
  | ex x ρ1 ps1 => rw [e] at h; exact fun cl dd F' H' s S' r => h cl dd F' H' σ S' r
  | stuck => rw [e] at h; exact h
variable {st : Stmt} {sts : List Stmt} {a b : SM} {e : Expr} {t : EM Bool} {pos : Pos}
theorem u_up (h : PS X st (sT c E a)) : PS X st (uT c E a) := h.imp fun D σ H ⟨F, ρ, ps, S, h⟩ => ⟨F, ρ, ps, S, h.sp⟩
theorem u_nil : PSs X [] (uT c E sNil) := pss_nil.imp fun D σ H ⟨F, ρ, ps, S, h⟩ => h F H σ S
theorem u_cons (h1 : PS X st (uT c E a)) (h2 : PSs X sts (uT c E b)) : PSs X (st :: sts) (uT c E (sSeq a b)) :=
  (pss_cons h1 h2).imp fun D σ H ⟨F, ρ, ps, S, h⟩ => by
    refine ⟨F, ρ, ps, S, ?_⟩
    unfold sSeq at h
    cases ea : a ρ ps with
    | nx ρ1 ps1 =>
      rw [ea] at h
      exact fun F1 H1 σ1 S1 => ⟨F1, ρ1, ps1, S1, h⟩
    | rt d ps1 => rw [ea] at h; exact h
    | bk ρ1 ps1 => rw [ea] at h; exact h
    | ct ρ1 ps1 => rw [ea] at h; exact h
    | ex x ρ1 ps1 => rw [ea] at h; exact h
    | stuck => rw [ea] at h; exact h
theorem u_one (h1 : PS X st (uT c E a)) : PSs X [st] (uT c E a) := pss_one h1
theorem u_if {cc : Expr} {sa sb : List Stmt} (hc : PT X cc (pTT c E t)) (ha : PSs X sa (uT c E a)) (hb : PSs X sb (uT c E b)) : PS X (.If cc sa sb pos) (uT c E (sIf t a b)) :=
  (ps_if hc ha hb).imp fun D σ H ⟨F, ρ, ps, S, h⟩ => upost_bind S h fun d v F1 ρ1 ps1 H1 s S1 r h1 => by
    cases r
    cases d with
    | true => exact iteT ⟨F1, ρ1, ps1, S1, h1⟩
    | false => exact iteF ⟨F1, ρ1, ps1, S1, h1⟩
end
section
variable {X : Cx} {c : Ct} {E : XK} {tg : Expr} {body : List Stmt} {g : TG} {t : TM} {ix : List Nat} {mb : SM} {pos p p2 p3 : Pos} {n : Int}
theorem rngI {n : Nat} {F' H' : Hp} {ρ : En} {ps : Pn} {σ : St} {i : Nat} (S : SR c F' H' ρ ps σ) : (∀ d, (rngL 0 n)[i]? = some d → (Itr 0 n).go i H' ∧ ∀ x H'', (Itr 0 n).yld i H' x H'' → ∃ F'', Sub F' F'' ∧ SR c F'' H'' ρ ps σ ∧ Rep c.T c.pa F'' d x) ∧ ((rngL 0 n).length ≤ i → (Itr 0 n).stop i H') :=
  ok_itr (c := c) (F := F') i F' H' ρ ps σ (Sub.refl F') S
/-- for tg in range(n), n a constant -/
theorem u_for {j : Nat} (hp : PassesOwn (model X.prog X.w) X.A X.env X.xe) (hc : X.calm = true) (hgr : Gl X "range") (hmr : X.mg "range" = none) (hg : GT X c tg g t ix) (hb : PSs X body (uT c E mb)) (hn : i62 n = true)
    (hs1 : starEach [Expr.Constant (.int n) j p2] X.env = [(false, eval (Expr.Constant (.int n) j p2) X.env)] := by rfl)
    (hs : ∀ x, foldedSetIterable (.Call (.Name "range" p) [.Constant (.int n) j p2] [] p3) X.env x = pure x := by intro _; rfl) :
    PS X (.For tg (.Call (.Name "range" p) [.Constant (.int n) j p2] [] p3) body [] pos) (uT c E (sFor (iRg (eCons (eC (.int n)) eNil)) t mb)) := by
  refine (ps_for hp hc (pi_range1 hgr hmr (g_cons (c := c) (E := E) g_int g_nil) hs1) hg.1 hb hs).imp fun D σ H ⟨F, ρ, ps, S, h⟩ => ?_
  have e : sFor (iRg (eCons (eC (.int n)) eNil)) t mb ρ ps = forL t mb (rngL 0 n.toNat) ρ ps := by
    simp only [sFor, sBind, iRg, eCons, bindE, eC, pureE, eNil, liftO, hn, if_true]
  rw [e] at h
  refine ⟨F, ρ, ps, S, ?_⟩
  have e2 : eCons (eC (.int n)) eNil ρ ps = .ok [.int n] ρ ps := rfl
  rw [e2]
  intro vs F1 H1 s1 S1 r1
  obtain ⟨v, vr, rfl, rv, rr⟩ := r1
  have rv : v = .int n := rv
  have rr : vr = [] := rr
  subst rv rr
  obtain ⟨z1, z2⟩ := i62_iff hn
  refine ⟨n, rfl, z1, z2, ?_⟩
  refine ⟨fun i m σ' H' => m = (rngL 0 n.toNat).length - i ∧ i ≤ (rngL 0 n.toNat).length ∧ ∃ F' ρ' ps', SR c F' H' ρ' ps' σ' ∧ upost c E D (forL t mb ((rngL 0 n.toNat).drop i) ρ' ps'), ⟨(rngL 0 n.toNat).length, by simp, Nat.zero_le _, F1, ρ, ps, S1, h⟩, ?_⟩
  rintro i m σ' H' ⟨rfl, hi, F', ρ', ps', S', q⟩
  obtain ⟨k1, k2⟩ := rngI (n := n.toNat) (i := i) S'
  by_cases hlt : i < (rngL 0 n.toNat).length
  · have ei : (rngL 0 n.toNat)[i]? = some (rngL 0 n.toNat)[i] := List.getElem?_eq_getElem hlt
    obtain ⟨go, yl⟩ := k1 _ ei
    refine .inr ⟨go, fun σ2 H2 => ∃ F2 ρ2 ps2, SR c F2 H2 ρ2 ps2 σ2 ∧ upost c E D (forL t mb ((rngL 0 n.toNat).drop (i + 1)) ρ2 ps2), fun σ2 H2 ⟨F2, ρ2, ps2, a2, a3⟩ => ⟨(rngL 0 n.toNat).length - (i + 1), by omega, rfl, hlt, F2, ρ2, ps2, a2, a3⟩, fun x H2 y => ?_⟩
    obtain ⟨F2, s2, S2, rx⟩ := yl x H2 y
    rw [List.drop_eq_getElem_cons hlt] at q
    simp only [forL] at q
    cases et : t (rngL 0 n.toNat)[i] ρ' with
    | none => rw [et] at q; exact q.elim
    | some ρ3 =>
      rw [et] at q
      dsimp only at q
      refine hg.2 F2 H2 ρ' ps' σ' _ x _ ρ3 S2 rx et fun σ3 _ S3 => ⟨F2, ρ3, ps', S3, ?_⟩
      cases eb : mb ρ3 ps' with
      | nx ρ4 ps4 => rw [eb] at q; exact fun F4 H4 σ4 S4 => ⟨F4, ρ4, ps4, S4, q⟩
      | ct ρ4 ps4 => rw [eb] at q; exact fun F4 H4 σ4 S4 => ⟨F4, ρ4, ps4, S4, q⟩
      | bk ρ4 ps4 => rw [eb] at q; exact q
      | rt d ps4 => rw [eb] at q; exact q
      | ex e ρ4 ps4 => rw [eb] at q; exact q
      | stuck => rw [eb] at q; exact q
  · have e : i = (rngL 0 n.toNat).length := by omega
    subst e
    rw [List.drop_length] at q
    exact .inl ⟨k2 (Nat.le_refl _), q F' H' σ' S'⟩
end

/-! ### a frozen list within a list of lists is written, both are forgotten -/
/-- no list whose head is the text s, none whose head is a list -/
def hdOk (s : Str) : List D → Bool
  | [] => true
  | .str t :: _ => decide (t ≠ s)
  | .tup _ :: _ => true
  | .int _ :: _ => true
  | _ => false
mutual
def apD (s : Str) : D → Bool
  | .tup xs => apL s xs
  | .lst xs => hdOk s xs && apL s xs
  | .dic _ xs => apL s xs
  | .ins _ _ xs => apL s xs
  | _ => true
def apL (s : Str) : List D → Bool
  | [] => true
  | x :: xs => apD s x && apL s xs
end
def apS (s : Str) : Slot → Bool
  | .un => true
  | .v d => apD s d
  | .ol xs => apL s xs
  | _ => false
def Bad (F : Hp) (s : Str) (a : Addr) : Prop := ∃ w ws, F a = some (.lst (w :: ws)) ∧ (w = .str s ∨ ∃ b vs, w = .ref b ∧ F b = some (.lst vs))
noncomputable def without (F : Hp) (P : Addr → Prop) : Hp := fun a => @ite _ (P a) (Classical.propDecidable _) none (F a)
theorem without_no {F : Hp} {P : Addr → Prop} {a : Addr} (h : ¬ P a) : without F P a = F a := by
  unfold without; exact if_neg h
theorem without_yes {F : Hp} {P : Addr → Prop} {a : Addr} (h : P a) : without F P a = none := by
  unfold without; exact if_pos h
section
variable {T : Tab} {pa : Pa} {F : Hp} {s : Str} {P : Addr → Prop}
theorem hdOk_no (hP : ∀ a, P a → Bad F s a) {a : Addr} {xs : List D} {vs : List V} (e : F a = some (.lst vs)) (r : RepL T pa F xs vs) (h : hdOk s xs = true) : ¬ P a := fun z => by
  obtain ⟨w, ws, e1, e2⟩ := hP a z
  rw [e] at e1; cases e1
  cases xs with
  | nil => cases r
  | cons x xs =>
    obtain ⟨v, vr, e3, r1, _⟩ := r
    cases e3
    cases x with
    | str t =>
      have r1 : w = .str t := r1
      subst r1
      rcases e2 with e2 | ⟨b, vs, e2, _⟩
      · cases e2
        simp [hdOk] at h
      · cases e2
    | int i =>
      have r1 : w = .int i := r1
      subst r1
      rcases e2 with e2 | ⟨b, vs, e2, _⟩ <;> cases e2
    | tup ys =>
      obtain ⟨b', vs', rfl, e4, _⟩ := r1
      rcases e2 with e2 | ⟨b, vs, e2, e5⟩
      · cases e2
      · cases e2
        rw [e4] at e5; cases e5
    | _ => cases h
mutual
theorem Rep.dropP (hP : ∀ a, P a → Bad F s a) : ∀ {d : D} {v : V}, apD s d = true → Rep T pa F d v → Rep T pa (without F P) d v
  | .non, _, _, h => h
  | .bl _, _, _, h => h
  | .int _, _, _, h => h
  | .str _, _, _, h => h
  | .tup xs, _, q, ⟨a, vs, e, f, r⟩ => ⟨a, vs, e, by rw [without_no fun z => by obtain ⟨w, ws, e1, _⟩ := hP a z; rw [f] at e1; cases e1]; exact f, RepL.dropP hP q r⟩
  | .lst xs, _, q, ⟨a, vs, e, f, r⟩ => by
    have q' : (hdOk s xs && apL s xs) = true := q
    rw [Bool.and_eq_true] at q'
    exact ⟨a, vs, e, by rw [without_no (hdOk_no hP f r q'.1)]; exact f, RepL.dropP hP q'.2 r⟩
  | .dic _ _, _, q, ⟨a, vs, e, f, k, r⟩ => ⟨a, vs, e, by rw [without_no fun z => by obtain ⟨w, ws, e1, _⟩ := hP a z; rw [f] at e1; cases e1]; exact f, k, RepL.dropP hP q r⟩
  | .ins _ _ _, _, q, ⟨a, dx, fs, e, f, g, k, r⟩ => ⟨a, dx, fs, e, by rw [without_no fun z => by obtain ⟨w, ws, e1, _⟩ := hP a z; rw [f] at e1; cases e1]; exact f, by rw [without_no fun z => by obtain ⟨w, ws, e1, _⟩ := hP dx z; rw [g] at e1; cases e1]; exact g, k, RepL.dropP hP q r⟩
  | .fn _, _, _, h => h
  | .pen, _, _, h => h
theorem RepL.dropP (hP : ∀ a, P a → Bad F s a) : ∀ {ds : List D} {vs : List V}, apL s ds = true → RepL T pa F ds vs → RepL T pa (without F P) ds vs
  | [], _, _, h => h
  | d :: ds, _, q, ⟨v, r, e, h, t⟩ => by
    have q' : (apD s d && apL s ds) = true := q
    rw [Bool.and_eq_true] at q'
    exact ⟨v, r, e, Rep.dropP hP q'.1 h, RepL.dropP hP q'.2 t⟩
end
/-- what the law's own state knows of its beginning -/
structure Plain (c : Ct) : Prop where
  h0 : ∀ a, c.H0 a = none
  f0 : ∀ a o, c.F0 a = some o → ∃ is : List Int, o = .lst (is.map V.int)
theorem SR.drop {c : Ct} {H H' : Hp} {ρ : En} {ps : Pn} {σ : St} (pl : Plain c) (S : SR c F H ρ ps σ) (hP : ∀ a, P a → Bad F s a) (hH : ∀ a, ¬ P a → H' a = H a) (hS : ρ.all (apS s) = true) : SR c (without F P) H' ρ ps σ := by
  have hints : ∀ {a : Addr} {is : List Int}, F a = some (.lst (is.map V.int)) → ¬ P a := fun {a is} e z => by
    obtain ⟨w, ws, e1, e2⟩ := hP a z
    rw [e] at e1
    cases is with
    | nil => cases e1
    | cons i is =>
      cases e1
      rcases e2 with e2 | ⟨b, vs, e2, _⟩ <;> cases e2
  have noF : ∀ {a : Addr}, F a = none → ¬ P a := fun {a} e z => by
    obtain ⟨w, ws, e1, _⟩ := hP a z
    rw [e] at e1; cases e1
  have noH : ∀ {a : Addr} {o : HO}, H a = some o → (∀ vs, o ≠ .lst vs) → ¬ P a := fun {a o} e ne z => by
    obtain ⟨w, ws, e1, _⟩ := hP a z
    have := S.sub _ _ e1
    rw [e] at this; cases this
    exact ne _ rfl
  refine ⟨fun a o e => ?_, fun a o e => (by rw [pl.h0 a] at e; cases e), fun a n => absurd (pl.h0 a) n, fun a o e => ?_, S.len, fun i sl e => ?_, S.sep, ?_⟩
  · by_cases z : P a
    · rw [without_yes z] at e; cases e
    · rw [without_no z] at e
      rw [hH a z]; exact S.sub a o e
  · obtain ⟨is, rfl⟩ := pl.f0 a o e
    have e' := S.base a _ e
    rw [without_no (hints e')]; exact e'
  · obtain ⟨o, e1, r⟩ := S.slot i sl e
    refine ⟨o, e1, ?_⟩
    have ap : apS s sl = true := List.all_eq_true.mp hS sl (List.mem_of_getElem? e)
    cases sl with
    | un => trivial
    | v d => obtain ⟨v, e2, r2⟩ := r; exact ⟨v, e2, r2.dropP hP ap⟩
    | ol xs =>
      obtain ⟨p, vs, e2, e3, r2, w⟩ := r
      exact ⟨p, vs, e2, by rw [hH p (noF w.nf)]; exact e3, r2.dropP hP ap, ⟨by rw [without_no (noF w.nf)]; exact w.nf, w.n0, w.np⟩⟩
    | od ks xs => cases ap
    | oi cn ns xs => cases ap
  · have h := S.pen
    unfold PenR at h ⊢
    cases hp : c.pa with
    | none => trivial
    | some q =>
      obtain ⟨q, ca⟩ := q
      rw [hp] at h
      obtain ⟨e1, e2, e3⟩ := h
      exact ⟨by rw [hH q (noF e3)]; exact e1, by rw [without_no (hints e2)]; exact e2, by rw [without_no (noF e3)]; exact e3⟩
end
/-- e.append(y), name.pop(), where name's list of lists has the list e; both are known no more -/
def killS : List Nat → En → En
  | [], ρ => ρ
  | k :: ks, ρ => killS ks (ρ.set k .un)
theorem SR.killS {c : Ct} {F H : Hp} {ps : Pn} {σ : St} : ∀ (ks : List Nat) {ρ : En}, SR c F H ρ ps σ → SR c F H (killS ks ρ) ps σ
  | [], _, S => S
  | k :: ks, ρ, S => by
    unfold PL.killS
    by_cases hk : k < ρ.length
    · exact SR.killS ks (S.retell (s' := .un) (List.getElem?_eq_getElem hk) (fun _ _ => trivial) (fun z => by cases z))
    · rw [List.set_eq_of_length_le (by omega)]
      exact SR.killS ks S
/-- the slots at ks are not asked for any more -/
def sMut (i : Nat) (ks : List Nat) (me : EM D) : SM := sBind me fun d => fun ρ ps => match d, ρ[i]? with
  | .lst (.str s :: xs), some (.v (.lst (.lst ys :: zs))) => if xs.length + 1 < sizeLine ∧ (killS ks (ρ.set i .un)).all (apS s) = true then .nx (killS ks (ρ.set i .un)) ps else .stuck
  | _, _ => .stuck
section
variable {X : Cx} {c : Ct} {E : XK} {e : Expr} {me : EM D} {pos p p2 apos pos' p' p2' apos' : Pos} {x t : Str} {i j : Nat} {ks : List Nat} {yp : Pos} {sts : List Stmt} {mb : SM}
theorem u_mut (pl : Plain c) (hN : X.N[i]? = some x) (hv : Vis X.env.scope x) (he : PE X e (pT c E me)) (hsts : PSs X sts (uT c E mb))
    (hbase : attributeBase e "append" X.env (eval e X.env) = eval e X.env := by rfl)
    (hfew : ((backTo p2 (starEach [Expr.Constant (.str t) j yp] X.env)).all (fun x => !x.1) && (backToKw p2 (keywordEach [] X.env)).all (fun x => x.1.isSome) && decide ([Expr.Constant (.str t) j yp].length + ([] : List Keyword).length + (if ([] : List Keyword).isEmpty then 0 else 1) < 30)) = true := by rfl)
    (hline : (apos.endLine == p2.line) = true := by rfl) (hs : starEach [Expr.Constant (.str t) j yp] X.env = (false, eval (Expr.Constant (.str t) j yp) X.env) :: starEach [] X.env := by rfl) (hsw : swapsWith (.Call (.Attribute e "append" apos) [Expr.Constant (.str t) j yp] [] p2) none pos.line X.env = pure false := by rfl)
    (hbase' : attributeBase (.Name x p') "pop" X.env (eval (.Name x p') X.env) = eval (.Name x p') X.env := by rfl) (hline' : (apos'.endLine == p2'.line) = true := by rfl)
    (hsw' : swapsWith (.Call (.Attribute (.Name x p') "pop" apos') [] [] p2') none pos'.line X.env = pure false := by rfl)
    (hd : (x == ("__debug__" : Str)) = false := by decide) (hcd : (x == ("__classdict__" : Str)) = false := by decide) :
    PSs X (.Expr (.Call (.Attribute e "append" apos) [Expr.Constant (.str t) j yp] [] p2) pos :: .Expr (.Call (.Attribute (.Name x p') "pop" apos') [] [] p2') pos' :: sts) (uT c E (sSeq (sMut i ks me) mb)) :=
  (pss_cons (ps_expr (pe_bm PySem.F.plainAttrs_list PySem.F.slot_list_append PySem.F.type_list_append mt_append he (pa_cons (g_str (c := c) (E := E)) pa_nil hs) hbase hfew hline hs rfl) hsw)
    (pss_cons (ps_expr (pe_bm0 PySem.F.plainAttrs_list PySem.F.slot_list_pop PySem.F.type_list_pop mt_pop (pv i hN hv hd hcd) hbase' hline') hsw') hsts)).imp fun D σ H ⟨F, ρ, ps, S, h⟩ => by
    have h : upost c E { D with nx := uT c E mb D } (sMut i ks me ρ ps) := by
      unfold sSeq at h
      cases ea : sMut i ks me ρ ps with
      | nx ρ1 ps1 => rw [ea] at h; exact fun F1 H1 σ1 S1 => ⟨F1, ρ1, ps1, S1, h⟩
      | rt d ps1 => rw [ea] at h; exact h
      | bk ρ1 ps1 => rw [ea] at h; exact h
      | ct ρ1 ps1 => rw [ea] at h; exact h
      | ex x ρ1 ps1 => rw [ea] at h; exact h
      | stuck => rw [ea] at h; exact h
    refine upost_bind S h fun d v F1 ρ1 ps1 H1 s1 S1 r1 h1 => ?_
    have hfull : ∃ s xs, d = .lst (.str s :: xs) := by
      split at h1
      · exact ⟨_, _, rfl⟩
      · exact h1.elim
    obtain ⟨s, xs, rfl⟩ := hfull
    have r1' := r1
    obtain ⟨a1, vs1, rfl, f1, l1⟩ := r1
    refine ⟨tyL (S1.sub _ _ f1), ?_⟩
    refine ⟨F1, ρ1, ps1, S1, fun u F2 H2 s2 S2 r2 => ?_⟩
    have h2 := h1
    split at h2
    case h_2 => exact h2.elim
    rename_i d0 sl0 s' xs' ys zs e0 er
    cases e0
    by_cases hz : xs.length + 1 < sizeLine ∧ (killS ks (ρ1.set i .un)).all (apS s) = true
    case neg => rw [if_neg hz] at h2; exact h2.elim
    rw [if_pos hz] at h2
    obtain ⟨hz1, hz2⟩ := hz
    obtain ⟨v1, vr1, rfl, q1, l1'⟩ := l1
    have q1 : v1 = .str s := q1
    subst q1
    obtain ⟨o, eo, v0, e00, rv0⟩ := S2.slot i _ er
    subst e00
    obtain ⟨a0, vs0, rfl, f0, l0⟩ := rv0
    obtain ⟨v3, vr3, rfl, ⟨b, vsb, rfl, fb, lb⟩, l3⟩ := l0
    have f1' := s2 _ _ f1
    have ne : a0 ≠ a1 := fun z => by subst z; rw [f0] at f1'; cases f1'
    refine ⟨a1, .str s :: vr1, u, rfl, rfl, S2.sub _ _ f1', ?_, ?_⟩
    · rw [List.length_cons, ← l1'.length]; exact hz1
    · have e3 : upd H2 a1 (.lst (.str s :: vr1 ++ [u])) a0 = some (.lst (.ref b :: vr3)) := by
        rw [upd_ne ne]; exact S2.sub _ _ f0
      obtain ⟨last, elast⟩ : ∃ w, (V.ref b :: vr3)[(V.ref b :: vr3).length - 1]? = some w := ⟨_, List.getElem?_eq_getElem (by simp)⟩
      refine ⟨_, eo, tyL e3, a0, _, last, rfl, rfl, e3, elast, ?_⟩
      have hi : i < ρ1.length := (List.getElem?_eq_some_iff.mp er).1
      have S3 := (S2.retell (s' := .un) er (fun _ _ => trivial) (fun z => by cases z)).killS ks
      refine h2 (without F2 fun a => a = a1 ∨ a = a0) _ σ (S3.drop (s := s) pl (fun a z => ?_) (fun a z => ?_) hz2)
      · rcases z with rfl | rfl
        · exact ⟨_, _, f1', .inl rfl⟩
        · exact ⟨_, _, f0, .inr ⟨b, vsb, rfl, fb⟩⟩
      · rw [upd_ne (fun q => z (.inr q)), upd_ne (fun q => z (.inl q))]
end
end PL

namespace PL
open PySem L2
section
variable {P : Program} {w : World} {K : PySem.W.Frag} {mg : Str → Option Value} {base : Heap}
/-! ### the law's def -/
def tAnyU (T : Tab) (m : SM) : TS := fun D σ H => ∃ c : Ct, c.T = T ∧ Plain c ∧ uT c E0 m D σ H
theorem pss_anyU {X : Cx} {T : Tab} {m : SM} {sts : List Stmt} (h : ∀ c : Ct, c.T = T → Plain c → PSs X sts (uT c E0 m)) : PSs X sts (tAnyU T m) := ⟨fun pins s σ H D I ⟨c, e, pl, q⟩ => (h c e pl).run pins s σ H D I q⟩
theorem law_atU {st st1 : Stmt} {rest : List Stmt} {fa : Addr} {fd : FuncData} {N : List Str} {k : Nat} {m : SM} (F : Fun K "law" "law" st fa fd) (S : FnScope ("script" :: "pen" :: N) ["script"] (defScope st)) (hb : defBody st = st1 :: rest)
    (h1 : ∀ (cdv : Value) (outer : List Env) (s : Shared) (H : Hp) (E : XK), Room k (callerA.deeper (PyProof.Rows.envOfC "law" (defScope st) s.heap.objs.size fa cdv)) →
      PS (cxOf (L2.CX P w) P w K mg base ("script" :: "pen" :: N) "law" (defScope st) fa cdv callerA outer s H E).nox st1 (tAsg (tCall (spPen K) [] E0 (tCons (tVar 0) tNil)) (gName 1)))
    (h2 : ∀ (cdv : Value) (outer : List Env) (s : Shared) (H : Hp) (E : XK) (c : Ct), c.T = tabOf mg → Plain c → Room k (callerA.deeper (PyProof.Rows.envOfC "law" (defScope st) s.heap.objs.size fa cdv)) →
      PSs (cxOf (L2.CX P w) P w K mg base ("script" :: "pen" :: N) "law" (defScope st) fa cdv callerA outer s H E).nox rest (uT c E0 m))
    (hm : ∀ ns : List Int, ns.length ≤ 63 → ∃ ps', m (.un :: .v .pen :: List.replicate N.length .un) ⟨ns, 0, 0⟩ = .rt (.bl true) ps') : FnAt callerA P w K mg base (L2.CX P w) (k + 1) fa fd ["script"] (spLaw K) := by
  refine Fun.okA F S (fun vs H Q E ⟨a, ns, ev, _⟩ => by rw [ev]; rfl) fun cdv outer s H vs Q E hr h => ?_
  obtain ⟨a, ns, rfl, hl, hS, hQ⟩ := h
  rw [hb]
  refine ⟨_, (pss_cons (h1 cdv outer s H E hr) (pss_anyU (T := tabOf mg) fun c hT hP => h2 cdv outer s H E c hT hP hr)).nox, ?_⟩
  refine ⟨.ref a, rfl, a, ns, rfl, hl, hS, fun H' p ca sub n1 n2 ne e1 e2 => ?_⟩
  refine ⟨⟨tabOf mg, some (p, ca), upd (fun _ => none) ca (.lst (ns.map V.int)), fun _ => none, none⟩, rfl, ⟨fun _ => rfl, fun b o z => ?_⟩, upd (fun _ => none) ca (.lst (ns.map V.int)), .un :: .v .pen :: List.replicate N.length .un, ⟨ns, 0, 0⟩, ?_, ?_⟩
  · by_cases q : b = ca
    · subst q
      have z' : upd (fun _ => none) b (HO.lst (ns.map V.int)) b = some o := z
      rw [upd_same] at z'; cases z'; exact ⟨ns, rfl⟩
    · have z' : upd (fun _ => none) ca (HO.lst (ns.map V.int)) b = some o := z
      rw [upd_ne q] at z'; cases z'
  · refine ⟨fun b o z => ?_, fun b o e _ => (by cases e), fun _ n => absurd rfl n, Sub.refl _, ?_, fun i sl e => ?_, fun i j q ⟨sl, e1, e2, _⟩ => ?_, ?_⟩
    · by_cases q : b = ca
      · subst q; rw [upd_same] at z; cases z; exact e2
      · rw [upd_ne q] at z; cases z
    · show ((L2.start ("script" :: "pen" :: N) [V.ref a]).set 1 (some (.ref p))).length = _
      unfold L2.start
      simp
    · match i, e with
      | 0, e => cases e; exact ⟨_, rfl, trivial⟩
      | 1, e =>
        cases e
        exact ⟨some (.ref p), by show ((L2.start ("script" :: "pen" :: N) [V.ref a]).set 1 (some (.ref p)))[1]? = _; rfl, .ref p, rfl, p, rfl, rfl⟩
      | i + 2, e =>
        have e' : (List.replicate N.length Slot.un)[i]? = some sl := e
        rw [List.getElem?_replicate] at e'
        by_cases hi : i < N.length
        · rw [if_pos hi] at e'
          cases e'
          refine ⟨_, List.getElem?_eq_getElem (h := ?_), trivial⟩
          show i + 2 < ((L2.start ("script" :: "pen" :: N) [V.ref a]).set 1 (some (.ref p))).length
          unfold L2.start
          simp
          omega
        · rw [if_neg hi] at e'; cases e'
    · match i, e1 with
      | 0, e1 => cases e1; cases e2
      | 1, e1 => cases e1; cases e2
      | i + 2, e1 =>
        have e' : (List.replicate N.length Slot.un)[i]? = some sl := e1
        rw [List.getElem?_replicate] at e'
        by_cases hi : i < N.length
        · rw [if_pos hi] at e'; cases e'; cases e2
        · rw [if_neg hi] at e'; cases e'
    · exact ⟨e1, upd_same, upd_ne ne⟩
  · obtain ⟨ps', em⟩ := hm ns hl
    rw [em]
    intro v F' H'' ρ' σ' S' r
    have r : v = .bl true := r
    subst r
    exact hQ H''
end
end PL

namespace PL
open PySem L2 PySem.Spec PyProof.Rows
/-! ### methods and classes called by keywords alone -/
/-- keyword values in the parameters' order -/
def pick {α : Type} (idx : List Nat) (zs : List α) : List α := idx.filterMap fun i => zs[i]?
theorem pick_len {α β : Type} {idx : List Nat} {xs : List α} {ys : List β} (h : xs.length = ys.length) : (pick idx xs).length = (pick idx ys).length := by
  induction idx with
  | nil => rfl
  | cons i r ih =>
    unfold pick at ih ⊢
    rw [List.filterMap_cons, List.filterMap_cons]
    by_cases hi : i < xs.length
    · rw [List.getElem?_eq_getElem hi, List.getElem?_eq_getElem (h ▸ hi)]
      simp [ih]
    · rw [List.getElem?_eq_none (by omega), List.getElem?_eq_none (by omega)]
      exact ih
theorem RepL.pick {T : Tab} {pa : Pa} {F : Hp} {ds : List D} {vs : List V} (r : RepL T pa F ds vs) : ∀ idx : List Nat, RepL T pa F (pick idx ds) (PL.pick idx vs)
  | [] => RepL.nil
  | i :: rest => by
    unfold PL.pick
    rw [List.filterMap_cons, List.filterMap_cons]
    cases e : ds[i]? with
    | none =>
      have : ds.length ≤ i := by simpa using e
      rw [List.getElem?_eq_none (by rw [← r.length]; exact this)]
      exact RepL.pick r rest
    | some d =>
      obtain ⟨v, ev, rv⟩ := r.get e
      rw [ev]
      exact RepL.cons rv (RepL.pick r rest)
theorem vals_pick {vs : List V} {us : List Value} (r : Vals vs us) : ∀ idx : List Nat, Vals (pick idx vs) (pick idx us)
  | [] => .nil
  | i :: rest => by
    unfold pick
    rw [List.filterMap_cons, List.filterMap_cons]
    cases e : vs[i]? with
    | none =>
      have : vs.length ≤ i := by simpa using e
      rw [List.getElem?_eq_none (by rw [← r.length]; exact this)]
      exact vals_pick r rest
    | some d =>
      obtain ⟨v, ev, rv⟩ := r.get e
      rw [ev]
      exact .cons rv (vals_pick r rest)
abbrev KPn (K : PySem.W.Frag) (fd : FuncData) (ps : List Str) (n : Nat) (ks : List Str) (idx : List Nat) : Prop := KBn K fd ps n ks (fun us ws => us ++ pick idx ws) (fun vs zs => vs ++ pick idx zs)
theorem fun_kb {K : PySem.W.Frag} {x qual : Str} {st : Stmt} {f : Addr} {fd : FuncData} {ps ks : List Str} {n : Nat} {idx : List Nat} (F : Fun K x qual st f fd)
    (h : ∀ (kV doc pm : Value) (an : Option Addr) (cdv ct : Value) (us ws : List Value), us.length = n → ws.length = ks.length → bindArgs (PySem.W.fnOf x qual (defArgs st) (defBody st) (defScope st) .none kV doc pm an cdv ct) ⟨us, ks.zip ws⟩ = pure (ps.zip (us ++ pick idx ws))) : KPn K fd ps n ks idx := by
  obtain ⟨oc, od, kV, doc, pm, an, cdv, ct, osl, rfl, lk, hcd⟩ := F.ex
  exact ⟨fun s us ws X l1 l2 => .of_eq (h kV doc pm an cdv ct us ws l1 l2), fun r rz => r.append (vals_pick rz idx)⟩
structure MetK (P : Program) (w : World) (K : PySem.W.Frag) (mg : Str → Option Value) (base : Heap) (T : Tab) (k : Nat) (cn m : Str) (n : Nat) (ks : List Str) (idx : List Nat) (f : FM) : Prop where
  at_ : ∃ a fd ps, FnOk P w K mg base (L2.CX P w) k a fd ps (spP T (n + 1) f) ∧ KPn K fd ps 1 ks idx ∧ Cls K (T.cls cn) ∧ Meth K (T.cls cn) m a
  ln : ∀ es : List D, es.length = ks.length → (pick idx es).length = n
structure MakK (P : Program) (w : World) (K : PySem.W.Frag) (mg : Str → Option Value) (base : Heap) (T : Tab) (k : Nat) (x cn : Str) (n : Nat) (ks : List Str) (idx : List Nat) (f : IM) : Prop where
  at_ : ∃ a fd ps, Mk K (T.cls cn) a ∧ FnOk P w K mg base (L2.CX P w) k a fd ps (spI T cn n f) ∧ KPn K fd ps 1 ks idx ∧ mg x = some (.ref (T.cls cn))
  ln : ∀ es : List D, es.length = ks.length → (pick idx es).length = n
def eMethK (cn m : Str) (f : FM) (idx : List Nat) (o : EM D) (mk : EM (List D)) : EM D := bindE o fun d => match d with
  | .ins c ns _ => if c = cn ∧ m ∉ ns then bindE mk fun es => callE f (d :: pick idx es) else stuckE
  | _ => stuckE
def eMakeK (cn : Str) (f : IM) (idx : List Nat) (mk : EM (List D)) : EM D := bindE mk fun es => makeE cn f (pick idx es)
/-- o.m(k = v, ..) -/
def tMethK (C : Addr) (sp : Sp) (m : Str) (nk : Nat) (gV : List V → List V → List V) (E : XK) (ta : TE) (tk : TA) : TE := fun σ H Q => ta σ H fun x H1 => ∃ a dx fs, x = .ref a ∧ H1 a = some (.ins C dx fs) ∧ fs.lookup m = none ∧
  tk σ H1 fun zs H2 => zs.length = nk ∧ sp (gV [x] zs) H2 Q E
section
variable {X : Cx} {CX : CXT} {k : Nat} {f C : Addr} {fd : FuncData} {ps ks : List Str} {sp : Sp} {E : XK} {x m : Str} {p pos apos : Pos} {o : Expr} {kws : List Keyword} {ta : TE} {tk : TA} {g : List Value → List Value → List Value} {gV : List V → List V → List V}
theorem pe_methK0 {pl : Sem Bool} (he : PE X o ta) (c : Cls X.K C) (hm : Meth X.K C m f) (F : FnOk X.prog X.w X.K X.mg X.base CX k f fd ps sp) (hr : Room k X.A) (hb : KBn X.K fd ps 1 ks g gV) (hx : Passes CX X E) (hkw : PK X kws tk)
    (hall : (backToKw pos (keywordEach kws X.env)).all (·.1.isSome) = true := by rfl) (hks : (backToKw pos (keywordEach kws X.env)).filterMap (·.1) = ks := by rfl)
    (hpl : ((backTo pos (starEach [] X.env)).any (·.1) || (backToKw pos (keywordEach kws X.env)).any (·.1.isNone)) = false := by rfl)
    (ht : eval (.Call (.Attribute o m apos) [] kws pos) X.env = (do
      let ov ← eval o X.env
      standAt apos.atName
      let (f, first) ← holding [ov] (getMethod ov m pl)
      callWith pos f first (backTo pos (starEach [] X.env)) (backToKw pos (keywordEach kws X.env))) := by rfl) :
    PE X (.Call (.Attribute o m apos) [] kws pos) (tMethK C sp m ks.length gV E ta tk) := by
  refine ⟨fun pins s σ H Q I h => ?_⟩
  refine PySem.W.methodCall_KW (pl := pl) (thn (he.run pins s σ H _ I h) fun u s1 ⟨x, H1, I1, rx, a, dx, fs, ex, ea, l, q⟩ => ?_) ht
  subst ex
  obtain rfl : u = Value.ref a := rx
  refine getmeth_ok I1 ea c hm l ?_
  refine PySem.W.callWith_KW0 (first := [.ref a]) (h₀ := X.base) I.ok.mod.kin hm.kp hall ?_ hpl
  refine thn (hkw.run pos pins s1 σ H1 _ I1 q) fun ws s2 ⟨zs, H2, I2, rz, l2, q2⟩ => ⟨I2.kIn, ?_⟩
  rw [hks]
  exact run_fnN (us := [.ref a]) (vs := [.ref a]) F hr hb hx I2 (.cons rfl .nil) rz rfl l2 q2
theorem pe_makeN0 (M : Mk X.K C f) (F : FnOk X.prog X.w X.K X.mg X.base CX k f fd ps sp) (hr : Room (k + 1) X.A) (hg : Gl X x) (hm : X.mg x = some (.ref C)) (hb : KBn X.K fd ps 1 ks g gV) (hx : Passes CX X E)
    (hkw : PK X kws tk) (hall : (backToKw pos (keywordEach kws X.env)).all (·.1.isSome) = true := by rfl) (hks : (backToKw pos (keywordEach kws X.env)).filterMap (·.1) = ks := by rfl)
    (hdb : (x == ("__debug__" : Str)) = false := by decide) (hpl : ((backTo pos (starEach [] X.env)).any (·.1) || (backToKw pos (keywordEach kws X.env)).any (·.1.isNone)) = false := by rfl) :
    PE X (.Call (.Name x p) [] kws pos) (tMakeN C 0 ks.length sp gV E tNil tk) := by
  refine ⟨fun pins s σ H Q I h => ?_⟩
  refine wpAny_Call_Name_kw (ld_glob I hg hm ?_ hdb)
  refine PySem.W.callWith_KW0 (h₀ := X.base) I.ok.mod.kin M.kp hall ?_ hpl
  refine thn (hkw.run pos pins s σ H _ I h) fun ws s2 ⟨zs, H2, I2, rz, l1, l2, q2⟩ => ⟨I2.kIn, ?_⟩
  rw [hks]
  exact run_makeN (n := 0) (us := []) (vs := []) M F hr hb hx I2 .nil rz l1 l2 q2
end
section
variable {X : Cx} {c : Ct} {E : XK} {o : Expr} {mo : EM D} {mk : EM (List D)} {pos p apos : Pos} {x cn m : Str} {j k n : Nat} {fm : FM} {ks : List Str} {idx : List Nat} {kws : List Keyword}
theorem g_methK {pl : Sem Bool} (M : MetK X.prog X.w X.K X.mg X.base c.T k cn m n ks idx fm) (hr : Room j X.A) (hk : k ≤ j) (hx : Passes (L2.CX X.prog X.w) X E) (hkn : Many ks.length mk) (ho : PE X o (pT c E mo)) (hkw : PK X kws (pTA c E mk))
    (hall : (backToKw pos (keywordEach kws X.env)).all (·.1.isSome) = true := by rfl) (hks : (backToKw pos (keywordEach kws X.env)).filterMap (·.1) = ks := by rfl)
    (hpl : ((backTo pos (starEach [] X.env)).any (·.1) || (backToKw pos (keywordEach kws X.env)).any (·.1.isNone)) = false := by rfl)
    (ht : eval (.Call (.Attribute o m apos) [] kws pos) X.env = (do
      let ov ← eval o X.env
      standAt apos.atName
      let (f, first) ← holding [ov] (getMethod ov m pl)
      callWith pos f first (backTo pos (starEach [] X.env)) (backToKw pos (keywordEach kws X.env))) := by rfl) : PE X (.Call (.Attribute o m apos) [] kws pos) (pT c E (eMethK cn m fm idx mo mk)) := by
  obtain ⟨fa, fd, pp, Fn, hb, cl, me⟩ := M.at_
  refine (pe_methK0 ho cl me Fn (hr.mono hk) hb hx hkw hall hks hpl ht).imp fun σ H Q ⟨F, ρ, ps, S, h⟩ => post_bind S h fun d v F1 ρ1 ps1 H1 s1 S1 r1 h1 => ?_
  cases d with
  | ins c' ns xs =>
    dsimp only at h1
    by_cases hc : c' = cn ∧ m ∉ ns
    case neg => rw [if_neg hc] at h1; exact h1.elim
    rw [if_pos hc] at h1
    obtain ⟨hc, hm⟩ := hc
    subst hc
    have r1' := r1
    obtain ⟨a, dx, fs, rfl, f1, f2, en, l⟩ := r1
    subst en
    refine ⟨a, dx, fs, rfl, S1.sub _ _ f1, lookup_none hm, ?_⟩
    refine args_n hkn S1 h1 fun ds vs F2 ρ2 ps2 H2 hl s2 S2 r2 h2 => ?_
    refine ⟨by rw [← r2.length]; exact hl, ?_⟩
    exact call_post (by rw [List.length_cons, M.ln _ hl]) S2 (RepL.cons (Rep.mono s2 r1') (RepL.pick r2 idx)) h2
  | _ => exact h1.elim
theorem g_makeK {fi : IM} (M : MakK X.prog X.w X.K X.mg X.base c.T k x cn n ks idx fi) (hr : Room j X.A) (hk : k + 1 ≤ j) (hg : Gl X x) (hx : Passes (L2.CX X.prog X.w) X E) (hkn : Many ks.length mk) (hkw : PK X kws (pTA c E mk))
    (hall : (backToKw pos (keywordEach kws X.env)).all (·.1.isSome) = true := by rfl) (hks : (backToKw pos (keywordEach kws X.env)).filterMap (·.1) = ks := by rfl)
    (hdb : (x == ("__debug__" : Str)) = false := by decide) (hpl : ((backTo pos (starEach [] X.env)).any (·.1) || (backToKw pos (keywordEach kws X.env)).any (·.1.isNone)) = false := by rfl) : PE X (.Call (.Name x p) [] kws pos) (pT c E (eMakeK cn fi idx mk)) := by
  obtain ⟨fa, fd, ps, mk', F, hb, hm⟩ := M.at_
  refine (pe_makeN0 mk' F (hr.mono hk) hg hm hb hx hkw hall hks hdb hpl).imp fun σ H Q ⟨F, ρ, ps, S, h⟩ => ?_
  refine args_n hkn S h fun ds vs F1 ρ1 ps1 H1 hl s S1 r h1 => ?_
  refine ⟨rfl, by rw [← r.length]; exact hl, ?_⟩
  intro x' dx nx ndx ne
  exact make_post (M.ln _ hl) S1 (RepL.pick r idx) h1 nx ndx ne
end
end PL

set_option maxHeartbeats 2000000
namespace PL
open PySem L2 PySem.Spec PyProof.Rows
/-! ### a slice of a list or a tuple; enumerate over either -/
def slD (lo hi : Option Int) : D → Option D
  | .tup xs => some (.tup (cutD xs lo hi))
  | .lst xs => some (.lst (cutD xs lo hi))
  | _ => none
def eSl (m : EM D) (lo hi : EM (Option Int)) : EM D := bindE m fun x => bindE lo fun l => bindE hi fun u => liftO (slD l u x)
section
variable {X : Cx} {c : Ct} {E : XK} {e : Expr} {me : EM D} {p2 pos : Pos}
theorem g_sl {lo hi : Option Expr} {ml mh : EM (Option Int)} (he : PE X e (pT c E me)) (hl : PO X lo (pTO c E ml)) (hh : PO X hi (pTO c E mh)) : PE X (.Subscript e (.Slice lo hi none p2) pos) (pT c E (eSl me ml mh)) :=
  (pe_slice (SlR.or sl_tupA sl_list) he hl hh).imp fun σ H Q ⟨F, ρ, ps, S, h⟩ => post_bind S h fun d1 v1 F1 ρ1 ps1 H1 s1 S1 r1 h1 => post_bind S1 h1 fun l l' F2 ρ2 ps2 H2 s2 S2 r2 h2 => post_bind S2 h2 fun u u' F3 ρ3 ps3 H3 s3 S3 r3 h3 => by
    cases r2; cases r3
    have h4 := okd_of h3
    cases d1 <;> first
      | exact (okd_none h4).elim
      | skip
    case tup xs =>
      left
      obtain ⟨a, vs, rfl, f, rl⟩ := Rep.mono s3 (Rep.mono s2 r1)
      have cr := cut_rep rl l u
      refine ⟨a, vs, rfl, SqT.of (S3.sub _ _ f), fun hw => ?_, fun _ p n => OkD.tup h4 S3 cr n⟩
      have ew : cutD xs l u = xs := by
        unfold cutD
        rw [rl.length, hw.1, hw.2, List.drop_zero, Nat.sub_zero, ← rl.length, List.take_length]
      rw [slD, ew] at h4
      exact h4.rep S3 ⟨a, vs, rfl, f, rl⟩
    case lst xs =>
      right
      obtain ⟨a, vs, rfl, f, rl⟩ := Rep.mono s3 (Rep.mono s2 r1)
      exact ⟨a, vs, rfl, SqL.of (S3.sub _ _ f), fun p n => OkD.lst h4 S3 (cut_rep rl l u) n⟩
end
def iEnum2 (K : PySem.W.Frag) (ta : TA) : TI := fun σ H R => ta σ H fun vs H1 => ∃ a, vs = [.ref a] ∧ ((∃ xs, SqL K H1 a xs ∧ R (Ite K a) H1) ∨ (∃ xs, SqT K H1 a xs ∧ R (Itet K a) H1))
theorem pi_en2 {X : Cx} {e : Expr} {ta : TA} {p pos tpos : Pos} {elts : List Expr} {kk : Nat} (hg : Gl X "enumerate") (hm : X.mg "enumerate" = none) (ha : PA X [e] ta) (hs : starEach [e] X.env = [(false, eval e X.env)] := by rfl) :
    PI X (.Tuple elts kk tpos) (.Call (.Name "enumerate" p) [e] [] pos) (iEnum2 X.K ta) := by
  refine ⟨fun pins s σ H R I h => Call_ (ld_blt I hg hm boot_enumerate (PyProof.Rows.callWith_type1 (thn (ha.run pos pins s σ H _ I h) fun us s1 ⟨vs, H1, I1, r1, q1⟩ => ?_) hs rfl))⟩
  obtain ⟨a, ex, q⟩ := q1
  subst ex
  obtain ⟨u, ru, hu⟩ := one_ref r1
  subst hu
  obtain rfl := ru
  rcases q with ⟨xs, hq, q⟩ | ⟨xs, hq, q⟩
  · obtain ⟨its, rv, p', hz⟩ := I1.list hq
    refine call_enumerate_list p'.isList fun h' he hit hsz hk => wpAny_pyIter_enum he ?_
    have I2 : Inv X pins σ H1 { s1 with heap := h' } := I1.kept (t' := s1.toks) hk
    refine ⟨s1.heap.objs.size + 1, [s1.heap.objs.size + 1, s1.heap.objs.size], _, _, H1, rfl, I2, turn_enum a (s1.heap.objs.size + 1) s1.heap.objs.size, ⟨⟨.none, he⟩, hit, Nat.succ_ne_self _⟩, fun b hb => ?_, q⟩
    have e' : b = s1.heap.objs.size + 1 ∨ b = s1.heap.objs.size := by simpa using hb
    have hle : s1.heap.objs.size ≤ b := by
      rcases e' with z | z
      · rw [z]; exact Nat.le_add_right _ _
      · rw [z]; exact Nat.le_refl _
    exact I1.fpOk hle (I1.hok.fresh hle)
  · obtain ⟨its, rv, tp, hz⟩ := I1.tuple hq
    refine call_enT tp ?_
    intro h' he hit hsz hk
    refine wpAny_pyIter_enum he ?_
    have hal : a < s1.heap.objs.size := by obtain ⟨o, q, _⟩ := tp; exact Heap.lt_size q
    refine ⟨s1.heap.objs.size + 1, [s1.heap.objs.size + 1, s1.heap.objs.size], _, _, H1, rfl, I1.kept (t' := s1.toks) hk, turn_enT a (s1.heap.objs.size + 1) s1.heap.objs.size, ⟨⟨.none, he⟩, hit, Nat.succ_ne_self _, Nat.ne_of_lt hal, Nat.ne_of_lt (Nat.lt_succ_of_lt hal)⟩, fun b hb => ?_, q⟩
    have hle : s1.heap.objs.size ≤ b := by
      have z : b = s1.heap.objs.size + 1 ∨ b = s1.heap.objs.size := by simpa using hb
      rcases z with rfl | rfl
      · exact Nat.le_succ _
      · exact Nat.le_refl _
    exact I1.fpOk hle (I1.hok.fresh hle)
section
variable {X : Cx} {c : Ct} {E : XK} {a : Expr} {ml : EM (List D)} {p pos : Pos}
def iEn2 (ml : EM (List D)) : EM (List D) := bindE ml fun ds => liftO (match ds with | [.tup xs] => some (enumL 0 xs) | [.lst xs] => some (enumL 0 xs) | _ => none)
theorem i_en2 {elts : List Expr} {kk : Nat} {tpos : Pos} (hg : Gl X "enumerate") (hm : X.mg "enumerate" = none) (ha : PA X [a] (pTA c E ml)) (hn : Many 1 ml) (hs : starEach [a] X.env = [(false, eval a X.env)] := by rfl) : PI X (.Tuple elts kk tpos) (.Call (.Name "enumerate" p) [a] [] pos) (pTI c E (iEn2 ml)) :=
  (pi_en2 hg hm ha hs).imp fun σ H R ⟨F, ρ, ps, S, h⟩ => args_n hn S h fun ds vs F1 ρ1 ps1 H1 hl s1 S1 r1 h1 => by
    obtain ⟨zs, ez, h4⟩ := post_some h1
    match ds, hl with
    | [d], _ =>
      obtain ⟨v, rfl, rv⟩ := rep1 r1
      cases d with
      | tup xs =>
        cases ez
        obtain ⟨a, vs, rfl, f, l⟩ := rv
        refine ⟨a, rfl, .inr ⟨vs, SqT.of (S1.sub _ _ f), post_ok (R := RI c) S1 h4 (fun h _ i F' H' ρ' ps' σ' sb S' => ?_)⟩⟩
        have q : SqT X.K H' a vs := SqT.of (S'.sub _ _ (sb _ _ f))
        refine ⟨fun d e => ?_, fun hl => ⟨vs, q, by rw [enum_len, l.length] at hl; exact hl⟩⟩
        rw [enum_get] at e
        cases ex : xs[i]? with
        | none => rw [ex] at e; cases e
        | some d' =>
          rw [ex] at e
          cases e
          obtain ⟨v, ev, rv⟩ := l.get ex
          refine ⟨⟨vs, v, q, ev⟩, fun x H'' ⟨T, y1, e1, n, e2, e3⟩ => ?_⟩
          subst e1 e2
          have := e3 vs q
          rw [ev] at this; cases this
          rw [Nat.zero_add]
          exact pair_new S' n rfl (rv.mono sb)
      | lst xs =>
        cases ez
        obtain ⟨a, vs, rfl, f, l⟩ := rv
        refine ⟨a, rfl, .inl ⟨vs, SqL.of (S1.sub _ _ f), post_ok (R := RI c) S1 h4 (fun h _ i F' H' ρ' ps' σ' sb S' => ?_)⟩⟩
        have q : SqL X.K H' a vs := SqL.of (S'.sub _ _ (sb _ _ f))
        refine ⟨fun d e => ?_, fun hl => ⟨vs, q, by rw [enum_len, l.length] at hl; exact hl⟩⟩
        rw [enum_get] at e
        cases ex : xs[i]? with
        | none => rw [ex] at e; cases e
        | some d' =>
          rw [ex] at e
          cases e
          obtain ⟨v, ev, rv⟩ := l.get ex
          refine ⟨⟨vs, v, q, ev⟩, fun x H'' ⟨T, y1, e1, n, e2, e3⟩ => ?_⟩
          subst e1 e2
          have := e3 vs q
          rw [ev] at this; cases this
          rw [Nat.zero_add]
          exact pair_new S' n rfl (rv.mono sb)
      | _ => cases ez
end
end PL

namespace PL
open PySem L2
/-! ### isinstance of an own class, also of a tuple -/
def isT (cn : Str) (d : D) : Option D := match d with
  | .ins c _ _ => if c = cn then some (.bl true) else none
  | .tup _ => some (.bl false)
  | _ => none
section
variable {X : Cx} {c : Ct} {E : XK} {e : Expr} {me : EM D} {pos p p2 : Pos}
theorem g_isT (cn : Str) {y : Str} (he : PE X e (pT c E me)) (ci : C8.InsC X.K (c.T.cls cn)) (kt : PySem.W.kitOne X.K (.type "tuple") (.ref (c.T.cls cn)) = some false) (hg : Gl X "isinstance") (hm : X.mg "isinstance" = none) (hgy : Gl X y) (hmy : X.mg y = some (.ref (c.T.cls cn))) (hyd : (y == ("__debug__" : Str)) = false := by decide)
    (hs : starEach [e, .Name y p2] X.env = (false, eval e X.env) :: starEach [.Name y p2] X.env := by rfl) (hs2 : starEach [.Name y p2] X.env = (false, eval (.Name y p2) X.env) :: starEach [] X.env := by rfl) (hpl : (backTo pos (starEach [.Name y p2] X.env)).any (·.1) = false := by rfl)
    (hv : bootBuiltins "isinstance" = some (.builtin "isinstance") := by decide +kernel) : PE X (.Call (.Name "isinstance" p) [e, .Name y p2] [] pos) (pT c E (eOp1 (isT cn) me)) :=
  (pe_callB call_isi hg hm hv (pa_cons he (pa_cons (pe_glob (v := .ref (c.T.cls cn)) hgy hmy rfl hyd) pa_nil hs2) hs) (by decide) (by decide) hs hpl).imp fun σ H Q ⟨F, ρ, ps, S, h⟩ =>
    post_bind S h fun d v F1 ρ1 ps1 H1 s1 S1 r1 h1 => by
      have h1' := okd_of h1
      cases d <;> first
        | exact (okd_none h1').elim
        | skip
      case ins c' ns xs =>
        unfold isT at h1'
        by_cases hc : c' = cn
        case neg => simp only [if_neg hc] at h1'; exact (okd_none h1').elim
        simp only [if_pos hc] at h1'
        subst hc
        obtain ⟨a, dx, fs, rfl, f, _⟩ := r1
        exact ⟨_, _, _, _, true, rfl, .own _, .base (TyOf.ins (S1.sub _ _ f) ci.cl ci.ha ci.hn ci.htk ci.hm), ci.me, OkD.flat h1' S1 rfl⟩
      case tup xs =>
        obtain ⟨a, vs, rfl, f, _⟩ := r1
        exact ⟨_, _, _, _, false, rfl, .own _, .base (TyOf.tup (S1.sub _ _ f)), kt, OkD.flat h1' S1 rfl⟩
end
end PL
namespace PL
open PySem
theorem kit_tup {K : PySem.W.Frag} {C : Addr} (t : PySem.W.typeIn K (.ref C) = some (.type "type")) (m : PySem.W.mroIn K C (.type "object") = some true) : PySem.W.kitOne K (.type "tuple") (.ref C) = some false := by
  have hc : (PySem.W.clsIn K C).isSome = true := by
    unfold PySem.W.mroIn at m
    cases e : PySem.W.clsIn K C with
    | none => rw [e] at m; simp at m
    | some z => rfl
  unfold PySem.W.kitOne
  rw [if_neg (by simp)]
  show (if ((PySem.W.clsIn K C).isSome && PySem.W.typeIn K (.ref C) == some (.type "type")) = true then PySem.W.subIn K (.type "tuple") (.ref C) else none) = _
  rw [hc, t, if_pos (by simp), HNe.sub_tuple]
end PL

set_option maxHeartbeats 4000000
namespace PL
open PySem L2
/-! ## Plain laws of meanings: the pen -/
structure Good (n : Nat) (ps : Pn) : Prop where
  t0 : 0 ≤ ps.turn
  t1 : ps.turn ≤ n
  r0 : 0 ≤ ps.rest
theorem Good.mono {n m : Nat} {ps : Pn} (g : Good n ps) (h : n ≤ m) : Good m ps := ⟨g.t0, by have := g.t1; omega, g.r0⟩
theorem okDL_ints : ∀ (k : Nat) (ns : List Int), okDL k (ns.map D.int) = true
  | _, [] => by simp [okDL]
  | k, n :: ns => by simp [okDL, okD, okDL_ints k ns]
theorem atI_nat {α : Type} {xs : List α} {i : Nat} (h : i < xs.length) : atI xs (i : Int) = some xs[i] := by
  unfold atI ixN
  simp [h]
theorem atI_of {α : Type} {xs : List α} {i : Int} (h0 : 0 ≤ i) (h : i < xs.length) : ∃ x, atI xs i = some x ∧ x ∈ xs := by
  obtain ⟨k, rfl⟩ := Int.eq_ofNat_of_zero_le h0
  have hk : k < xs.length := by omega
  exact ⟨xs[k], atI_nat hk, List.getElem_mem hk⟩
theorem emod_nn (a : Int) {b : Int} (h : 0 < b) : 0 ≤ a % b ∧ a % b < b := ⟨Int.emod_nonneg a (by omega), Int.emod_lt_of_pos a h⟩
theorem sSeq_nx {a b : SM} {ρ ρ' : En} {ps ps' : Pn} (h : a ρ ps = .nx ρ' ps') : sSeq a b ρ ps = b ρ' ps' := by unfold sSeq; rw [h]
theorem sSeq_rt {a b : SM} {ρ : En} {ps ps' : Pn} {d : D} (h : a ρ ps = .rt d ps') : sSeq a b ρ ps = .rt d ps' := by unfold sSeq; rw [h]
theorem sSeq_bk {a b : SM} {ρ ρ' : En} {ps ps' : Pn} (h : a ρ ps = .bk ρ' ps') : sSeq a b ρ ps = .bk ρ' ps' := by unfold sSeq; rw [h]
theorem forL_nx {t : TM} {body : SM} {x : D} {r : List D} {ρ ρ1 ρ2 : En} {ps ps2 : Pn} (h1 : t x ρ = some ρ1) (h2 : body ρ1 ps = .nx ρ2 ps2) : forL t body (x :: r) ρ ps = forL t body r ρ2 ps2 := by
  show (match t x ρ with | none => SOut.stuck | some ρ1 => _) = _
  rw [h1]; dsimp only; rw [h2]
theorem forL_bk {t : TM} {body : SM} {x : D} {r : List D} {ρ ρ1 ρ2 : En} {ps ps2 : Pn} (h1 : t x ρ = some ρ1) (h2 : body ρ1 ps = .bk ρ2 ps2) : forL t body (x :: r) ρ ps = .nx ρ2 ps2 := by
  show (match t x ρ with | none => SOut.stuck | some ρ1 => _) = _
  rw [h1]; dsimp only; rw [h2]
theorem forL_rt {t : TM} {body : SM} {x : D} {r : List D} {ρ ρ1 : En} {ps ps2 : Pn} {d : D} (h1 : t x ρ = some ρ1) (h2 : body ρ1 ps = .rt d ps2) : forL t body (x :: r) ρ ps = .rt d ps2 := by
  show (match t x ρ with | none => SOut.stuck | some ρ1 => _) = _
  rw [h1]; dsimp only; rw [h2]
theorem runB0_rt {np nl : Nat} {m : SM} {ds : List D} {ρ : En} {ps ps' : Pn} {d : D} (h : ds.length = np) (e : ds.map Slot.v ++ List.replicate (nl - np) Slot.un = ρ) (hm : m ρ ps = .rt d ps') : runB0 np nl m ds ps = .ok d ps' := by
  unfold runB0
  rw [if_pos h, e, hm]
theorem runB0_nx {np nl : Nat} {m : SM} {ds : List D} {ρ ρ' : En} {ps ps' : Pn} (h : ds.length = np) (e : ds.map Slot.v ++ List.replicate (nl - np) Slot.un = ρ) (hm : m ρ ps = .nx ρ' ps') : runB0 np nl m ds ps = .ok .non ps' := by
  unfold runB0
  rw [if_pos h, e, hm]
theorem iRg1 {ml : EM (List D)} {ρ ρ' : En} {ps ps' : Pn} {n : Int} (h : ml ρ ps = .ok [.int n] ρ' ps') (hi : i62 n = true) : iRg ml ρ ps = .ok (rngL 0 n.toNat) ρ' ps' := by
  unfold iRg bindE
  rw [h]
  dsimp only
  rw [if_pos hi]
  rfl
theorem eCons_ok {a : EM D} {b : EM (List D)} {ρ ρ1 ρ2 : En} {ps ps1 ps2 : Pn} {x : D} {xs : List D} (h1 : a ρ ps = .ok x ρ1 ps1) (h2 : b ρ1 ps1 = .ok xs ρ2 ps2) : eCons a b ρ ps = .ok (x :: xs) ρ2 ps2 := by
  unfold eCons bindE
  rw [h1]; dsimp only; rw [h2]; rfl
theorem eNil_ok {ρ : En} {ps : Pn} : eNil ρ ps = .ok [] ρ ps := rfl
theorem eVar_ok {i : Nat} {d : D} {ρ : En} {ps : Pn} (h : ρ[i]? = some (.v d)) : eVar i ρ ps = .ok d ρ ps := by unfold eVar; rw [h]
theorem eC_ok {d : D} {ρ : En} {ps : Pn} : eC d ρ ps = .ok d ρ ps := rfl
theorem eCall_ok {f : FM} {ml : EM (List D)} {ρ ρ1 : En} {ps ps1 ps2 : Pn} {ds : List D} {d : D} (h1 : ml ρ ps = .ok ds ρ1 ps1) (h2 : f ds ps1 = .ok d ps2) : eCall f ml ρ ps = .ok d ρ1 ps2 := by
  unfold eCall bindE callE
  rw [h1]; dsimp only; rw [h2]
theorem eOp2_ok {f : D → D → Option D} {a b : EM D} {ρ ρ1 ρ2 : En} {ps ps1 ps2 : Pn} {x y z : D} (h1 : a ρ ps = .ok x ρ1 ps1) (h2 : b ρ1 ps1 = .ok y ρ2 ps2) (h3 : f x y = some z) : eOp2 f a b ρ ps = .ok z ρ2 ps2 := by
  unfold eOp2 bindE
  rw [h1]; dsimp only; rw [h2]; dsimp only; rw [h3]; rfl
theorem eOp1_ok {f : D → Option D} {a : EM D} {ρ ρ1 : En} {ps ps1 : Pn} {x z : D} (h1 : a ρ ps = .ok x ρ1 ps1) (h3 : f x = some z) : eOp1 f a ρ ps = .ok z ρ1 ps1 := by
  unfold eOp1 bindE
  rw [h1]; dsimp only; rw [h3]; rfl
theorem eOpN_ok {f : List D → Option D} {a : EM (List D)} {ρ ρ1 : En} {ps ps1 : Pn} {x : List D} {z : D} (h1 : a ρ ps = .ok x ρ1 ps1) (h3 : f x = some z) : eOpN f a ρ ps = .ok z ρ1 ps1 := by
  unfold eOpN bindE
  rw [h1]; dsimp only; rw [h3]; rfl
theorem eB_ok {a : EM D} {ρ ρ1 : En} {ps ps1 : Pn} {b : Bool} (h1 : a ρ ps = .ok (.bl b) ρ1 ps1) : eB a ρ ps = .ok b ρ1 ps1 := by
  unfold eB bindE
  rw [h1]; rfl
theorem eIdx_ok {a b : EM D} {ρ ρ1 ρ2 : En} {ps ps1 ps2 : Pn} {x y z : D} (h1 : a ρ ps = .ok x ρ1 ps1) (h2 : b ρ1 ps1 = .ok y ρ2 ps2) (hp : x ≠ .pen) (h3 : idxD x y = some z) : eIdx a b ρ ps = .ok z ρ2 ps2 := by
  unfold eIdx bindE
  rw [h1]; dsimp only; rw [h2]; dsimp only
  have : idxE x y = liftO (idxD x y) := by cases x <;> first | rfl | exact absurd rfl hp
  rw [this, h3]; rfl
theorem eFz_ok {m : EM (List D)} {ρ ρ1 : En} {ps ps1 : Pn} {xs : List D} (h : m ρ ps = .ok xs ρ1 ps1) : eFz m ρ ps = .ok (.lst xs) ρ1 ps1 := by
  unfold eFz bindE; rw [h]; rfl
theorem eLst_ok {m : EM (List D)} {ρ ρ1 : En} {ps ps1 : Pn} {xs : List D} (h : m ρ ps = .ok xs ρ1 ps1) (hz : xs.length ≤ sizeLine) : eLst m ρ ps = .ok xs ρ1 ps1 := by
  unfold eLst bindE szOk; rw [h]; dsimp only; rw [if_pos (decide_eq_true hz)]; rfl
theorem eTup_ok {m : EM (List D)} {ρ ρ1 : En} {ps ps1 : Pn} {xs : List D} (h : m ρ ps = .ok xs ρ1 ps1) (hz : xs.length ≤ sizeLine) : eTup m ρ ps = .ok (.tup xs) ρ1 ps1 := by
  unfold eTup bindE szOk; rw [h]; dsimp only; rw [if_pos (decide_eq_true hz)]; rfl
theorem eIf_t {t : EM Bool} {a b : EM D} {ρ ρ1 : En} {ps ps1 : Pn} (h : t ρ ps = .ok true ρ1 ps1) : eIf t a b ρ ps = a ρ1 ps1 := by
  unfold eIf bindE; rw [h]; rfl
theorem eIf_f {t : EM Bool} {a b : EM D} {ρ ρ1 : En} {ps ps1 : Pn} (h : t ρ ps = .ok false ρ1 ps1) : eIf t a b ρ ps = b ρ1 ps1 := by
  unfold eIf bindE; rw [h]; rfl
theorem sIf_t {t : EM Bool} {a b : SM} {ρ ρ1 : En} {ps ps1 : Pn} (h : t ρ ps = .ok true ρ1 ps1) : sIf t a b ρ ps = a ρ1 ps1 := by
  unfold sIf sBind; rw [h]; rfl
theorem sIf_f {t : EM Bool} {a b : SM} {ρ ρ1 : En} {ps ps1 : Pn} (h : t ρ ps = .ok false ρ1 ps1) : sIf t a b ρ ps = b ρ1 ps1 := by
  unfold sIf sBind; rw [h]; rfl
theorem sRet_ok {m : EM D} {ρ ρ1 : En} {ps ps1 : Pn} {d : D} (h : m ρ ps = .ok d ρ1 ps1) : sRet m ρ ps = .rt d ps1 := by
  unfold sRet sBind; rw [h]
theorem sDrop_ok {m : EM D} {ρ ρ1 : En} {ps ps1 : Pn} {d : D} (h : m ρ ps = .ok d ρ1 ps1) : sDrop m ρ ps = .nx ρ1 ps1 := by
  unfold sDrop sBind; rw [h]
theorem sAsg_ok {t : TM} {m : EM D} {ρ ρ1 ρ2 : En} {ps ps1 : Pn} {d : D} (h : m ρ ps = .ok d ρ1 ps1) (h2 : t d ρ1 = some ρ2) : sAsg t m ρ ps = .nx ρ2 ps1 := by
  unfold sAsg sBind; rw [h]; dsimp only; rw [h2]
theorem sFor_ok {mi : EM (List D)} {t : TM} {body : SM} {ρ ρ1 : En} {ps ps1 : Pn} {items : List D} (h : mi ρ ps = .ok items ρ1 ps1) : sFor mi t body ρ ps = forL t body items ρ1 ps1 := by
  unfold sFor sBind; rw [h]
theorem sOwnS_ok {i : Nat} {m : EM (List D)} {ρ ρ1 : En} {ps ps1 : Pn} {ds : List D} (h : m ρ ps = .ok ds ρ1 ps1) (hi : i < ρ1.length) : sOwnS i m ρ ps = .nx (ρ1.set i (.ol ds)) ps1 := by
  unfold sOwnS sBind; rw [h]; dsimp only; rw [if_pos hi]
theorem bAnd_t {a b : EM Bool} {ρ ρ1 : En} {ps ps1 : Pn} (h : a ρ ps = .ok true ρ1 ps1) : bAnd a b ρ ps = b ρ1 ps1 := by
  unfold bAnd bindE; rw [h]; rfl
theorem bAnd_f {a b : EM Bool} {ρ ρ1 : En} {ps ps1 : Pn} (h : a ρ ps = .ok false ρ1 ps1) : bAnd a b ρ ps = .ok false ρ1 ps1 := by
  unfold bAnd bindE; rw [h]; rfl
theorem bOr_t {a b : EM Bool} {ρ ρ1 : En} {ps ps1 : Pn} (h : a ρ ps = .ok true ρ1 ps1) : bOr a b ρ ps = .ok true ρ1 ps1 := by
  unfold bOr bindE; rw [h]; rfl
theorem bOr_f {a b : EM Bool} {ρ ρ1 : En} {ps ps1 : Pn} (h : a ρ ps = .ok false ρ1 ps1) : bOr a b ρ ps = b ρ1 ps1 := by
  unfold bOr bindE; rw [h]; rfl
theorem bNot_ok {a : EM Bool} {ρ ρ1 : En} {ps ps1 : Pn} {b : Bool} (h : a ρ ps = .ok b ρ1 ps1) : bNot a ρ ps = .ok (!b) ρ1 ps1 := by
  unfold bNot bindE; rw [h]; rfl
theorem eAnd_t {a b : EM D} {ρ ρ1 : En} {ps ps1 : Pn} (h : a ρ ps = .ok (.bl true) ρ1 ps1) : eAnd a b ρ ps = b ρ1 ps1 := by
  unfold eAnd bindE; rw [eB_ok h]; rfl
theorem eAnd_f {a b : EM D} {ρ ρ1 : En} {ps ps1 : Pn} (h : a ρ ps = .ok (.bl false) ρ1 ps1) : eAnd a b ρ ps = .ok (.bl false) ρ1 ps1 := by
  unfold eAnd bindE; rw [eB_ok h]; rfl
theorem eOr_t {a b : EM D} {ρ ρ1 : En} {ps ps1 : Pn} (h : a ρ ps = .ok (.bl true) ρ1 ps1) : eOr a b ρ ps = .ok (.bl true) ρ1 ps1 := by
  unfold eOr bindE; rw [eB_ok h]; rfl
theorem eOr_f {a b : EM D} {ρ ρ1 : En} {ps ps1 : Pn} (h : a ρ ps = .ok (.bl false) ρ1 ps1) : eOr a b ρ ps = b ρ1 ps1 := by
  unfold eOr bindE; rw [eB_ok h]; rfl
theorem eNot_ok {a : EM D} {ρ ρ1 : En} {ps ps1 : Pn} {b : Bool} (h : a ρ ps = .ok (.bl b) ρ1 ps1) : eNot a ρ ps = .ok (.bl (!b)) ρ1 ps1 := by
  unfold eNot bindE; rw [eB_ok h]; rfl
theorem fCat_ok {a b : EM D} {ρ ρ1 ρ2 : En} {ps ps1 ps2 : Pn} {xs ys : List D} (h1 : a ρ ps = .ok (.lst xs) ρ1 ps1) (h2 : b ρ1 ps1 = .ok (.lst ys) ρ2 ps2) (hz : xs.length + ys.length ≤ sizeLine) : fCat a b ρ ps = .ok (xs ++ ys) ρ2 ps2 := by
  unfold fCat bindE; rw [h1]; dsimp only; rw [h2]; dsimp only [lstO, Option.bind]; rw [if_pos hz]; rfl
theorem fRev_ok {a : EM D} {ρ ρ1 : En} {ps ps1 : Pn} {xs : List D} (h1 : a ρ ps = .ok (.lst xs) ρ1 ps1) : fRev a ρ ps = .ok xs.reverse ρ1 ps1 := by
  unfold fRev bindE; rw [h1]; rfl
theorem fList_ok {a : EM D} {ρ ρ1 : En} {ps ps1 : Pn} {x : D} {xs : List D} (h1 : a ρ ps = .ok x ρ1 ps1) (hs : seqO x = some xs) : fList (eCons a eNil) ρ ps = .ok xs ρ1 ps1 := by
  unfold fList bindE; rw [eCons_ok h1 eNil_ok]; dsimp only; rw [hs]; rfl
theorem iSq_ok {a : EM D} {ρ ρ1 : En} {ps ps1 : Pn} {x : D} {xs : List D} (h1 : a ρ ps = .ok x ρ1 ps1) (hs : seqO x = some xs) : iSq a ρ ps = .ok xs ρ1 ps1 := by
  unfold iSq bindE; rw [h1]; dsimp only; rw [hs]; rfl
theorem perm_out {α : Type} : ∀ {xs : List α} {k : Nat} (h : k < xs.length), (xs[k] :: xs.eraseIdx k).Perm xs
  | x :: xs, 0, _ => List.Perm.refl _
  | x :: xs, k + 1, h => by
    have h' : k < xs.length := by simpa using h
    exact (List.Perm.swap x xs[k] (xs.eraseIdx k)).trans ((perm_out h').cons x)
section
variable (A B C E : Int)
def dr0 : SM := sAsg (tName 2) (eOpN intD (eCons (eIdx (eVar 0) (eC (.int 2))) eNil))
def dr1 : SM := sPenS 0 2 (eOp2 fdivD (eVar 2) (eVar 1))
def dr2 : SM := sRet (eOp2 modD (eOpN intD (eCons (eVar 2) eNil)) (eVar 1))
def dr3 : SM := sAsg (tName 4) (eIdx (eIdx (eVar 0) (eC (.int 0))) (eOp2 modD (eOpN intD (eCons (eVar 3) eNil)) (eOpN lenD (eCons (eIdx (eVar 0) (eC (.int 0))) eNil))))
def dr4 : SM := sAsg (tName 2) (eOp2 addD (eOp2 mulD (eC (.int 2)) (eOp2 subD (eOpN absD (eCons (eVar 4) eNil)) (eOp2 powD (eC (.int 10)) (eC (.int 18))))) (eOpN intD (eCons (eOp2 ltD (eVar 4) (eC (.int 0))) eNil)))
def dr5 : SM := sPenS 0 2 (eOp2 fdivD (eOpN intD (eCons (eVar 2) eNil)) (eVar 1))
def dr6 : SM := sRet (eOp2 modD (eOpN intD (eCons (eVar 2) eNil)) (eVar 1))
def dr7 : SM := sIf (eB (eOp2 gtD (eIdx (eVar 0) (eC (.int 2))) (eC (.int 0)))) (sSeq (dr0) (sSeq (dr1) (dr2))) (sNil)
def dr8 : SM := sAsg (tName 3) (eIdx (eVar 0) (eC (.int 1)))
def dr9 : SM := sPenS 0 1 (eOp2 addD (eVar 3) (eC (.int 1)))
def dr10 : SM := sAsg (tName 4) (eOp2 addD (eOp2 mulD (eC (.int A)) (eVar 3)) (eC (.int B)))
def dr11 : SM := sIf (eB (eOp2 neD (eIdx (eVar 0) (eC (.int 0))) (eFz (eLst (eNil))))) (dr3) (sNil)
def dr12 : SM := sIf (bAnd (eB (eOp2 ltD (eVar 3) (eOpN lenD (eCons (eIdx (eVar 0) (eC (.int 0))) eNil)))) (eB (eOp2 geD (eOpN absD (eCons (eVar 4) eNil)) (eOp2 powD (eC (.int 10)) (eC (.int 18)))))) (sSeq (dr4) (sSeq (dr5) (dr6))) (sNil)
def dr13 : SM := sAsg (tName 5) (eOp2 modD (eOpN intD (eCons (eOp2 powD (eOp2 addD (eOp2 addD (eOp2 modD (eOpN intD (eCons (eVar 4) eNil)) (eC (.int 2147483549))) (eOp2 mulD (eC (.int A)) (eVar 3))) (eC (.int B))) (eC (.int 5))) eNil)) (eC (.int 2147483629)))
def dr14 : SM := sAsg (tName 5) (eOp2 modD (eOpN intD (eCons (eOp2 powD (eOp2 addD (eOp2 addD (eOp2 mulD (eVar 5) (eOp2 addD (eOp2 mulD (eC (.int 2)) (eVar 3)) (eC (.int C)))) (eOp2 mulD (eOp2 mulD (eC (.int E)) (eVar 3)) (eVar 3))) (eC (.int A))) (eC (.int 3))) eNil)) (eC (.int 2147483587)))
def dr15 : SM := sRet (eOp2 modD (eOpN intD (eCons (eOp2 fdivD (eVar 5) (eC (.int 64))) eNil)) (eVar 1))
def drM : SM := sSeq (dr7) (sSeq (dr8) (sSeq (dr9) (sSeq (dr10 A B) (sSeq (dr11) (sSeq (dr12) (sSeq (dr13 A B) (sSeq (dr14 A C E) (dr15))))))))
def drF : FM := runB0 2 6 (drM A B C E)
end
theorem i64_of {i : Int} (h0 : -(2 ^ 64) < i) (h : i < 2 ^ 64) : i64 i = true := by
  unfold i64; rw [Bool.and_eq_true]; exact ⟨decide_eq_true h0, decide_eq_true h⟩
theorem pow_eq {i j : Int} (h0 : 0 ≤ j) (h1 : j ≤ 1000000) (h2 : i.natAbs < 2 ^ 64) : powD (.int i) (.int j) = some (.int (i ^ j.toNat)) := by
  show (if 0 ≤ j ∧ j ≤ 1000000 ∧ i.natAbs < 2 ^ 64 then some (D.int (i ^ j.toNat)) else none) = _
  rw [if_pos ⟨h0, h1, h2⟩]
theorem draw_ok {A B C E : Int} (hA : 0 ≤ A ∧ A < 1000000) (hB : 0 ≤ B ∧ B < 1000000) (hC : 0 ≤ C ∧ C < 1000000) (hE : 0 ≤ E ∧ E < 1000000) {n : Nat} {ps : Pn} (g : Good n ps) (hn : n ≤ 1000000) {m : Int} (hm : 0 < m) (hm2 : m < 1073741824) :
    ∃ r ps', drF A B C E [.pen, .int m] ps = .ok (.int r) ps' ∧ 0 ≤ r ∧ r < m ∧ Good (n + 1) ps' := by
  obtain ⟨t0, t1, r0⟩ := g
  unfold drF runB0 drM
  rw [if_pos (show [D.pen, D.int m].length = 2 from rfl)]
  have e0 : ([D.pen, D.int m].map Slot.v ++ List.replicate (6 - 2) Slot.un) = [.v .pen, .v (.int m), .un, .un, .un, .un] := rfl
  rw [e0]
  by_cases hr : 0 < ps.rest
  · have e1 : dr7 [.v .pen, .v (.int m), .un, .un, .un, .un] ps = .rt (.int (ps.rest % m)) { ps with rest := ps.rest / m } := by
      simp [dr7, dr0, dr1, dr2, sSeq, sIf, sBind, eB, eOp2, eIdx, bindE, eVar, eC, pureE, idxE, penE, gtD, liftO, asB, hr, sAsg, tName, eOpN, eCons, eNil, intD, sPenS, sPen, fdivD, modD, sRet, hm, hm2]
    rw [sSeq_rt e1]
    exact ⟨ps.rest % m, { ps with rest := ps.rest / m }, rfl, (emod_nn _ hm).1, (emod_nn _ hm).2, ⟨t0, by show ps.turn ≤ _; omega, by show 0 ≤ ps.rest / m; exact Int.ediv_nonneg r0 (by omega)⟩⟩
  · have e1 : dr7 [.v .pen, .v (.int m), .un, .un, .un, .un] ps = .nx [.v .pen, .v (.int m), .un, .un, .un, .un] ps := by
      simp [dr7, dr0, dr1, dr2, sNil, sSeq, sIf, sBind, eB, eOp2, eIdx, bindE, eVar, eC, pureE, idxE, penE, gtD, liftO, asB, hr]
    rw [sSeq_nx e1]
    have e2 : dr8 [.v .pen, .v (.int m), .un, .un, .un, .un] ps = .nx [.v .pen, .v (.int m), .un, .v (.int ps.turn), .un, .un] ps := by
      simp [dr8, sAsg, sBind, eIdx, bindE, eVar, eC, pureE, idxE, penE, tName]
    rw [sSeq_nx e2]
    have e3 : dr9 [.v .pen, .v (.int m), .un, .v (.int ps.turn), .un, .un] ps = .nx [.v .pen, .v (.int m), .un, .v (.int ps.turn), .un, .un] { ps with turn := ps.turn + 1 } := by
      simp [dr9, sPenS, sPen, sBind, eOp2, addD, liftO, bindE, eVar, eC, pureE]
    rw [sSeq_nx e3]
    have e4 : dr10 A B [.v .pen, .v (.int m), .un, .v (.int ps.turn), .un, .un] { ps with turn := ps.turn + 1 } = .nx [.v .pen, .v (.int m), .un, .v (.int ps.turn), .v (.int (A * ps.turn + B)), .un] { ps with turn := ps.turn + 1 } := by
      have : i64 A = true := i64_of (by omega) (by omega)
      simp [dr10, sAsg, sBind, eOp2, addD, mulD, liftO, bindE, eVar, eC, pureE, tName, this]
    rw [sSeq_nx e4]
    -- the cell
    have e5 : ∃ cell : Int, dr11 [.v .pen, .v (.int m), .un, .v (.int ps.turn), .v (.int (A * ps.turn + B)), .un] { ps with turn := ps.turn + 1 } = .nx [.v .pen, .v (.int m), .un, .v (.int ps.turn), .v (.int cell), .un] { ps with turn := ps.turn + 1 } := by
      have ho : okD 60 (.lst (ps.cells.map D.int)) = true := by simp [okD, okDL_ints]
      have ho2 : okD 60 (.lst []) = true := by simp [okD, okDL]
      by_cases hc : ps.cells = []
      · refine ⟨A * ps.turn + B, ?_⟩
        simp [dr11, sIf, sBind, eB, eOp2, eIdx, bindE, eVar, eC, pureE, idxE, penE, liftO, asB, eFz, eLst, eNil, szOk, neD, scD, hc, ho2, eqv, eqvL, sNil]
      · have hl : (0 : Int) < ps.cells.length := by
          cases e : ps.cells with
          | nil => exact absurd e hc
          | cons a b => simp only [List.length_cons]; omega
        have hlN : 0 < ps.cells.length := by omega
        obtain ⟨x, ex, hx⟩ := atI_of (xs := ps.cells.map D.int) (i := ps.turn % (ps.cells.length : Int)) (emod_nn _ hl).1 (by rw [List.length_map]; exact (emod_nn _ hl).2)
        obtain ⟨cell, _, rfl⟩ := List.mem_map.mp hx
        refine ⟨cell, ?_⟩
        have hne : neD (.lst (ps.cells.map D.int)) (.lst []) = some (.bl true) := by
          unfold neD
          rw [if_neg (show ¬ scD (.lst (ps.cells.map D.int)) (.lst []) = true by simp [scD]), if_pos ⟨ho, ho2⟩]
          cases e : ps.cells with
          | nil => exact absurd e hc
          | cons a b => simp [eqv, eqvL]
        simp [dr11, dr3, sIf, sBind, eB, eOp2, eIdx, bindE, eVar, eC, pureE, idxE, penE, liftO, asB, eFz, eLst, eNil, szOk, hne, sAsg, eOpN, eCons, intD, lenD, modD, idxD, hl, hlN, ex, tName]
    obtain ⟨cell, e5⟩ := e5
    rw [sSeq_nx e5]
    have g1 : Good (n + 1) { ps with turn := ps.turn + 1 } := ⟨by show 0 ≤ ps.turn + 1; omega, by show ps.turn + 1 ≤ _; omega, r0⟩
    have h18 : powD (.int 10) (.int 18) = some (.int 1000000000000000000) := by simp [powD]
    by_cases hb : ps.turn < (ps.cells.length : Int) ∧ 1000000000000000000 ≤ (if cell < 0 then -cell else cell)
    · let rest : Int := 2 * ((if cell < 0 then -cell else cell) - 1000000000000000000) + (if cell < 0 then 1 else 0)
      have hr0 : 0 ≤ rest := by
        show 0 ≤ 2 * ((if cell < 0 then -cell else cell) - 1000000000000000000) + (if cell < 0 then 1 else 0)
        have := hb.2
        split <;> omega
      have e6 : dr12 [.v .pen, .v (.int m), .un, .v (.int ps.turn), .v (.int cell), .un] { ps with turn := ps.turn + 1 } = .rt (.int (rest % m)) { ps with turn := ps.turn + 1, rest := rest / m } := by
        have h64 : i64 2 = true := i64_of (by omega) (by omega)
        simp [dr12, dr4, dr5, dr6, bAnd, sSeq, sIf, sBind, eB, eOp2, eIdx, bindE, eVar, eC, pureE, idxE, penE, ltD, geD, liftO, asB, hb.1, hb.2, h18, sAsg, tName, eOpN, eCons, eNil, intD, absD, lenD, sPenS, sPen, fdivD, modD, addD, subD, mulD, h64, sRet, hm, hm2, rest]
      rw [sSeq_rt e6]
      exact ⟨rest % m, _, rfl, (emod_nn _ hm).1, (emod_nn _ hm).2, ⟨g1.t0, g1.t1, Int.ediv_nonneg hr0 (by omega)⟩⟩
    · have e6 : dr12 [.v .pen, .v (.int m), .un, .v (.int ps.turn), .v (.int cell), .un] { ps with turn := ps.turn + 1 } = .nx [.v .pen, .v (.int m), .un, .v (.int ps.turn), .v (.int cell), .un] { ps with turn := ps.turn + 1 } := by
        by_cases h1 : ps.turn < (ps.cells.length : Int)
        · have h2 : ¬ (1000000000000000000 ≤ (if cell < 0 then -cell else cell)) := fun z => hb ⟨h1, z⟩
          simp [dr12, bAnd, sIf, sBind, eB, eOp2, eIdx, bindE, eVar, eC, pureE, idxE, penE, ltD, geD, liftO, asB, h1, h2, h18, eOpN, eCons, eNil, absD, lenD, sNil]
        · simp [dr12, bAnd, sIf, sBind, eB, eOp2, eIdx, bindE, eVar, eC, pureE, idxE, penE, ltD, geD, liftO, asB, h1, eOpN, eCons, eNil, lenD, sNil]
      rw [sSeq_nx e6]
      have hp1 := emod_nn cell (show (0 : Int) < 2147483549 by omega)
      have hAt : 0 ≤ A * ps.turn ∧ A * ps.turn ≤ 1000000 * 1000000 := ⟨Int.mul_nonneg hA.1 t0, Int.mul_le_mul (by omega) (by omega) t0 (by omega)⟩
      obtain ⟨q1, e7, hq1⟩ : ∃ q1 : Int, dr13 A B [.v .pen, .v (.int m), .un, .v (.int ps.turn), .v (.int cell), .un] { ps with turn := ps.turn + 1 } = .nx [.v .pen, .v (.int m), .un, .v (.int ps.turn), .v (.int cell), .v (.int q1)] { ps with turn := ps.turn + 1 } ∧ 0 ≤ q1 ∧ q1 < 2147483629 := by
        refine ⟨(cell % 2147483549 + A * ps.turn + B) ^ 5 % 2147483629, ?_, emod_nn _ (by omega)⟩
        have h64 : i64 A = true := i64_of (by omega) (by omega)
        have hb : (cell % 2147483549 + A * ps.turn + B).natAbs < 2 ^ 64 := by omega
        have hpw : powD (.int (cell % 2147483549 + A * ps.turn + B)) (.int 5) = some (.int ((cell % 2147483549 + A * ps.turn + B) ^ 5)) := pow_eq (by omega) (by omega) hb
        simp [dr13, sAsg, sBind, eOp2, addD, mulD, modD, liftO, bindE, eVar, eC, pureE, tName, h64, eOpN, eCons, eNil, intD, hpw]
      rw [sSeq_nx e7]
      have hq2 : 0 ≤ 2 * ps.turn + C ∧ 2 * ps.turn + C ≤ 3000000 := by omega
      have hqm : 0 ≤ q1 * (2 * ps.turn + C) ∧ q1 * (2 * ps.turn + C) ≤ 2147483629 * 3000000 := ⟨Int.mul_nonneg hq1.1 hq2.1, Int.mul_le_mul (by omega) (by omega) hq2.1 (by omega)⟩
      have hE1 : 0 ≤ E * ps.turn ∧ E * ps.turn ≤ 1000000 * 1000000 := ⟨Int.mul_nonneg hE.1 t0, Int.mul_le_mul (by omega) (by omega) t0 (by omega)⟩
      have hE2 : 0 ≤ E * ps.turn * ps.turn ∧ E * ps.turn * ps.turn ≤ 1000000 * 1000000 * 1000000 := ⟨Int.mul_nonneg hE1.1 t0, Int.mul_le_mul hE1.2 (by omega) t0 (by omega)⟩
      obtain ⟨q2, e8, hq2'⟩ : ∃ q2 : Int, dr14 A C E [.v .pen, .v (.int m), .un, .v (.int ps.turn), .v (.int cell), .v (.int q1)] { ps with turn := ps.turn + 1 } = .nx [.v .pen, .v (.int m), .un, .v (.int ps.turn), .v (.int cell), .v (.int q2)] { ps with turn := ps.turn + 1 } ∧ 0 ≤ q2 ∧ q2 < 2147483587 := by
        refine ⟨(q1 * (2 * ps.turn + C) + E * ps.turn * ps.turn + A) ^ 3 % 2147483587, ?_, emod_nn _ (by omega)⟩
        have h64 : i64 2 = true := i64_of (by omega) (by omega)
        have h64b : i64 q1 = true := i64_of (by omega) (by omega)
        have h64c : i64 E = true := i64_of (by omega) (by omega)
        have h64d : i64 ps.turn = true := i64_of (by omega) (by omega)
        have hb : (q1 * (2 * ps.turn + C) + E * ps.turn * ps.turn + A).natAbs < 2 ^ 64 := by omega
        have hpw : powD (.int (q1 * (2 * ps.turn + C) + E * ps.turn * ps.turn + A)) (.int 3) = some (.int ((q1 * (2 * ps.turn + C) + E * ps.turn * ps.turn + A) ^ 3)) := pow_eq (by omega) (by omega) hb
        simp [dr14, sAsg, sBind, eOp2, addD, mulD, modD, liftO, bindE, eVar, eC, pureE, tName, h64, h64b, h64c, h64d, eOpN, eCons, eNil, intD, hpw]
      rw [sSeq_nx e8]
      have e9 : dr15 [.v .pen, .v (.int m), .un, .v (.int ps.turn), .v (.int cell), .v (.int q2)] { ps with turn := ps.turn + 1 } = .rt (.int (q2 / 64 % m)) { ps with turn := ps.turn + 1 } := by
        simp [dr15, sRet, sBind, eOp2, fdivD, modD, liftO, bindE, eVar, eC, pureE, eOpN, eCons, eNil, intD, hm]
      rw [e9]
      exact ⟨q2 / 64 % m, _, rfl, (emod_nn _ hm).1, (emod_nn _ hm).2, g1⟩
end PL

set_option maxHeartbeats 4000000
namespace PL
open PySem L2
/-! ## picks, lists in a drawn order -/
def DrawOk (fd : FM) : Prop := ∀ n ps, Good n ps → n ≤ 1000000 → ∀ m : Int, 0 < m → m < 1073741824 → ∃ r ps', fd [.pen, .int m] ps = .ok (.int r) ps' ∧ 0 ≤ r ∧ r < m ∧ Good (n + 1) ps'
def pickM (fd : FM) : SM := sRet (eIdx (eVar 1) (eCall fd (eCons (eVar 0) (eCons (eOpN lenD (eCons (eVar 1) eNil)) (eNil)))))
def pickF (fd : FM) : FM := runB0 2 2 (pickM fd)
theorem pick_ok {fd : FM} (hd : DrawOk fd) {n : Nat} {ps : Pn} (g : Good n ps) (hn : n ≤ 1000000) {xs : List D} (hx : xs ≠ []) (hl : xs.length < 1073741824) : ∃ x ps', pickF fd [.pen, .lst xs] ps = .ok x ps' ∧ x ∈ xs ∧ Good (n + 1) ps' := by
  have h0 : (0 : Int) < (xs.length : Int) := by
    cases e : xs with
    | nil => exact absurd e hx
    | cons a b => simp only [List.length_cons]; omega
  obtain ⟨r, ps', e1, r0, r1, g'⟩ := hd n ps g hn xs.length h0 (by omega)
  obtain ⟨x, ex, hm⟩ := atI_of (xs := xs) r0 r1
  refine ⟨x, ps', ?_, hm, g'⟩
  simp [pickF, pickM, runB0, sRet, sBind, eIdx, bindE, eVar, eCall, callE, eCons, eNil, pureE, eOpN, lenD, liftO, e1, idxE, idxD, ex]
@[simp] theorem isOwn_v (d : D) : isOwn (.v d) = false := rfl
@[simp] theorem isOwn_ol (xs : List D) : isOwn (.ol xs) = true := rfl
@[simp] theorem isOwn_un : isOwn .un = false := rfl
def mx0 (fd : FM) : SM := sApp 3 (ePopAt 2 (eCall fd (eCons (eVar 0) (eCons (eView [2, 3] (eOpN lenD (eCons (eVar 2) eNil))) (eNil)))))
def mx1 : SM := sPar2 2 3 (iO (fList (eCons (eVar 1) (eNil)))) (iO (eLst (eNil)))
def mx2 (fd : FM) : SM := sFor (iRg (eCons (eView [2, 3] (eOpN lenD (eCons (eVar 2) eNil))) (eNil))) (tName 4) (mx0 fd)
def mx3 : SM := sSeq (sFrz 3) (sRet (eVar 3))
def mixedM (fd : FM) : SM := sSeq (mx1) (sSeq (mx2 fd) (mx3))
def mixedF (fd : FM) : FM := runB0 2 5 (mixedM fd)
theorem szl {n : Nat} (h : n < 1000) : n < sizeLine := Nat.lt_of_lt_of_le h (by decide)
theorem szle {n : Nat} (h : n < 1000) : n ≤ sizeLine := Nat.le_of_lt (szl h)
theorem mx_step {fd : FM} (hd : DrawOk fd) {n : Nat} {ps : Pn} (g : Good n ps) (hn : n ≤ 1000000) {a : Slot} {left found : List D} {s4 : Slot} (ha : isOwn a = false) (h4 : isOwn s4 = false) (hx : left ≠ []) (hl : left.length < 1000) (hf : found.length < 1000) :
    ∃ (k : Nat) (hk : k < left.length) (ps' : Pn), mx0 fd [.v .pen, a, .ol left, .ol found, s4] ps = .nx [.v .pen, a, .ol (left.eraseIdx k), .ol (found ++ [left[k]]), s4] ps' ∧ Good (n + 1) ps' := by
  have h0 : (0 : Int) < (left.length : Int) := by
    cases e : left with
    | nil => exact absurd e hx
    | cons a b => simp only [List.length_cons]; omega
  obtain ⟨r, ps', e1, r0, r1, g'⟩ := hd n ps g hn left.length h0 (by omega)
  obtain ⟨k, rfl⟩ := Int.eq_ofNat_of_zero_le r0
  have hk : k < left.length := by omega
  refine ⟨k, hk, ps', ?_, g'⟩
  have hv : eView [2, 3] (eOpN lenD (eCons (eVar 2) eNil)) [.v .pen, a, .ol left, .ol found, s4] ps = .ok (.int left.length) [.v .pen, a, .ol left, .ol found, s4] ps := by
    simp [eView, frzL, frzS, ha, h4, eOpN, lenD, eCons, eNil, bindE, eVar, pureE, liftO, flatC]
  have hk6 : left.length ≤ 1000000 := by omega
  have hsz : found.length < sizeLine := szl hf
  unfold mx0
  revert hv
  generalize eView [2, 3] (eOpN lenD (eCons (eVar 2) eNil)) = V
  intro hv
  simp [sApp, isOl, sBind, ePopAt, bindE, eCall, eCons, eNil, eVar, pureE, hv, callE, e1, r1, hk6, hk, hsz]
theorem mx_loop {fd : FM} (hd : DrawOk fd) {a : Slot} (ha : isOwn a = false) : ∀ (items : List Int) (left found : List D) (s4 : Slot) (n : Nat) (ps : Pn), items.length = left.length → isOwn s4 = false → Good n ps → n + left.length ≤ 1000000 → left.length + found.length < 1000 →
    ∃ found' s4' ps', forL (tName 4) (mx0 fd) (items.map D.int) [.v .pen, a, .ol left, .ol found, s4] ps = .nx [.v .pen, a, .ol [], .ol found', s4'] ps' ∧ found'.Perm (found ++ left) ∧ Good (n + left.length) ps'
  | [], left, found, s4, n, ps, h, h4, g, hn, hl => by
    have : left = [] := by cases left with | nil => rfl | cons a b => simp at h
    subst this
    exact ⟨found, s4, ps, rfl, by simp, g⟩
  | i :: items, left, found, s4, n, ps, h, h4, g, hn, hl => by
    have hne : left ≠ [] := by intro z; subst z; simp at h
    have hl1 : 0 < left.length := List.length_pos_iff.mpr hne
    obtain ⟨k, hk, ps1, e1, g1⟩ := mx_step hd g (by omega) (a := a) (left := left) (found := found) (s4 := .v (.int i)) ha rfl hne (by omega) (by omega)
    have hlen : (left.eraseIdx k).length = left.length - 1 := List.length_eraseIdx_of_lt hk
    obtain ⟨found', s4', ps', e2, p2, g2⟩ := mx_loop hd ha items (left.eraseIdx k) (found ++ [left[k]]) (.v (.int i)) (n + 1) ps1 (by rw [hlen]; simp at h; omega) rfl g1 (by rw [hlen]; omega) (by rw [hlen, List.length_append, List.length_singleton]; omega)
    refine ⟨found', s4', ps', ?_, ?_, by rw [hlen] at g2; exact g2.mono (by omega)⟩
    · exact (forL_nx (ρ1 := [.v .pen, a, .ol left, .ol found, .v (.int i)]) rfl e1).trans e2
    · refine p2.trans ?_
      rw [List.append_assoc]
      refine List.Perm.append_left _ ?_
      exact perm_out hk
theorem i62_nat {n : Nat} (h : n < 1000000) : i62 (n : Int) = true := by
  unfold i62
  rw [Bool.and_eq_true]
  exact ⟨decide_eq_true (by omega), decide_eq_true (by omega)⟩
theorem rngL_ints (k : Nat) : rngL 0 k = ((List.range k).map fun (k : Nat) => (0 : Int) + k).map D.int := by unfold rngL; rw [List.map_map]; rfl
theorem szOk0 : szOk [] = true := by unfold szOk; exact decide_eq_true (Nat.zero_le _)
theorem mixed_run {fd : FM} {ps ps' : Pn} {xs ys : List D} {s4 : Slot} (hl : xs.length < 1000)
    (e2 : forL (tName 4) (mx0 fd) (rngL 0 xs.length) [.v .pen, .v (.lst xs), .ol xs, .ol [], .un] ps = .nx [.v .pen, .v (.lst xs), .ol [], .ol ys, s4] ps') : mixedF fd [.pen, .lst xs] ps = .ok (.lst ys) ps' := by
  have e1 : mx1 [.v .pen, .v (.lst xs), .un, .un, .un] ps = .nx [.v .pen, .v (.lst xs), .ol xs, .ol [], .un] ps := by
    have hs : szOk [] = true := szOk0
    simp [mx1, sPar2, sBind, iO, fList, bindE, eCons, eNil, eVar, pureE, liftO, seqO, eLst, hs, Itm.slot]
  have hv : eView [2, 3] (eOpN lenD (eCons (eVar 2) eNil)) [.v .pen, .v (.lst xs), .ol xs, .ol [], .un] ps = .ok (.int xs.length) [.v .pen, .v (.lst xs), .ol xs, .ol [], .un] ps := by
    simp [eView, frzL, frzS, eOpN, lenD, eCons, eNil, bindE, eVar, pureE, liftO, flatC]
  have hr := iRg1 (eCons_ok hv eNil_ok) (i62_nat (n := xs.length) (by omega))
  rw [Int.toNat_natCast] at hr
  have e3 : mx2 fd [.v .pen, .v (.lst xs), .ol xs, .ol [], .un] ps = .nx [.v .pen, .v (.lst xs), .ol [], .ol ys, s4] ps' := (sFor_ok hr).trans e2
  have e4 : mx3 [.v .pen, .v (.lst xs), .ol [], .ol ys, s4] ps' = .rt (.lst ys) ps' := by
    simp [mx3, sSeq, sFrz, sRet, sBind, eVar]
  exact runB0_rt rfl rfl ((sSeq_nx e1).trans ((sSeq_nx e3).trans e4))
theorem mixed_ok {fd : FM} (hd : DrawOk fd) {n : Nat} {ps : Pn} (g : Good n ps) {xs : List D} (hl : xs.length < 1000) (hn : n + xs.length ≤ 1000000) : ∃ ys ps', mixedF fd [.pen, .lst xs] ps = .ok (.lst ys) ps' ∧ ys.Perm xs ∧ Good (n + xs.length) ps' := by
  obtain ⟨ys, s4, ps', e2, p, g'⟩ := mx_loop hd (a := .v (.lst xs)) (isOwn_v _) ((List.range xs.length).map fun (k : Nat) => (0 : Int) + k) xs [] .un n ps (by rw [List.length_map, List.length_range]) rfl g hn (by rw [List.length_nil]; omega)
  rw [← rngL_ints] at e2
  exact ⟨ys, ps', mixed_run hl e2, by rw [List.nil_append] at p; exact p, g'⟩
end PL

set_option maxHeartbeats 4000000
namespace PL
open PySem L2
/-! ## words, rows of symbols, signs as data -/
abbrev Row := Str × List Str × Str
def dStrs (xs : List Str) : List D := xs.map .str
def dRow (r : Row) : D := .tup [.str r.1, .tup (dStrs r.2.1), .str r.2.2]
def unS : D → Str
  | .str s => s
  | _ => ⟨#[]⟩
def unSs : D → List Str
  | .tup xs => xs.map unS
  | _ => []
def unRow : D → Row
  | .tup [a, b, c] => (unS a, unSs b, unS c)
  | _ => (⟨#[]⟩, [], ⟨#[]⟩)
theorem unS_str (xs : List Str) : (dStrs xs).map unS = xs := by
  unfold dStrs
  rw [List.map_map]
  have : unS ∘ D.str = id := funext fun _ => rfl
  rw [this, List.map_id]
theorem unRow_row (r : Row) : unRow (dRow r) = r := by
  obtain ⟨a, b, c⟩ := r
  show (a, (dStrs b).map unS, c) = (a, b, c)
  rw [unS_str]
theorem perm_inv {α : Type} {f : α → D} {g : D → α} (h : ∀ a, g (f a) = a) {ys : List D} {xs : List α} (p : ys.Perm (xs.map f)) : ∃ zs : List α, ys = zs.map f ∧ zs.Perm xs := by
  refine ⟨ys.map g, ?_, ?_⟩
  · rw [List.map_map]
    have : ∀ y ∈ ys, (f ∘ g) y = y := fun y hy => by
      obtain ⟨a, _, rfl⟩ := List.mem_map.mp (p.mem_iff.mp hy)
      show f (g (f a)) = f a
      rw [h]
    exact (List.map_congr_left this |>.trans (List.map_id _)).symm
  · have := p.map g
    rw [List.map_map] at this
    have e : g ∘ f = id := funext h
    rw [e, List.map_id] at this
    exact this
structure Sg where
  sorts : List Str
  syms : List Row
def dSg (s : Sg) : D := .tup [.lst (dStrs s.sorts), .lst (s.syms.map dRow)]
def dMade (s : Sg) : D := .ins "Signs" ["sorts", "symbols", "known"] [.tup (dStrs s.sorts), .tup (s.syms.map dRow), .dic (s.syms.map fun r => .inr r.1) (s.syms.map dRow)]
/-- drawn signs: SO, NA are the names there are -/
structure SgOk (SO NA : List Str) (s : Sg) : Prop where
  so : ∀ x ∈ s.sorts, x ∈ SO
  snd : s.sorts.Nodup
  sne : s.sorts ≠ []
  slen : s.sorts.length ≤ 6
  nm : ∀ r ∈ s.syms, r.1 ∈ NA ∧ (∀ a ∈ r.2.1, a ∈ s.sorts) ∧ r.2.2 ∈ s.sorts ∧ r.2.1.length ≤ 3
  nnd : (s.syms.map (·.1)).Nodup
  nlen : s.syms.length ≤ 16
  loop : ∃ r ∈ s.syms, ∃ x, r.2 = ([x], x)
  con : ∀ x ∈ s.sorts, ∃ r ∈ s.syms, r.2 = ([], x)
theorem atI_map {α β : Type} {f : α → β} {xs : List α} {i : Int} {a : α} (h : atI xs i = some a) : atI (xs.map f) i = some (f a) := by
  unfold atI at h ⊢
  rw [List.length_map]
  cases e : ixN xs.length i with
  | none => rw [e] at h; cases h
  | some j =>
    rw [e] at h
    have h' : xs[j]? = some a := h
    show (xs.map f)[j]? = _
    rw [List.getElem?_map, h']; rfl
theorem atI_int {α : Type} {xs : List α} {i : Nat} {a : α} (h : xs[i]? = some a) : atI xs (i : Int) = some a := by
  have hi := (List.getElem?_eq_some_iff.mp h)
  obtain ⟨hl, e⟩ := hi
  rw [atI_nat hl, e]
theorem cut_take (xs : List D) {k : Nat} (h : k ≤ xs.length) : cutD xs none (some (k : Int)) = xs.take k := by
  unfold cutD
  rw [HT.sIx_none, HT.sIx_nat, List.drop_zero, Nat.sub_zero, Nat.min_eq_left h]
theorem cut_mid (xs : List D) {a b : Nat} (hab : a ≤ b) (h : a ≤ xs.length) : cutD xs (some (a : Int)) (some (b : Int)) = (xs.take b).drop a := by
  unfold cutD
  rw [HT.sIx_nat, HT.sIx_nat, Nat.min_eq_left h, List.drop_take]
  by_cases hb : b ≤ xs.length
  · rw [Nat.min_eq_left hb]
  · rw [Nat.min_eq_right (by omega)]
    have h1 : (xs.drop a).take (xs.length - a) = xs.drop a := List.take_of_length_le (by rw [List.length_drop]; exact Nat.le_refl _)
    have h2 : (xs.drop a).take (b - a) = xs.drop a := List.take_of_length_le (by rw [List.length_drop]; omega)
    rw [h1, h2]
theorem fSl_ok {m : EM D} {lo hi : EM (Option Int)} {ρ ρ1 ρ2 ρ3 : En} {ps ps1 ps2 ps3 : Pn} {xs : List D} {l h : Option Int} (h1 : m ρ ps = .ok (.lst xs) ρ1 ps1) (h2 : lo ρ1 ps1 = .ok l ρ2 ps2) (h3 : hi ρ2 ps2 = .ok h ρ3 ps3) : fSl m lo hi ρ ps = .ok (cutD xs l h) ρ3 ps3 := by
  unfold fSl bindE
  rw [h1]; dsimp only; rw [h2]; dsimp only; rw [h3]; rfl
theorem oSome_ok {m : EM D} {ρ ρ1 : En} {ps ps1 : Pn} {i : Int} (h1 : m ρ ps = .ok (.int i) ρ1 ps1) : oSome m ρ ps = .ok (some i) ρ1 ps1 := by
  unfold oSome bindE
  rw [h1]; rfl
/-- [elt for t in items], each elt drawn: the block's slots are wiped behind each -/
theorem compL_run {t : TM} {own : List Nat} {elt : EM D} {ρ0 : En} (P : D → Prop) (hz : ∀ n : Nat, n < 1000 → n < sizeLine) :
    ∀ (items : List D) (acc : List D) (n : Nat) (ps : Pn), Good n ps → n + items.length ≤ 1000000 → acc.length + items.length < 1000 →
      (∀ x ∈ items, ∀ (k : Nat) (ps : Pn), Good k ps → k ≤ 1000000 → ∃ ρ1 d ρ2 ps2, t x ρ0 = some ρ1 ∧ elt ρ1 ps = .ok d ρ2 ps2 ∧ wipeE ρ2 own = ρ0 ∧ P d ∧ Good (k + 1) ps2) →
      ∃ ds ps', compL t own tYesE elt items acc ρ0 ps = .ok (acc ++ ds) ρ0 ps' ∧ ds.length = items.length ∧ (∀ d ∈ ds, P d) ∧ Good (n + items.length) ps'
  | [], acc, n, ps, g, _, _, _ => ⟨[], ps, by simp [compL, pureE], rfl, by simp, g⟩
  | x :: items, acc, n, ps, g, hn, ha, h => by
    rw [List.length_cons] at hn ha
    obtain ⟨ρ1, d, ρ2, ps2, e1, e2, e3, hp, g2⟩ := h x (List.mem_cons_self ..) n ps g (by omega)
    obtain ⟨ds, ps', e4, e5, e6, g'⟩ := compL_run P hz items (acc ++ [d]) (n + 1) ps2 g2 (by omega) (by rw [List.length_append, List.length_singleton]; omega) fun y hy => h y (List.mem_cons_of_mem _ hy)
    refine ⟨d :: ds, ps', ?_, by rw [List.length_cons, List.length_cons, e5], ?_, by rw [List.length_cons]; exact g'.mono (by omega)⟩
    · show (match t x ρ0 with | none => Out.stuck | some ρ1 => _) = _
      rw [e1]
      have ty : tYesE ρ1 ps = .ok true ρ1 ps := rfl
      dsimp only
      rw [ty]
      dsimp only
      rw [e2]
      dsimp only
      rw [if_pos (hz acc.length (by omega)), e3, e4, List.append_assoc]
      rfl
    · intro y hy
      rcases List.mem_cons.mp hy with rfl | hy
      · exact hp
      · exact e6 y hy
theorem fComp_run {mi : EM (List D)} {t : TM} {own : List Nat} {test : EM Bool} {elt : EM D} {ρ ρ1 ρ2 ρ3 : En} {ps ps1 ps2 : Pn} {items ds : List D} (h1 : mi ρ ps = .ok items ρ1 ps1) (h2 : own.all (fun i => decide (i < ρ1.length) && !isOwn (ρ1.getD i .un)) = true)
    (h3 : compL t own test elt items [] (wipeE ρ1 own) ps1 = .ok ds ρ2 ps2) (h4 : backE ρ1 own ρ2 = ρ3) : fComp mi t own test elt ρ ps = .ok ds ρ3 ps2 := by
  unfold fComp bindE
  rw [h1]
  show (if _ then _ else _) = _
  rw [if_pos h2, h3]
  show Out.ok ds (backE ρ1 own ρ2) ps2 = _
  rw [h4]
/-- one step of a block in which nothing is drawn: some d: an element; none: passed over -/
def StepC (t : TM) (own : List Nat) (test : EM Bool) (elt : EM D) (ρ0 : En) (ps : Pn) (x : D) : Option D → Prop
  | none => ∃ ρ1 ρ2, t x ρ0 = some ρ1 ∧ test ρ1 ps = .ok false ρ2 ps ∧ wipeE ρ2 own = ρ0
  | some d => ∃ ρ1 ρ2 ρ3, t x ρ0 = some ρ1 ∧ test ρ1 ps = .ok true ρ2 ps ∧ elt ρ2 ps = .ok d ρ3 ps ∧ wipeE ρ3 own = ρ0
theorem compL_pure {t : TM} {own : List Nat} {test : EM Bool} {elt : EM D} {ρ0 : En} {ps : Pn} (f : D → Option D) :
    ∀ (items acc : List D), acc.length + items.length < 1000 → (∀ x ∈ items, StepC t own test elt ρ0 ps x (f x)) → compL t own test elt items acc ρ0 ps = .ok (acc ++ items.filterMap f) ρ0 ps
  | [], acc, _, _ => by simp [compL, pureE]
  | x :: items, acc, ha, h => by
    rw [List.length_cons] at ha
    have hx := h x (List.mem_cons_self ..)
    have hr : ∀ y ∈ items, StepC t own test elt ρ0 ps y (f y) := fun y hy => h y (List.mem_cons_of_mem _ hy)
    show (match t x ρ0 with | none => Out.stuck | some ρ1 => _) = _
    cases e : f x with
    | none =>
      rw [e] at hx
      obtain ⟨ρ1, ρ2, e1, e2, e3⟩ := hx
      rw [e1]; dsimp only; rw [e2]; dsimp only
      rw [e3, compL_pure f items acc (by omega) hr, List.filterMap_cons_none e]
    | some d =>
      rw [e] at hx
      obtain ⟨ρ1, ρ2, ρ3, e1, e2, e3, e4⟩ := hx
      rw [e1]; dsimp only; rw [e2]; dsimp only; rw [e3]; dsimp only
      rw [if_pos (szl (by omega)), e4, compL_pure f items (acc ++ [d]) (by rw [List.length_append, List.length_singleton]; omega) hr, List.filterMap_cons_some e, List.append_assoc]
      rfl
theorem sApp_ok {i : Nat} {m : EM D} {ρ ρ1 : En} {ps ps1 : Pn} {xs0 xs : List D} {d : D} (h0 : ρ[i]? = some (.ol xs0)) (h : m ρ ps = .ok d ρ1 ps1) (h1 : ρ1[i]? = some (.ol xs)) (hz : xs.length < 1000) : sApp i m ρ ps = .nx (ρ1.set i (.ol (xs ++ [d]))) ps1 := by
  unfold sApp isOl sBind
  rw [h0]; dsimp only; rw [if_pos rfl, h]; dsimp only; rw [h1]; dsimp only; rw [if_pos (szl hz)]

theorem eAnd_go {a b : EM D} {ρ ρ1 ρ2 : En} {ps ps1 ps2 : Pn} {d : D} (h : a ρ ps = .ok (.bl true) ρ1 ps1) (h2 : b ρ1 ps1 = .ok d ρ2 ps2) : eAnd a b ρ ps = .ok d ρ2 ps2 := (eAnd_t h).trans h2
theorem eOr_go {a b : EM D} {ρ ρ1 ρ2 : En} {ps ps1 ps2 : Pn} {d : D} (h : a ρ ps = .ok (.bl false) ρ1 ps1) (h2 : b ρ1 ps1 = .ok d ρ2 ps2) : eOr a b ρ ps = .ok d ρ2 ps2 := (eOr_f h).trans h2
theorem bAnd_go {a b : EM Bool} {ρ ρ1 ρ2 : En} {ps ps1 ps2 : Pn} {d : Bool} (h : a ρ ps = .ok true ρ1 ps1) (h2 : b ρ1 ps1 = .ok d ρ2 ps2) : bAnd a b ρ ps = .ok d ρ2 ps2 := (bAnd_t h).trans h2
theorem bOr_go {a b : EM Bool} {ρ ρ1 ρ2 : En} {ps ps1 ps2 : Pn} {d : Bool} (h : a ρ ps = .ok false ρ1 ps1) (h2 : b ρ1 ps1 = .ok d ρ2 ps2) : bOr a b ρ ps = .ok d ρ2 ps2 := (bOr_f h).trans h2
theorem eIf_T {t : EM Bool} {a b : EM D} {ρ ρ1 ρ2 : En} {ps ps1 ps2 : Pn} {d : D} (h : t ρ ps = .ok true ρ1 ps1) (h2 : a ρ1 ps1 = .ok d ρ2 ps2) : eIf t a b ρ ps = .ok d ρ2 ps2 := (eIf_t h).trans h2
theorem eIf_F {t : EM Bool} {a b : EM D} {ρ ρ1 ρ2 : En} {ps ps1 ps2 : Pn} {d : D} (h : t ρ ps = .ok false ρ1 ps1) (h2 : b ρ1 ps1 = .ok d ρ2 ps2) : eIf t a b ρ ps = .ok d ρ2 ps2 := (eIf_f h).trans h2
theorem sIf_T {t : EM Bool} {a b : SM} {ρ ρ1 : En} {ps ps1 : Pn} {o : SOut} (h : t ρ ps = .ok true ρ1 ps1) (h2 : a ρ1 ps1 = o) : sIf t a b ρ ps = o := (sIf_t h).trans h2
theorem sIf_F {t : EM Bool} {a b : SM} {ρ ρ1 : En} {ps ps1 : Pn} {o : SOut} (h : t ρ ps = .ok false ρ1 ps1) (h2 : b ρ1 ps1 = o) : sIf t a b ρ ps = o := (sIf_f h).trans h2
theorem sSeq_go {a b : SM} {ρ ρ' : En} {ps ps' : Pn} {o : SOut} (h : a ρ ps = .nx ρ' ps') (h2 : b ρ' ps' = o) : sSeq a b ρ ps = o := (sSeq_nx h).trans h2
theorem eStar_ok {a : EM D} {b : EM (List D)} {ρ ρ1 ρ2 : En} {ps ps1 ps2 : Pn} {x : D} {xs ys : List D} (h1 : a ρ ps = .ok x ρ1 ps1) (hs : seqO x = some xs) (h2 : b ρ1 ps1 = .ok ys ρ2 ps2) : eStar a b ρ ps = .ok (xs ++ ys) ρ2 ps2 := by
  unfold eStar bindE
  rw [h1]; dsimp only; rw [hs]
  dsimp only [liftO, pureE]
  rw [h2]
theorem eChain_ok {f g : D → D → Option D} {a b d : EM D} {ρ ρ1 ρ2 ρ3 : En} {ps ps1 ps2 ps3 : Pn} {x y z w : D} (h1 : a ρ ps = .ok x ρ1 ps1) (h2 : b ρ1 ps1 = .ok y ρ2 ps2) (hf : f x y = some (.bl true)) (h3 : d ρ2 ps2 = .ok z ρ3 ps3) (hg : g y z = some w) : eChain f g a b d ρ ps = .ok w ρ3 ps3 := by
  unfold eChain bindE
  rw [h1]; dsimp only; rw [h2]; dsimp only; rw [hf]
  dsimp only [Option.bind, asB, liftO, pureE]
  rw [if_pos rfl, h3]
  dsimp only
  rw [hg]
  rfl

theorem compL_t {t : TM} {own : List Nat} {test : EM Bool} {elt : EM D} {x : D} {r acc : List D} {ρ0 ρ1 ρ2 ρ3 : En} {ps ps2 ps3 : Pn} {d : D} (h1 : t x ρ0 = some ρ1) (h2 : test ρ1 ps = .ok true ρ2 ps2) (h3 : elt ρ2 ps2 = .ok d ρ3 ps3) (hz : acc.length < 1000) : compL t own test elt (x :: r) acc ρ0 ps = compL t own test elt r (acc ++ [d]) (wipeE ρ3 own) ps3 := by
  show (match t x ρ0 with | none => Out.stuck | some ρ1 => _) = _
  rw [h1]; dsimp only; rw [h2]; dsimp only; rw [h3]; dsimp only
  rw [if_pos (szl hz)]
theorem compL_f {t : TM} {own : List Nat} {test : EM Bool} {elt : EM D} {x : D} {r acc : List D} {ρ0 ρ1 ρ2 : En} {ps ps2 : Pn} (h1 : t x ρ0 = some ρ1) (h2 : test ρ1 ps = .ok false ρ2 ps2) : compL t own test elt (x :: r) acc ρ0 ps = compL t own test elt r acc (wipeE ρ2 own) ps2 := by
  show (match t x ρ0 with | none => Out.stuck | some ρ1 => _) = _
  rw [h1]; dsimp only; rw [h2]
theorem sFldS_ok {i : Nat} {cn f : Str} {m : EM D} {ρ ρ1 : En} {ps ps1 : Pn} {d : D} {ns : List Str} {xs : List D} (h : m ρ ps = .ok d ρ1 ps1) (h1 : ρ1[i]? = some (.oi cn ns xs)) (hl : ns.length < 100) : sFldS i cn f m ρ ps = .nx (ρ1.set i (.oi cn (putN f ns) (putX f d ns xs))) ps1 := by
  unfold sFldS sBind
  rw [h]; dsimp only; rw [h1]; dsimp only; rw [if_pos ⟨rfl, hl⟩]
theorem eOfld_ok {i : Nat} {cn f : Str} {ρ : En} {ps : Pn} {d : D} {ns : List Str} {xs : List D} (h1 : ρ[i]? = some (.oi cn ns xs)) (h2 : lookF ns xs f = some d) : eOfld i cn f ρ ps = .ok d ρ ps := by
  unfold eOfld
  rw [h1]; dsimp only; rw [if_pos rfl, h2]
theorem runI0_nx {cn : Str} {np nl : Nat} {m : SM} {ds : List D} {ρ ρ' : En} {ps ps' : Pn} {ns : List Str} {xs : List D} (h : ds.length = np) (e : Slot.oi cn [] [] :: (ds.map Slot.v ++ List.replicate (nl - np) Slot.un) = ρ) (hm : m ρ ps = .nx ρ' ps') (h0 : ρ'[0]? = some (.oi cn ns xs)) : runI0 cn np nl m ds ps = .ok ns xs ps' := by
  unfold runI0
  rw [if_pos h, e, hm]; dsimp only; rw [h0]; dsimp only; rw [if_pos rfl]
theorem eMake_ok {cn : Str} {f : IM} {ml : EM (List D)} {ρ ρ1 : En} {ps ps1 ps2 : Pn} {ds : List D} {ns : List Str} {xs : List D} (h : ml ρ ps = .ok ds ρ1 ps1) (h2 : f ds ps1 = .ok ns xs ps2) : eMake cn f ml ρ ps = .ok (.ins cn ns xs) ρ1 ps2 := by
  unfold eMake bindE makeE
  rw [h]; dsimp only; rw [h2]
end PL

set_option Elab.async false
set_option linter.all false
set_option maxRecDepth 100000
set_option maxHeartbeats 4000000
namespace K05
open PySem L2 PL

/-! the text by places -/
def top (i : Nat) : Stmt := PySem.Challenge.pw_leanrules_k05_books_keep_what_they_are_t.main.body.getD i (.Pass ⟨0, 0, 0, 0⟩)
abbrev s_is_listed : Stmt := top 8
abbrev s_is_row : Stmt := top 9
abbrev s_is_name : Stmt := top 10
abbrev s_are_names : Stmt := top 11
abbrev s_fixed : Stmt := top 13
abbrev s_is_symbol : Stmt := top 18
abbrev s_are_symbols : Stmt := top 19
abbrev s_Signs_need_symbol : Stmt := inClass (top 20) 2
abbrev s_Signs_arguments : Stmt := inClass (top 20) 3
abbrev s_Signs_sort_of : Stmt := inClass (top 20) 4
abbrev s_Signs___init__ : Stmt := inClass (top 20) 0
abbrev s_Signs___eq__ : Stmt := inClass (top 20) 1
abbrev s_need_signs : Stmt := top 21
abbrev s_is_variable : Stmt := top 23
abbrev s_arity : Stmt := top 24
abbrev s_fits : Stmt := top 25
abbrev s_is_told : Stmt := top 26
abbrev s_is_pattern : Stmt := top 27
abbrev s_variables_of : Stmt := top 31
abbrev s_sorts_in : Stmt := top 32
abbrev s_is_flat : Stmt := top 33
abbrev s_sort_reason : Stmt := top 34
abbrev s_rule_reason : Stmt := top 35
abbrev s_Book___init__ : Stmt := inClass (top 36) 0
abbrev s_Book___eq__ : Stmt := inClass (top 36) 1
abbrev s_Book_left : Stmt := inClass (top 36) 2
abbrev s_Book_right : Stmt := inClass (top 36) 3
abbrev s__law_draw : Stmt := top 39
abbrev s__law_pick : Stmt := top 40
abbrev s__law_mixed : Stmt := top 41
abbrev s__law_signs : Stmt := top 42
abbrev s__law_symbol : Stmt := top 43
abbrev s__law_left : Stmt := top 44
abbrev s__law_right : Stmt := top 45
abbrev s__law_rules : Stmt := top 46
abbrev s__law_made : Stmt := top 47
abbrev s__law_lists : Stmt := top 48
theorem sc_is_listed : FnScope ["value"] ["value"] (defScope s_is_listed) := ⟨rfl, rfl, rfl, by decide +kernel, rfl, by decide +kernel, by decide +kernel⟩
theorem sc_is_row : FnScope ["value", "many"] ["value", "many"] (defScope s_is_row) := ⟨rfl, rfl, rfl, by decide +kernel, rfl, by decide +kernel, by decide +kernel⟩
theorem sc_is_name : FnScope ["value", "sign"] ["value"] (defScope s_is_name) := ⟨rfl, rfl, rfl, by decide +kernel, rfl, by decide +kernel, by decide +kernel⟩
theorem sc_are_names : FnScope ["value", "most", "name"] ["value", "most"] (defScope s_are_names) := ⟨rfl, rfl, rfl, by decide +kernel, rfl, by decide +kernel, by decide +kernel⟩
theorem sc_fixed : FnScope ["value", "part"] ["value"] (defScope s_fixed) := ⟨rfl, rfl, rfl, by decide +kernel, rfl, by decide +kernel, by decide +kernel⟩
theorem sc_is_symbol : FnScope ["value", "sorts", "each"] ["value", "sorts"] (defScope s_is_symbol) := ⟨rfl, rfl, rfl, by decide +kernel, rfl, by decide +kernel, by decide +kernel⟩
theorem sc_are_symbols : FnScope ["value", "sorts", "row"] ["value", "sorts"] (defScope s_are_symbols) := ⟨rfl, rfl, rfl, by decide +kernel, rfl, by decide +kernel, by decide +kernel⟩
theorem sc_Signs_need_symbol : FnScope ["self", "name"] ["self", "name"] (defScope s_Signs_need_symbol) := ⟨rfl, rfl, rfl, by decide +kernel, rfl, by decide +kernel, by decide +kernel⟩
theorem sc_Signs_arguments : FnScope ["self", "name"] ["self", "name"] (defScope s_Signs_arguments) := ⟨rfl, rfl, rfl, by decide +kernel, rfl, by decide +kernel, by decide +kernel⟩
theorem sc_Signs_sort_of : FnScope ["self", "name"] ["self", "name"] (defScope s_Signs_sort_of) := ⟨rfl, rfl, rfl, by decide +kernel, rfl, by decide +kernel, by decide +kernel⟩
theorem sc_Signs___init__ : FnScope ["self", "sorts", "symbols", "row"] ["self", "sorts", "symbols"] (defScope s_Signs___init__) := ⟨rfl, rfl, rfl, by decide +kernel, rfl, by decide +kernel, by decide +kernel⟩
theorem sc_Signs___eq__ : FnScope ["self", "other"] ["self", "other"] (defScope s_Signs___eq__) := ⟨rfl, rfl, rfl, by decide +kernel, rfl, by decide +kernel, by decide +kernel⟩
theorem sc_need_signs : FnScope ["value"] ["value"] (defScope s_need_signs) := ⟨rfl, rfl, rfl, by decide +kernel, rfl, by decide +kernel, by decide +kernel⟩
theorem sc_is_variable : FnScope ["word"] ["word"] (defScope s_is_variable) := ⟨rfl, rfl, rfl, by decide +kernel, rfl, by decide +kernel, by decide +kernel⟩
theorem sc_arity : FnScope ["signs", "word"] ["signs", "word"] (defScope s_arity) := ⟨rfl, rfl, rfl, by decide +kernel, rfl, by decide +kernel, by decide +kernel⟩
theorem sc_fits : FnScope ["signs", "word", "sort", "is_leaf"] ["signs", "word", "sort", "is_leaf"] (defScope s_fits) := ⟨rfl, rfl, rfl, by decide +kernel, rfl, by decide +kernel, by decide +kernel⟩
theorem sc_is_told : FnScope ["signs", "value", "sort", "is_leaf", "wanted", "word"] ["signs", "value", "sort", "is_leaf"] (defScope s_is_told) := ⟨rfl, rfl, rfl, by decide +kernel, rfl, by decide +kernel, by decide +kernel⟩
theorem sc_is_pattern : FnScope ["signs", "value"] ["signs", "value"] (defScope s_is_pattern) := ⟨rfl, rfl, rfl, by decide +kernel, rfl, by decide +kernel, by decide +kernel⟩
theorem sc_variables_of : FnScope ["row", "word"] ["row"] (defScope s_variables_of) := ⟨rfl, rfl, rfl, by decide +kernel, rfl, by decide +kernel, by decide +kernel⟩
theorem sc_sorts_in : FnScope ["signs", "row", "found", "wanted", "word", "sort"] ["signs", "row"] (defScope s_sorts_in) := ⟨rfl, rfl, rfl, by decide +kernel, rfl, by decide +kernel, by decide +kernel⟩
theorem sc_is_flat : FnScope ["signs", "row", "word"] ["signs", "row"] (defScope s_is_flat) := ⟨rfl, rfl, rfl, by decide +kernel, rfl, by decide +kernel, by decide +kernel⟩
theorem sc_sort_reason : FnScope ["signs", "left", "right", "sorts", "wanted", "name"] ["signs", "left", "right"] (defScope s_sort_reason) := ⟨rfl, rfl, rfl, by decide +kernel, rfl, by decide +kernel, by decide +kernel⟩
theorem sc_rule_reason : FnScope ["signs", "row", "names", "mine", "its", "name", "some", "is_grown"] ["signs", "row", "names"] (defScope s_rule_reason) := ⟨rfl, rfl, rfl, by decide +kernel, rfl, by decide +kernel, by decide +kernel⟩
theorem sc_Book___init__ : FnScope ["self", "signs", "rules", "names", "index", "row", "reason"] ["self", "signs", "rules"] (defScope s_Book___init__) := ⟨rfl, rfl, rfl, by decide +kernel, rfl, by decide +kernel, by decide +kernel⟩
theorem sc_Book___eq__ : FnScope ["self", "other"] ["self", "other"] (defScope s_Book___eq__) := ⟨rfl, rfl, rfl, by decide +kernel, rfl, by decide +kernel, by decide +kernel⟩
theorem sc_Book_left : FnScope ["self", "index"] ["self", "index"] (defScope s_Book_left) := ⟨rfl, rfl, rfl, by decide +kernel, rfl, by decide +kernel, by decide +kernel⟩
theorem sc_Book_right : FnScope ["self", "index"] ["self", "index"] (defScope s_Book_right) := ⟨rfl, rfl, rfl, by decide +kernel, rfl, by decide +kernel, by decide +kernel⟩
theorem sc__law_draw : FnScope ["pen", "many", "rest", "turn", "cell", "mixed"] ["pen", "many"] (defScope s__law_draw) := ⟨rfl, rfl, rfl, by decide +kernel, rfl, by decide +kernel, by decide +kernel⟩
theorem sc__law_pick : FnScope ["pen", "some"] ["pen", "some"] (defScope s__law_pick) := ⟨rfl, rfl, rfl, by decide +kernel, rfl, by decide +kernel, by decide +kernel⟩
theorem sc__law_mixed : FnScope ["pen", "some", "left", "found", "turn"] ["pen", "some"] (defScope s__law_mixed) := ⟨rfl, rfl, rfl, by decide +kernel, rfl, by decide +kernel, by decide +kernel⟩
theorem sc__law_signs : FnScope ["pen", "sorts", "names", "symbols", "at", "sort", "name", "wide", "turn"] ["pen"] (defScope s__law_signs) := ⟨rfl, rfl, rfl, by decide +kernel, rfl, by decide +kernel, by decide +kernel⟩
theorem sc__law_symbol : FnScope ["signs", "word", "row"] ["signs", "word"] (defScope s__law_symbol) := ⟨rfl, rfl, rfl, by decide +kernel, rfl, by decide +kernel, by decide +kernel⟩
theorem sc__law_left : FnScope ["pen", "signs", "many", "first", "row", "held", "wanted", "names", "turn", "here", "some", "name", "sorts", "its"] ["pen", "signs", "many"] (defScope s__law_left) := ⟨rfl, rfl, rfl, by decide +kernel, rfl, by decide +kernel, by decide +kernel⟩
theorem sc__law_right : FnScope ["pen", "signs", "left", "held", "sort", "some", "name", "its", "sorts", "wide", "row", "used", "found", "mine", "of", "fixed_v"] ["pen", "signs", "left", "held"] (defScope s__law_right) := ⟨rfl, rfl, rfl, by decide +kernel, rfl, by decide +kernel, by decide +kernel⟩
theorem sc__law_rules : FnScope ["pen", "signs", "many", "words", "found", "turn", "left", "held", "right"] ["pen", "signs", "many", "words"] (defScope s__law_rules) := ⟨rfl, rfl, rfl, by decide +kernel, rfl, by decide +kernel, by decide +kernel⟩
theorem sc__law_made : FnScope ["signs"] ["signs"] (defScope s__law_made) := ⟨rfl, rfl, rfl, by decide +kernel, rfl, by decide +kernel, by decide +kernel⟩
theorem sc__law_lists : FnScope ["value", "one"] ["value"] (defScope s__law_lists) := ⟨rfl, rfl, rfl, by decide +kernel, rfl, by decide +kernel, by decide +kernel⟩
abbrev s_law : Stmt := top 49
abbrev s__law_pen : Stmt := top 38
theorem sc_law : FnScope ["script", "pen", "turn", "signs", "rules", "made", "told", "book", "other", "row", "index", "name", "left", "right", "at", "names", "word", "some", "others", "changed", "more"] ["script"] (defScope s_law) := ⟨rfl, rfl, rfl, by decide +kernel, rfl, by decide +kernel, by decide +kernel⟩
theorem sc__law_pen : FnScope ["script", "cell"] ["script"] (defScope s__law_pen) := ⟨rfl, rfl, rfl, by decide +kernel, rfl, by decide +kernel, by decide +kernel⟩
/-! what each def computes -/
def m_is_listed_0 : SM := sRet (eOp1 (isi2D "list" "tuple") (eVar 0))
def m_is_listed : SM := m_is_listed_0
def f_is_listed : FM := runB0 1 1 m_is_listed
def m_is_row_0 : SM := sRet (eAnd (eCall f_is_listed (eCons (eVar 0) (eNil))) (eOp2 eqD (eOpN lenD (eCons (eVar 0) eNil)) (eVar 1)))
def m_is_row : SM := m_is_row_0
def f_is_row : FM := runB0 2 2 m_is_row
def m_is_name_0 : SM := sRet (eAnd (eOp1 (isiD "str") (eVar 0)) (eAnd (eChain leD leD (eC (.int 1)) (eOpN lenD (eCons (eVar 0) eNil)) (eC (.int 8))) (eOpN allD (eCons (eFz (fComp (iSt (eVar 0)) (tName 1) [1] (tYesE) (eOp2 inD (eVar 1) (eC (.str "abcdefghijklmnopqrstuvwxyz"))))) eNil))))
def m_is_name : SM := m_is_name_0
def f_is_name : FM := runB0 1 2 m_is_name
def m_are_names_0 : SM := sRet (eC (.bl false))
def m_are_names_1 : SM := sIf (bOr (bNot (eB (eCall f_is_listed (eCons (eVar 0) (eNil))))) (bOr (eB (eOp2 gtD (eOpN lenD (eCons (eVar 0) eNil)) (eVar 1))) (bNot (eB (eOpN allD (eCons (eFz (fComp (iSq (eVar 0)) (tName 2) [2] (tYesE) (eCall f_is_name (eCons (eVar 2) (eNil))))) eNil)))))) (m_are_names_0) (sNil)
def m_are_names_2 : SM := sRet (eOp2 eqD (eOpN lenD (eCons (eVar 0) eNil)) (eOpN lenD (eCons (eDc (iSq (eVar 0)) (tName 2) [2] (tYesE) (eVar 2) (eC (.bl true))) eNil)))
def m_are_names : SM := sSeq (m_are_names_1) (m_are_names_2)
def f_are_names : FM := runB0 2 3 m_are_names
def m_fixed_0 (rec : FM) : SM := sRet (eOpN tupleD (eCons (eFz (fComp (iSq (eVar 0)) (tName 1) [1] (tYesE) (eCall rec (eCons (eVar 1) (eNil))))) eNil))
def m_fixed_1 (rec : FM) : SM := sIf (eB (eOp1 (isi2D "list" "tuple") (eVar 0))) ((m_fixed_0 rec)) (sNil)
def m_fixed_2 (rec : FM) : SM := sRet (eVar 0)
def m_fixed (rec : FM) : SM := sSeq ((m_fixed_1 rec)) ((m_fixed_2 rec))
def f_fixed : FM := iterF (fun rec => runB0 1 2 (m_fixed rec)) 8
def m_is_symbol_0 : SM := sRet (eC (.bl false))
def m_is_symbol_1 : SM := sIf (bOr (bNot (eB (eCall f_is_row (eCons (eVar 0) (eCons (eC (.int 3)) (eNil)))))) (bOr (bNot (eB (eCall f_is_name (eCons (eIdx (eVar 0) (eC (.int 0))) (eNil))))) (bOr (bNot (eB (eCall f_is_listed (eCons (eIdx (eVar 0) (eC (.int 1))) (eNil))))) (eB (eOp2 gtD (eOpN lenD (eCons (eIdx (eVar 0) (eC (.int 1))) eNil)) (eC (.int 3))))))) (m_is_symbol_0) (sNil)
def m_is_symbol_2 : SM := sRet (eOpN allD (eCons (eFz (fComp (iSq (eFz (eLst (eStar (eIdx (eVar 0) (eC (.int 1))) (eCons (eIdx (eVar 0) (eC (.int 2))) (eNil)))))) (tName 2) [2] (tYesE) (eAnd (eOp1 (isiD "str") (eVar 2)) (eOp2 inD (eVar 2) (eVar 1))))) eNil))
def m_is_symbol : SM := sSeq (m_is_symbol_1) (m_is_symbol_2)
def f_is_symbol : FM := runB0 2 3 m_is_symbol
def m_are_symbols_0 : SM := sRet (eC (.bl false))
def m_are_symbols_1 : SM := sRet (eC (.bl false))
def m_are_symbols_2 : SM := sIf (bOr (bNot (eB (eCall f_is_listed (eCons (eVar 0) (eNil))))) (bNot (eB (eChain leD leD (eC (.int 1)) (eOpN lenD (eCons (eVar 0) eNil)) (eC (.int 16)))))) (m_are_symbols_0) (sNil)
def m_are_symbols_3 : SM := sIf (bNot (eB (eOpN allD (eCons (eFz (fComp (iSq (eVar 0)) (tName 2) [2] (tYesE) (eCall f_is_symbol (eCons (eVar 2) (eCons (eVar 1) (eNil)))))) eNil)))) (m_are_symbols_1) (sNil)
def m_are_symbols_4 : SM := sRet (eCall f_are_names (eCons (eFz (fComp (iSq (eVar 0)) (tName 2) [2] (tYesE) (eIdx (eVar 2) (eC (.int 0))))) (eCons (eC (.int 16)) (eNil))))
def m_are_symbols : SM := sSeq (m_are_symbols_2) (sSeq (m_are_symbols_3) (m_are_symbols_4))
def f_are_symbols : FM := runB0 2 3 m_are_symbols
def m_Signs_need_symbol_0 : SM := stuckS
def m_Signs_need_symbol_1 : SM := sIf (bOr (bNot (eB (eOp1 (isiD "str") (eVar 1)))) (eB (eOp2 (dinD true) (eVar 1) (eOp1 (fldD "Signs" "known") (eVar 0))))) (m_Signs_need_symbol_0) (sNil)
def m_Signs_need_symbol : SM := m_Signs_need_symbol_1
def f_Signs_need_symbol : FM := runB0 2 2 m_Signs_need_symbol
def m_Signs_arguments_0 : SM := sDrop (eMeth "Signs" "need_symbol" f_Signs_need_symbol (eVar 0) (eCons (eVar 1) (eNil)))
def m_Signs_arguments_1 : SM := sRet (eIdx (eOp2 dgetD (eOp1 (fldD "Signs" "known") (eVar 0)) (eVar 1)) (eC (.int 1)))
def m_Signs_arguments : SM := sSeq (m_Signs_arguments_0) (m_Signs_arguments_1)
def f_Signs_arguments : FM := runB0 2 2 m_Signs_arguments
def m_Signs_sort_of_0 : SM := sDrop (eMeth "Signs" "need_symbol" f_Signs_need_symbol (eVar 0) (eCons (eVar 1) (eNil)))
def m_Signs_sort_of_1 : SM := sRet (eIdx (eOp2 dgetD (eOp1 (fldD "Signs" "known") (eVar 0)) (eVar 1)) (eC (.int 2)))
def m_Signs_sort_of : SM := sSeq (m_Signs_sort_of_0) (m_Signs_sort_of_1)
def f_Signs_sort_of : FM := runB0 2 2 m_Signs_sort_of
def m_Signs___init___0 : SM := stuckS
def m_Signs___init___1 : SM := stuckS
def m_Signs___init___2 : SM := sIf (bOr (bNot (eB (eCall f_are_names (eCons (eVar 1) (eCons (eC (.int 6)) (eNil)))))) (eB (eOp2 eqD (eOpN lenD (eCons (eVar 1) eNil)) (eC (.int 0))))) (m_Signs___init___0) (sNil)
def m_Signs___init___3 : SM := sIf (bNot (eB (eCall f_are_symbols (eCons (eVar 2) (eCons (eVar 1) (eNil)))))) (m_Signs___init___1) (sNil)
def m_Signs___init___4 : SM := sFldS 0 "Signs" "sorts" (eCall f_fixed (eCons (eVar 1) (eNil)))
def m_Signs___init___5 : SM := sFldS 0 "Signs" "symbols" (eCall f_fixed (eCons (eVar 2) (eNil)))
def m_Signs___init___6 : SM := sFldS 0 "Signs" "known" (eDc (iSq (eOfld 0 "Signs" "symbols")) (tName 3) [3] (tYesE) (eIdx (eVar 3) (eC (.int 0))) (eVar 3))
def m_Signs___init__ : SM := sSeq (m_Signs___init___2) (sSeq (m_Signs___init___3) (sSeq (m_Signs___init___4) (sSeq (m_Signs___init___5) (m_Signs___init___6))))
def i_Signs : IM := runI0 "Signs" 2 3 m_Signs___init__
def m_Signs___eq___0 : SM := sRet (eC (.bl false))
def m_Signs___eq___1 : SM := sIf (bNot (eB (eOp1 (isT "Signs") (eVar 1)))) (m_Signs___eq___0) (sNil)
def m_Signs___eq___2 : SM := sRet (eOpN boolD (eCons (eAnd (eOp2 eqD (eOp1 (fldD "Signs" "sorts") (eVar 0)) (eOp1 (fldD "Signs" "sorts") (eVar 1))) (eOp2 eqD (eOp1 (fldD "Signs" "symbols") (eVar 0)) (eOp1 (fldD "Signs" "symbols") (eVar 1)))) eNil))
def m_Signs___eq__ : SM := sSeq (m_Signs___eq___1) (m_Signs___eq___2)
def f_Signs___eq__ : FM := runB0 2 2 m_Signs___eq__
def m_need_signs_0 : SM := stuckS
def m_need_signs_1 : SM := sIf (bNot (eB (eOp1 (isC "Signs") (eVar 0)))) (m_need_signs_0) (sNil)
def m_need_signs : SM := m_need_signs_1
def f_need_signs : FM := runB0 1 1 m_need_signs
def m_is_variable_0 : SM := sRet (eAnd (eCall f_is_listed (eCons (eVar 0) (eNil))) (eAnd (eOp2 eqD (eOpN lenD (eCons (eVar 0) eNil)) (eC (.int 1))) (eCall f_is_name (eCons (eIdx (eVar 0) (eC (.int 0))) (eNil)))))
def m_is_variable : SM := m_is_variable_0
def f_is_variable : FM := runB0 1 1 m_is_variable
def m_arity_0 : SM := sRet (eIf (eB (eOp1 (isiD "str") (eVar 1))) (eOpN lenD (eCons (eIdx (eOp2 dgetD (eOp1 (fldD "Signs" "known") (eVar 0)) (eVar 1)) (eC (.int 1))) eNil)) (eC (.int 0)))
def m_arity : SM := m_arity_0
def f_arity : FM := runB0 2 2 m_arity
def disp : Disp := fun f => if f = "is_variable" then some f_is_variable else none
def m_fits_0 : SM := sRet (eAnd (eOp2 (dinD false) (eVar 1) (eOp1 (fldD "Signs" "known") (eVar 0))) (eOr (eOp2 isD (eVar 2) (eC .non)) (eOp2 eqD (eMeth "Signs" "sort_of" f_Signs_sort_of (eVar 0) (eCons (eVar 1) (eNil))) (eVar 2))))
def m_fits_1 : SM := sRet (eC (.bl false))
def m_fits_2 : SM := sIf (eB (eOp1 (isiD "str") (eVar 1))) (m_fits_0) (sNil)
def m_fits_3 : SM := sIf (bNot (eB (eLoc 3 disp (eCons (eVar 1) (eNil))))) (m_fits_1) (sNil)
def m_fits_4 : SM := sRet (eOr (eOp2 eqD (eOpN lenD (eCons (eVar 1) eNil)) (eC (.int 1))) (eAnd (eOp2 inD (eIdx (eVar 1) (eC (.int 0))) (eOp1 (fldD "Signs" "sorts") (eVar 0))) (eOr (eOp2 isD (eVar 2) (eC .non)) (eOp2 eqD (eIdx (eVar 1) (eC (.int 0))) (eVar 2)))))
def m_fits : SM := sSeq (m_fits_2) (sSeq (m_fits_3) (m_fits_4))
def f_fits : FM := runB0 4 4 m_fits
def m_is_told_0 : SM := sRet (eC (.bl false))
def m_is_told_1 : SM := sRet (eC (.bl false))
def m_is_told_2 : SM := sExt 4 (eFz (fRev (eFz (fList (eCons (eMeth "Signs" "arguments" f_Signs_arguments (eVar 0) (eCons (eVar 5) (eNil))) (eNil))))))
def m_is_told_3 : SM := sIf (bOr (bView [4] (eB (eOp2 eqD (eVar 4) (eFz (eLst (eNil)))))) (bNot (eB (eCall f_fits (eCons (eVar 0) (eCons (eVar 5) (eCons (ePop 4) (eCons (eVar 3) (eNil))))))))) (m_is_told_1) (sNil)
def m_is_told_4 : SM := sIf (eB (eOp1 (isiD "str") (eVar 5))) (m_is_told_2) (sNil)
def m_is_told_5 : SM := sIf (bNot (eB (eCall f_is_listed (eCons (eVar 1) (eNil))))) (m_is_told_0) (sNil)
def m_is_told_6 : SM := sOwnS 4 (eLst (eCons (eVar 2) (eNil)))
def m_is_told_7 : SM := sFor (iSq (eVar 1)) (tName 5) (sSeq (m_is_told_3) (m_is_told_4))
def m_is_told_8 : SM := sRet (eAnd (eView [4] (eOp2 eqD (eVar 4) (eFz (eLst (eNil))))) (eOp2 gtD (eOpN lenD (eCons (eVar 1) eNil)) (eC (.int 0))))
def m_is_told : SM := sSeq (m_is_told_5) (sSeq (m_is_told_6) (sSeq (m_is_told_7) (m_is_told_8)))
def f_is_told : FM := runB0 4 6 m_is_told
def m_is_pattern_0 : SM := sRet (eCall f_is_told (eCons (eVar 0) (eCons (eVar 1) (eCons (eC .non) (eCons (eC (.fn "is_variable")) (eNil))))))
def m_is_pattern : SM := m_is_pattern_0
def f_is_pattern : FM := runB0 2 2 m_is_pattern
def m_variables_of_0 : SM := sRet (eFz (fComp (iSq (eVar 0)) (tName 1) [1] (bNot (eB (eOp1 (isiD "str") (eVar 1)))) (eIdx (eVar 1) (eC (.int 0)))))
def m_variables_of : SM := m_variables_of_0
def f_variables_of : FM := runB0 1 2 m_variables_of
def m_sorts_in_0 : SM := sExt 3 (eFz (fRev (eFz (fList (eCons (eMeth "Signs" "arguments" f_Signs_arguments (eVar 0) (eCons (eVar 4) (eNil))) (eNil))))))
def m_sorts_in_1 : SM := sPut 2 (eIdx (eVar 4) (eC (.int 0))) (eVar 5)
def m_sorts_in_2 : SM := sAsg (tName 5) (ePop 3)
def m_sorts_in_3 : SM := sIf (eB (eOp1 (isiD "str") (eVar 4))) (m_sorts_in_0) (m_sorts_in_1)
def m_sorts_in_4 : SM := sPar2 2 3 (iD) (iO (eLst (eCons (eC .non) (eNil))))
def m_sorts_in_5 : SM := sFor (iSq (eVar 1)) (tName 4) (sSeq (m_sorts_in_2) (m_sorts_in_3))
def m_sorts_in_6 : SM := sSeq (sFrzD 2) (sRet (eVar 2))
def m_sorts_in : SM := sSeq (m_sorts_in_4) (sSeq (m_sorts_in_5) (m_sorts_in_6))
def f_sorts_in : FM := runB0 2 6 m_sorts_in
def m_is_flat_0 : SM := sRet (eOpN allD (eCons (eFz (fComp (iSq (eSl (eVar 1) (oSome (eC (.int 1))) (oNone))) (tName 2) [2] (tYesE) (eOp2 eqD (eCall f_arity (eCons (eVar 0) (eCons (eVar 2) (eNil)))) (eC (.int 0))))) eNil))
def m_is_flat : SM := m_is_flat_0
def f_is_flat : FM := runB0 2 3 m_is_flat
def m_sort_reason_0 : SM := sRet (eOp2 eqD (eOp2 dgetD (eVar 3) (eIdx (eIdx (eVar 2) (eC (.int 0))) (eC (.int 0)))) (eMeth "Signs" "sort_of" f_Signs_sort_of (eVar 0) (eCons (eIdx (eVar 1) (eC (.int 0))) (eNil))))
def m_sort_reason_1 : SM := sRet (eC (.bl false))
def m_sort_reason_2 : SM := sAsg (tName 3) (eCall f_sorts_in (eCons (eVar 0) (eCons (eVar 1) (eNil))))
def m_sort_reason_3 : SM := sAsg (tName 4) (eCall f_sorts_in (eCons (eVar 0) (eCons (eVar 2) (eNil))))
def m_sort_reason_4 : SM := sIf (bNot (eB (eOp1 (isiD "str") (eIdx (eVar 2) (eC (.int 0)))))) (m_sort_reason_0) (sNil)
def m_sort_reason_5 : SM := sIf (eB (eOp2 neD (eMeth "Signs" "sort_of" f_Signs_sort_of (eVar 0) (eCons (eIdx (eVar 2) (eC (.int 0))) (eNil))) (eMeth "Signs" "sort_of" f_Signs_sort_of (eVar 0) (eCons (eIdx (eVar 1) (eC (.int 0))) (eNil))))) (m_sort_reason_1) (sNil)
def m_sort_reason_6 : SM := sRet (eOpN allD (eCons (eFz (fDictEq 3 4 5)) eNil))
def m_sort_reason : SM := sSeq (m_sort_reason_2) (sSeq (m_sort_reason_3) (sSeq (m_sort_reason_4) (sSeq (m_sort_reason_5) (m_sort_reason_6))))
def f_sort_reason : FM := runB0 3 6 m_sort_reason
def m_rule_reason_0 : SM := sRet (eC (.str "form"))
def m_rule_reason_1 : SM := sRet (eC (.str "name"))
def m_rule_reason_2 : SM := sRet (eC (.str "left"))
def m_rule_reason_3 : SM := sRet (eC (.str "right"))
def m_rule_reason_4 : SM := sRet (eC (.str "twice"))
def m_rule_reason_5 : SM := sRet (eC (.str "unknown"))
def m_rule_reason_6 : SM := sRet (eC (.str "sort"))
def m_rule_reason_7 : SM := sRet (eC (.str "flat"))
def m_rule_reason_8 : SM := sIf (bOr (bNot (eB (eCall f_is_row (eCons (eVar 1) (eCons (eC (.int 3)) (eNil)))))) (bOr (bNot (eB (eCall f_is_name (eCons (eIdx (eVar 1) (eC (.int 0))) (eNil))))) (bOr (bNot (eB (eCall f_is_listed (eCons (eIdx (eVar 1) (eC (.int 1))) (eNil))))) (bNot (eB (eCall f_is_listed (eCons (eIdx (eVar 1) (eC (.int 2))) (eNil)))))))) (m_rule_reason_0) (sNil)
def m_rule_reason_9 : SM := sIf (eB (eOp2 inD (eIdx (eVar 1) (eC (.int 0))) (eVar 2))) (m_rule_reason_1) (sNil)
def m_rule_reason_10 : SM := sIf (bOr (bNot (eB (eCall f_is_pattern (eCons (eVar 0) (eCons (eIdx (eVar 1) (eC (.int 1))) (eNil)))))) (bOr (eB (eOp2 gtD (eOpN lenD (eCons (eIdx (eVar 1) (eC (.int 1))) eNil)) (eC (.int 24)))) (bNot (eB (eOp1 (isiD "str") (eIdx (eIdx (eVar 1) (eC (.int 1))) (eC (.int 0)))))))) (m_rule_reason_2) (sNil)
def m_rule_reason_11 : SM := sIf (bNot (eB (eCall f_is_pattern (eCons (eVar 0) (eCons (eIdx (eVar 1) (eC (.int 2))) (eNil)))))) (m_rule_reason_3) (sNil)
def m_rule_reason_12 : SM := sPar2 3 4 (iV (eCall f_variables_of (eCons (eIdx (eVar 1) (eC (.int 1))) (eNil)))) (iV (eCall f_variables_of (eCons (eIdx (eVar 1) (eC (.int 2))) (eNil))))
def m_rule_reason_13 : SM := sIf (eB (eOpN anyD (eCons (eFz (fComp (iSq (eTup (eCons (eVar 3) (eCons (eVar 4) (eNil))))) (tName 6) [6] (tYesE) (eOp2 gtD (eOpN lenD (eCons (eVar 6) eNil)) (eOpN lenD (eCons (eDc (iSq (eVar 6)) (tName 5) [5] (tYesE) (eVar 5) (eC (.bl true))) eNil))))) eNil))) (m_rule_reason_4) (sNil)
def m_rule_reason_14 : SM := sIf (eB (eOpN anyD (eCons (eFz (fComp (iSq (eVar 4)) (tName 5) [5] (tYesE) (eOp2 ninD (eVar 5) (eVar 3)))) eNil))) (m_rule_reason_5) (sNil)
def m_rule_reason_15 : SM := sIf (bNot (eB (eCall f_sort_reason (eCons (eVar 0) (eCons (eIdx (eVar 1) (eC (.int 1))) (eCons (eIdx (eVar 1) (eC (.int 2))) (eNil))))))) (m_rule_reason_6) (sNil)
def m_rule_reason_16 : SM := sIf (bNot (eB (eCall f_is_flat (eCons (eVar 0) (eCons (eIdx (eVar 1) (eC (.int 2))) (eNil)))))) (m_rule_reason_7) (sNil)
def m_rule_reason_17 : SM := sAsg (tName 7) (eAnd (eOp2 eqD (eOpN lenD (eCons (eIdx (eVar 1) (eC (.int 1))) eNil)) (eC (.int 1))) (eOr (eOp2 gtD (eOpN lenD (eCons (eIdx (eVar 1) (eC (.int 2))) eNil)) (eC (.int 1))) (eNot (eOp1 (isiD "str") (eIdx (eIdx (eVar 1) (eC (.int 2))) (eC (.int 0)))))))
def m_rule_reason_18 : SM := sRet (eIf (eB (eVar 7)) (eC (.str "constant")) (eC .non))
def m_rule_reason : SM := sSeq (m_rule_reason_8) (sSeq (m_rule_reason_9) (sSeq (m_rule_reason_10) (sSeq (m_rule_reason_11) (sSeq (m_rule_reason_12) (sSeq (m_rule_reason_13) (sSeq (m_rule_reason_14) (sSeq (m_rule_reason_15) (sSeq (m_rule_reason_16) (sSeq (m_rule_reason_17) (m_rule_reason_18))))))))))
def f_rule_reason : FM := runB0 3 8 m_rule_reason
def m_Book___init___0 : SM := stuckS
def m_Book___init___1 : SM := stuckS
def m_Book___init___2 : SM := sAsg (tName 6) (eViewI "Book" [3] (eCall f_rule_reason (eCons (eVar 1) (eCons (eVar 5) (eCons (eVar 3) (eNil))))))
def m_Book___init___3 : SM := sIf (eB (eOp2 isnD (eVar 6) (eC .non))) (m_Book___init___1) (sNil)
def m_Book___init___4 : SM := sApp 3 (eIdx (eVar 5) (eC (.int 0)))
def m_Book___init___5 : SM := sDrop (eCall f_need_signs (eCons (eVar 1) (eNil)))
def m_Book___init___6 : SM := sIf (bOr (bNot (eB (eCall f_is_listed (eCons (eVar 2) (eNil))))) (eB (eOp2 gtD (eOpN lenD (eCons (eVar 2) eNil)) (eC (.int 20))))) (m_Book___init___0) (sNil)
def m_Book___init___7 : SM := sOwnS 3 (eLst (eNil))
def m_Book___init___8 : SM := sFor (iEn2 (eCons (eVar 2) (eNil))) (tTupT [tName 4, tName 5]) (sSeq (m_Book___init___2) (sSeq (m_Book___init___3) (m_Book___init___4)))
def m_Book___init___9 : SM := sFldS 0 "Book" "signs" (eVar 1)
def m_Book___init___10 : SM := sFldS 0 "Book" "rules" (eCall f_fixed (eCons (eVar 2) (eNil)))
def m_Book___init___11 : SM := sFldS 0 "Book" "names" (eOtup 3)
def m_Book___init__ : SM := sSeq (m_Book___init___5) (sSeq (m_Book___init___6) (sSeq (m_Book___init___7) (sSeq (m_Book___init___8) (sSeq (m_Book___init___9) (sSeq (m_Book___init___10) (m_Book___init___11))))))
def i_Book : IM := runI0 "Book" 2 6 m_Book___init__
def m_Book___eq___0 : SM := sRet (eC (.bl false))
def m_Book___eq___1 : SM := sIf (bNot (eB (eOp1 (isT "Book") (eVar 1)))) (m_Book___eq___0) (sNil)
def m_Book___eq___2 : SM := sRet (eOpN boolD (eCons (eAnd (eEqI "Signs" f_Signs___eq__ false (eOp1 (fldD "Book" "signs") (eVar 0)) (eOp1 (fldD "Book" "signs") (eVar 1))) (eOp2 eqD (eOp1 (fldD "Book" "rules") (eVar 0)) (eOp1 (fldD "Book" "rules") (eVar 1)))) eNil))
def m_Book___eq__ : SM := sSeq (m_Book___eq___1) (m_Book___eq___2)
def f_Book___eq__ : FM := runB0 2 2 m_Book___eq__
def m_Book_left_0 : SM := sRet (eIdx (eIdx (eOp1 (fldD "Book" "rules") (eVar 0)) (eVar 1)) (eC (.int 1)))
def m_Book_left : SM := m_Book_left_0
def f_Book_left : FM := runB0 2 2 m_Book_left
def m_Book_right_0 : SM := sRet (eIdx (eIdx (eOp1 (fldD "Book" "rules") (eVar 0)) (eVar 1)) (eC (.int 2)))
def m_Book_right : SM := m_Book_right_0
def f_Book_right : FM := runB0 2 2 m_Book_right
def m__law_draw_0 : SM := sAsg (tName 2) (eOpN intD (eCons (eIdx (eVar 0) (eC (.int 2))) eNil))
def m__law_draw_1 : SM := sPenS 0 2 (eOp2 fdivD (eVar 2) (eVar 1))
def m__law_draw_2 : SM := sRet (eOp2 modD (eOpN intD (eCons (eVar 2) eNil)) (eVar 1))
def m__law_draw_3 : SM := sAsg (tName 4) (eIdx (eIdx (eVar 0) (eC (.int 0))) (eOp2 modD (eOpN intD (eCons (eVar 3) eNil)) (eOpN lenD (eCons (eIdx (eVar 0) (eC (.int 0))) eNil))))
def m__law_draw_4 : SM := sAsg (tName 2) (eOp2 addD (eOp2 mulD (eC (.int 2)) (eOp2 subD (eOpN absD (eCons (eVar 4) eNil)) (eOp2 powD (eC (.int 10)) (eC (.int 18))))) (eOpN intD (eCons (eOp2 ltD (eVar 4) (eC (.int 0))) eNil)))
def m__law_draw_5 : SM := sPenS 0 2 (eOp2 fdivD (eOpN intD (eCons (eVar 2) eNil)) (eVar 1))
def m__law_draw_6 : SM := sRet (eOp2 modD (eOpN intD (eCons (eVar 2) eNil)) (eVar 1))
def m__law_draw_7 : SM := sIf (eB (eOp2 gtD (eIdx (eVar 0) (eC (.int 2))) (eC (.int 0)))) (sSeq (m__law_draw_0) (sSeq (m__law_draw_1) (m__law_draw_2))) (sNil)
def m__law_draw_8 : SM := sAsg (tName 3) (eIdx (eVar 0) (eC (.int 1)))
def m__law_draw_9 : SM := sPenS 0 1 (eOp2 addD (eVar 3) (eC (.int 1)))
def m__law_draw_10 : SM := sAsg (tName 4) (eOp2 addD (eOp2 mulD (eC (.int 273123)) (eVar 3)) (eC (.int 19741)))
def m__law_draw_11 : SM := sIf (eB (eOp2 neD (eIdx (eVar 0) (eC (.int 0))) (eFz (eLst (eNil))))) (m__law_draw_3) (sNil)
def m__law_draw_12 : SM := sIf (bAnd (eB (eOp2 ltD (eVar 3) (eOpN lenD (eCons (eIdx (eVar 0) (eC (.int 0))) eNil)))) (eB (eOp2 geD (eOpN absD (eCons (eVar 4) eNil)) (eOp2 powD (eC (.int 10)) (eC (.int 18)))))) (sSeq (m__law_draw_4) (sSeq (m__law_draw_5) (m__law_draw_6))) (sNil)
def m__law_draw_13 : SM := sAsg (tName 5) (eOp2 modD (eOpN intD (eCons (eOp2 powD (eOp2 addD (eOp2 addD (eOp2 modD (eOpN intD (eCons (eVar 4) eNil)) (eC (.int 2147483549))) (eOp2 mulD (eC (.int 273123)) (eVar 3))) (eC (.int 19741))) (eC (.int 5))) eNil)) (eC (.int 2147483629)))
def m__law_draw_14 : SM := sAsg (tName 5) (eOp2 modD (eOpN intD (eCons (eOp2 powD (eOp2 addD (eOp2 addD (eOp2 mulD (eVar 5) (eOp2 addD (eOp2 mulD (eC (.int 2)) (eVar 3)) (eC (.int 6131)))) (eOp2 mulD (eOp2 mulD (eC (.int 53581)) (eVar 3)) (eVar 3))) (eC (.int 273123))) (eC (.int 3))) eNil)) (eC (.int 2147483587)))
def m__law_draw_15 : SM := sRet (eOp2 modD (eOpN intD (eCons (eOp2 fdivD (eVar 5) (eC (.int 64))) eNil)) (eVar 1))
def m__law_draw : SM := sSeq (m__law_draw_7) (sSeq (m__law_draw_8) (sSeq (m__law_draw_9) (sSeq (m__law_draw_10) (sSeq (m__law_draw_11) (sSeq (m__law_draw_12) (sSeq (m__law_draw_13) (sSeq (m__law_draw_14) (m__law_draw_15))))))))
def f__law_draw : FM := runB0 2 6 m__law_draw
def m__law_pick_0 : SM := sRet (eIdx (eVar 1) (eCall f__law_draw (eCons (eVar 0) (eCons (eOpN lenD (eCons (eVar 1) eNil)) (eNil)))))
def m__law_pick : SM := m__law_pick_0
def f__law_pick : FM := runB0 2 2 m__law_pick
def m__law_mixed_0 : SM := sApp 3 (ePopAt 2 (eCall f__law_draw (eCons (eVar 0) (eCons (eView [2, 3] (eOpN lenD (eCons (eVar 2) eNil))) (eNil)))))
def m__law_mixed_1 : SM := sPar2 2 3 (iO (fList (eCons (eVar 1) (eNil)))) (iO (eLst (eNil)))
def m__law_mixed_2 : SM := sFor (iRg (eCons (eView [2, 3] (eOpN lenD (eCons (eVar 2) eNil))) (eNil))) (tName 4) (m__law_mixed_0)
def m__law_mixed_3 : SM := sSeq (sFrz 3) (sRet (eVar 3))
def m__law_mixed : SM := sSeq (m__law_mixed_1) (sSeq (m__law_mixed_2) (m__law_mixed_3))
def f__law_mixed : FM := runB0 2 5 m__law_mixed
def m__law_signs_0 : SM := sApp 3 (eTup (eCons (eIdx (eVar 2) (eOp2 addD (eC (.int 1)) (eVar 4))) (eCons (eTup (eNil)) (eCons (eVar 5) (eNil)))))
def m__law_signs_1 : SM := sAsg (tName 7) (eCall f__law_pick (eCons (eVar 0) (eCons (eFz (eLst (eCons (eC (.int 0)) (eCons (eC (.int 0)) (eCons (eC (.int 1)) (eCons (eC (.int 1)) (eCons (eC (.int 2)) (eCons (eC (.int 2)) (eCons (eC (.int 3)) (eNil)))))))))) (eNil))))
def m__law_signs_2 : SM := sApp 3 (eTup (eCons (eVar 6) (eCons (eOpN tupleD (eCons (eFz (fComp (iRg (eCons (eVar 7) (eNil))) (tName 8) [8] (tYesE) (eCall f__law_pick (eCons (eVar 0) (eCons (eVar 1) (eNil)))))) eNil)) (eCons (eCall f__law_pick (eCons (eVar 0) (eCons (eVar 1) (eNil)))) (eNil)))))
def m__law_signs_3 : SM := sAsg (tName 1) (eFz (fSl (eCall f__law_mixed (eCons (eVar 0) (eCons (eFz (eLst (eCons (eC (.str "n")) (eCons (eC (.str "thing")) (eCons (eC (.str "zzzzzzzz")) (eCons (eC (.str "of")) (eNil))))))) (eNil)))) (oNone) (oSome (eCall f__law_pick (eCons (eVar 0) (eCons (eFz (eLst (eCons (eC (.int 1)) (eCons (eC (.int 1)) (eCons (eC (.int 2)) (eCons (eC (.int 3)) (eNil))))))) (eNil)))))))
def m__law_signs_4 : SM := sAsg (tName 2) (eCall f__law_mixed (eCons (eVar 0) (eCons (eFz (eLst (eCons (eC (.str "a")) (eCons (eC (.str "b")) (eCons (eC (.str "c")) (eCons (eC (.str "f")) (eCons (eC (.str "g")) (eCons (eC (.str "h")) (eCons (eC (.str "left")) (eCons (eC (.str "end")) (eCons (eC (.str "abcdefgh")) (eCons (eC (.str "row")) (eCons (eC (.str "x")) (eCons (eC (.str "it")) (eCons (eC (.str "pair")) (eNil)))))))))))))))) (eNil))))
def m__law_signs_5 : SM := sOwnS 3 (eLst (eCons (eTup (eCons (eIdx (eVar 2) (eC (.int 0))) (eCons (eTup (eCons (eIdx (eVar 1) (eC (.int 0))) (eNil))) (eCons (eIdx (eVar 1) (eC (.int 0))) (eNil))))) (eNil)))
def m__law_signs_6 : SM := sFor (iEn (eCons (eVar 1) (eNil))) (tTupT [tName 4, tName 5]) (m__law_signs_0)
def m__law_signs_7 : SM := sFor (iSq (eFz (fSl (eVar 2) (oSome (eOp2 addD (eC (.int 1)) (eOpN lenD (eCons (eVar 1) eNil)))) (oSome (eOp2 addD (eOp2 addD (eC (.int 3)) (eOpN lenD (eCons (eVar 1) eNil))) (eCall f__law_draw (eCons (eVar 0) (eCons (eC (.int 4)) (eNil))))))))) (tName 6) (sSeq (m__law_signs_1) (m__law_signs_2))
def m__law_signs_8 : SM := sSeq (sFrz 3) (sRet (eTup (eCons (eVar 1) (eCons (eCall f__law_mixed (eCons (eVar 0) (eCons (eVar 3) (eNil)))) (eNil)))))
def m__law_signs : SM := sSeq (m__law_signs_3) (sSeq (m__law_signs_4) (sSeq (m__law_signs_5) (sSeq (m__law_signs_6) (sSeq (m__law_signs_7) (m__law_signs_8)))))
def f__law_signs : FM := runB0 1 9 m__law_signs
def m__law_symbol_0 : SM := sRet (eIdx (eFz (fComp (iSq (eIdx (eVar 0) (eC (.int 1)))) (tName 2) [2] (eB (eOp2 eqD (eIdx (eVar 2) (eC (.int 0))) (eVar 1))) (eVar 2))) (eC (.int 0)))
def m__law_symbol : SM := m__law_symbol_0
def f__law_symbol : FM := runB0 2 3 m__law_symbol
def m__law_left_0 : SM := sBreak
def m__law_left_1 : SM := sApp 4 (eTup (eCons (eIdx (eVar 7) (eView [4, 5, 6] (eOpN lenD (eCons (eVar 5) eNil)))) (eNil)))
def m__law_left_2 : SM := sApp 5 (eTup (eCons (eIdx (eVar 7) (eView [4, 5, 6] (eOpN lenD (eCons (eVar 5) eNil)))) (eCons (eVar 9) (eNil))))
def m__law_left_3 : SM := sApp 4 (eCall f__law_pick (eCons (eVar 0) (eCons (eVar 10) (eNil))))
def m__law_left_4 : SM := sSeq (sFrz 6) (sOwnS 6 (fCat (eVar 6) (eFz (fRev (eFz (fList (eCons (eIdx (eCall f__law_symbol (eCons (eVar 1) (eCons (eOix 4 (eOp1 negD (eC (.int 1)))) (eNil)))) (eC (.int 1))) (eNil))))))))
def m__law_left_5 : SM := sIf (bView [4, 5, 6] (eB (eOp2 eqD (eVar 6) (eFz (eLst (eNil)))))) (m__law_left_0) (sNil)
def m__law_left_6 : SM := sAsg (tName 9) (ePop 6)
def m__law_left_7 : SM := sSetC 10 (fComp (iSq (eIdx (eVar 1) (eC (.int 1)))) (tTupT [tName 11, tName 12, tName 13]) [11, 12, 13] (eB (eOp2 eqD (eVar 13) (eVar 9))) (eVar 11))
def m__law_left_8 : SM := sIf (bOr (eB (eOp2 eqD (eVar 10) (eFz (eLst (eNil))))) (bOr (bView [4, 5, 6] (eB (eOp2 geD (eOp2 addD (eOpN lenD (eCons (eVar 4) eNil)) (eOpN lenD (eCons (eVar 6) eNil))) (eVar 2)))) (eB (eOp2 eqD (eCall f__law_draw (eCons (eVar 0) (eCons (eC (.int 2)) (eNil)))) (eC (.int 0)))))) (sSeq (m__law_left_1) (m__law_left_2)) (sSeq (m__law_left_3) (m__law_left_4))
def m__law_left_9 : SM := sAsg (tName 3) (eCall f__law_pick (eCons (eVar 0) (eCons (eIdx (eVar 1) (eC (.int 1))) (eNil))))
def m__law_left_10 : SM := sPar3 4 5 6 (iO (eLst (eCons (eIdx (eVar 3) (eC (.int 0))) (eNil)))) (iO (eLst (eNil))) (iO (fRev (eFz (fList (eCons (eIdx (eVar 3) (eC (.int 1))) (eNil))))))
def m__law_left_11 : SM := sAsg (tName 7) (eCall f__law_mixed (eCons (eVar 0) (eCons (eFz (eLst (eCons (eC (.str "x")) (eCons (eC (.str "y")) (eCons (eC (.str "z")) (eCons (eC (.str "u")) (eCons (eC (.str "v")) (eCons (eC (.str "w")) (eCons (eC (.str "abcdefgh")) (eCons (eC (.str "n")) (eCons (eC (.str "p")) (eCons (eC (.str "q")) (eCons (eC (.str "r")) (eCons (eC (.str "s")) (eNil))))))))))))))) (eNil))))
def m__law_left_12 : SM := sFor (iRg (eCons (eC (.int 24)) (eNil))) (tName 8) (sSeq (m__law_left_5) (sSeq (m__law_left_6) (sSeq (m__law_left_7) (m__law_left_8))))
def m__law_left_13 : SM := sSeq (sFrz 5) (sRet (eTup (eCons (eOtup 4) (eCons (eVar 5) (eNil)))))
def m__law_left : SM := sSeq (m__law_left_9) (sSeq (m__law_left_10) (sSeq (m__law_left_11) (sSeq (m__law_left_12) (m__law_left_13))))
def f__law_left : FM := runB0 3 14 m__law_left
def m__law_right_0 : SM := sRet (eCall f__law_pick (eCons (eVar 0) (eCons (eFz (fComp (iSq (eIdx (eVar 1) (eC (.int 1)))) (tTupT [tName 6, tName 8, tName 7]) [6, 8, 7] (bAnd (eB (eOp2 eqD (eVar 7) (eVar 4))) (eB (eOp2 eqD (eVar 8) (eTup (eNil))))) (eTup (eCons (eVar 6) (eNil))))) (eNil))))
def m__law_right_1 : SM := sRet (eCall f__law_pick (eCons (eVar 0) (eCons (eVar 5) (eNil))))
def m__law_right_2 : SM := sApp 11 (eCall f__law_pick (eCons (eVar 0) (eCons (eVar 13) (eNil))))
def m__law_right_3 : SM := sApp 12 (eTup (eCons (eOix 11 (eOp1 negD (eC (.int 1)))) (eNil)))
def m__law_right_4 : SM := sApp 12 (eCall f__law_pick (eCons (eVar 0) (eCons (eVar 15) (eNil))))
def m__law_right_5 : SM := sRet (eIf (eB (eOp2 neD (eVar 5) (eFz (eLst (eNil))))) (eCall f__law_pick (eCons (eVar 0) (eCons (eVar 5) (eNil)))) (eIf (eB (eOp2 eqD (eOpN lenD (eCons (eVar 2) eNil)) (eOp2 addD (eC (.int 1)) (eOpN lenD (eCons (eVar 3) eNil))))) (eVar 2) (eC .non)))
def m__law_right_6 : SM := sIf (eB (eOp2 neD (eVar 15) (eFz (eLst (eNil))))) (m__law_right_4) (m__law_right_5)
def m__law_right_7 : SM := sSetC 13 (fComp (iSq (eVar 3)) (tTupT [tName 6, tName 14]) [6, 14] (bAnd (eB (eOp2 eqD (eVar 14) (eVar 7))) (bView [11, 12] (eB (eOp2 ninD (eVar 6) (eVar 11))))) (eVar 6))
def m__law_right_8 : SM := sSetC 15 (fComp (iSq (eIdx (eVar 1) (eC (.int 1)))) (tTupT [tName 6, tName 8, tName 14]) [6, 8, 14] (bAnd (eB (eOp2 eqD (eVar 14) (eVar 7))) (eB (eOp2 eqD (eVar 8) (eTup (eNil))))) (eVar 6))
def m__law_right_9 : SM := sIf (bAnd (eB (eOp2 neD (eVar 13) (eFz (eLst (eNil))))) (bOr (eB (eOp2 eqD (eVar 15) (eFz (eLst (eNil))))) (eB (eOp2 gtD (eCall f__law_draw (eCons (eVar 0) (eCons (eC (.int 4)) (eNil)))) (eC (.int 0)))))) (sSeq (m__law_right_2) (m__law_right_3)) (m__law_right_6)
def m__law_right_10 : SM := sAsg (tName 4) (eIdx (eCall f__law_symbol (eCons (eVar 1) (eCons (eIdx (eVar 2) (eC (.int 0))) (eNil)))) (eC (.int 2)))
def m__law_right_11 : SM := sAsg (tName 5) (eFz (fCat (eFz (fComp (iSq (eVar 3)) (tTupT [tName 6, tName 7]) [6, 7] (eB (eOp2 eqD (eVar 7) (eVar 4))) (eTup (eCons (eTup (eCons (eVar 6) (eNil))) (eNil))))) (eFz (fComp (iSq (eIdx (eVar 1) (eC (.int 1)))) (tTupT [tName 6, tName 8, tName 7]) [6, 8, 7] (bAnd (eB (eOp2 eqD (eVar 7) (eVar 4))) (eB (eOp2 eqD (eVar 8) (eTup (eNil))))) (eTup (eCons (eVar 6) (eNil)))))))
def m__law_right_12 : SM := sIf (eB (eOp2 eqD (eOpN lenD (eCons (eVar 2) eNil)) (eC (.int 1)))) (m__law_right_0) (sNil)
def m__law_right_13 : SM := sSetC 9 (fComp (iSq (eIdx (eVar 1) (eC (.int 1)))) (tName 10) [10] (bAnd (eB (eOp2 eqD (eIdx (eVar 10) (eC (.int 2))) (eVar 4))) (eB (eOp2 neD (eIdx (eVar 10) (eC (.int 1))) (eTup (eNil))))) (eVar 10))
def m__law_right_14 : SM := sIf (bOr (eB (eOp2 eqD (eVar 9) (eFz (eLst (eNil))))) (bAnd (eB (eOp2 neD (eVar 5) (eFz (eLst (eNil))))) (eB (eOp2 eqD (eCall f__law_draw (eCons (eVar 0) (eCons (eC (.int 3)) (eNil)))) (eC (.int 0)))))) (m__law_right_1) (sNil)
def m__law_right_15 : SM := sPar2 10 11 (iV (eCall f__law_pick (eCons (eVar 0) (eCons (eVar 9) (eNil))))) (iO (eLst (eNil)))
def m__law_right_16 : SM := sOwnS 12 (eLst (eCons (eIdx (eVar 10) (eC (.int 0))) (eNil)))
def m__law_right_17 : SM := sFor (iSq (eIdx (eVar 10) (eC (.int 1)))) (tName 7) (sSeq (m__law_right_7) (sSeq (m__law_right_8) (m__law_right_9)))
def m__law_right_18 : SM := sRet (eOtup 12)
def m__law_right : SM := sSeq (m__law_right_10) (sSeq (m__law_right_11) (sSeq (m__law_right_12) (sSeq (m__law_right_13) (sSeq (m__law_right_14) (sSeq (m__law_right_15) (sSeq (m__law_right_16) (sSeq (m__law_right_17) (m__law_right_18))))))))
def f__law_right : FM := runB0 4 16 m__law_right
def m__law_rules_0 : SM := sApp 4 (eTup (eCons (eOp2 addD (eSlS (eCall f__law_pick (eCons (eVar 0) (eCons (eFz (eLst (eCons (eC (.str "one")) (eCons (eC (.str "r")) (eCons (eC (.str "abcdefgh")) (eCons (eC (.str "t")) (eNil))))))) (eNil)))) (oNone) (oSome (eC (.int 6)))) (eIdx (eC (.str "abcdefgh")) (eVar 5))) (eCons (eVar 6) (eCons (eVar 8) (eNil)))))
def m__law_rules_1 : SM := sAsg (tTupT [tName 6, tName 7]) (eCall f__law_left (eCons (eVar 0) (eCons (eVar 1) (eCons (eOp2 addD (eC (.int 1)) (eCall f__law_draw (eCons (eVar 0) (eCons (eVar 3) (eNil))))) (eNil)))))
def m__law_rules_2 : SM := sAsg (tName 8) (eCall f__law_right (eCons (eVar 0) (eCons (eVar 1) (eCons (eVar 6) (eCons (eVar 7) (eNil))))))
def m__law_rules_3 : SM := sIf (eB (eOp2 isnD (eVar 8) (eC .non))) (m__law_rules_0) (sNil)
def m__law_rules_4 : SM := sOwnS 4 (eLst (eNil))
def m__law_rules_5 : SM := sFor (iRg (eCons (eVar 2) (eNil))) (tName 5) (sSeq (m__law_rules_1) (sSeq (m__law_rules_2) (m__law_rules_3)))
def m__law_rules_6 : SM := sSeq (sFrz 4) (sRet (eVar 4))
def m__law_rules : SM := sSeq (m__law_rules_4) (sSeq (m__law_rules_5) (m__law_rules_6))
def f__law_rules : FM := runB0 4 9 m__law_rules
def m__law_made_0 : SM := sRet (eMake "Signs" i_Signs (eCons (eIdx (eVar 0) (eC (.int 0))) (eCons (eIdx (eVar 0) (eC (.int 1))) (eNil))))
def m__law_made : SM := m__law_made_0
def f__law_made : FM := runB0 1 1 m__law_made
def m__law_lists_0 (rec : FM) : SM := sRet (eIf (eB (eOp1 (isi2D "list" "tuple") (eVar 0))) (eFz (fComp (iSq (eVar 0)) (tName 1) [1] (tYesE) (eCall rec (eCons (eVar 1) (eNil))))) (eVar 0))
def m__law_lists (rec : FM) : SM := (m__law_lists_0 rec)
def f__law_lists : FM := iterF (fun rec => runB0 1 2 (m__law_lists rec)) 8
def m_law_0 : SM := sRet (eC (.bl false))
def m_law_1 : SM := sRet (eC (.bl false))
def m_law_2 : SM := sIf (bOr (eB (eOp2 neD (eOpN reprL (eCons (eTup (eCons (eMeth "Book" "left" f_Book_left (eVar 7) (eCons (eVar 10) (eNil))) (eCons (eMethK "Book" "right" f_Book_right [0] (eVar 7) (eCons (eVar 10) (eNil))) (eNil)))) eNil)) (eOpN reprL (eCons (eTup (eCons (eVar 12) (eCons (eVar 13) (eNil)))) eNil)))) (bOr (eB (eOp2 neD (eMethK "Book" "left" f_Book_left [0] (eVar 7) (eCons (eVar 10) (eNil))) (eMeth "Book" "left" f_Book_left (eVar 8) (eCons (eVar 10) (eNil))))) (eB (eOp2 neD (eMeth "Book" "right" f_Book_right (eVar 8) (eCons (eVar 10) (eNil))) (eVar 13))))) (m_law_1) (sNil)
def m_law_3 : SM := sAsg (tName 18) (eOpN tupleD (eCons (eFz (fComp (iSq (eVar 13)) (tName 16) [16] (tYesE) (eIf (bNot (eB (eOp1 (isiD "str") (eVar 16)))) (eTup (eCons (eOp2 addD (eC (.str "q")) (eIdx (eVar 16) (eC (.int 0)))) (eNil))) (eVar 16)))) eNil))
def m_law_4 : SM := sApp 17 (eFz (fCat (eFz (fCat (eFz (fSl (eVar 4) (oNone) (oSome (eVar 14)))) (eFz (eLst (eCons (eTup (eCons (eVar 11) (eCons (eOpN tupleD (eCons (eVar 15) eNil)) (eCons (eVar 18) (eNil))))) (eNil)))))) (eFz (fSl (eVar 4) (oSome (eOp2 addD (eVar 14) (eC (.int 1)))) (oNone)))))
def m_law_5 : SM := sApp 17 (eFz (fCat (eFz (fSl (eVar 4) (oSome (eC (.int 1))) (oNone))) (eFz (fSl (eVar 4) (oNone) (oSome (eC (.int 1)))))))
def m_law_6 : SM := sRet (eC (.bl false))
def m_law_7 : SM := sIf (bOr (eB (eEqI "Book" f_Book___eq__ false (eMake "Book" i_Book (eCons (eVar 5) (eCons (eVar 19) (eNil)))) (eVar 7))) (bNot (eB (eEqI "Book" f_Book___eq__ true (eMake "Book" i_Book (eCons (eVar 5) (eCons (eVar 19) (eNil)))) (eVar 7))))) (m_law_6) (sNil)
def m_law_8 : SM := sRet (eC (.bl false))
def m_law_9 : SM := sAsg (tName 14) (eCall f__law_draw (eCons (eVar 1) (eCons (eOpN lenD (eCons (eVar 4) eNil)) (eNil))))
def m_law_10 : SM := sAsg (tTupT [tName 11, tName 12, tName 13]) (eIdx (eVar 4) (eVar 14))
def m_law_11 : SM := sSetC 15 (fComp (iSq (eVar 12)) (tName 16) [16] (tYesE) (eIf (bNot (eB (eOp1 (isiD "str") (eVar 16)))) (eTup (eCons (eOp2 addD (eC (.str "q")) (eIdx (eVar 16) (eC (.int 0)))) (eNil))) (eVar 16)))
def m_law_12 : SM := sOwnS 17 (eLst (eCons (eFz (fCat (eFz (fSl (eVar 4) (oNone) (oSome (eVar 14)))) (eFz (fSl (eVar 4) (oSome (eOp2 addD (eVar 14) (eC (.int 1)))) (oNone))))) (eCons (eFz (fCat (eFz (fCat (eFz (fSl (eVar 4) (oNone) (oSome (eVar 14)))) (eFz (eLst (eCons (eTup (eCons (eC (.str "zz")) (eCons (eVar 12) (eCons (eVar 13) (eNil))))) (eNil)))))) (eFz (fSl (eVar 4) (oSome (eOp2 addD (eVar 14) (eC (.int 1)))) (oNone))))) (eCons (eFz (fCat (eVar 4) (eFz (eLst (eCons (eTup (eCons (eC (.str "zz")) (eCons (eVar 12) (eCons (eVar 13) (eNil))))) (eNil)))))) (eNil)))))
def m_law_13 : SM := sIf (bAnd (eB (eOp2 neD (eVar 15) (eFz (fList (eCons (eVar 12) (eNil)))))) (eB (eOp2 eqD (eFz (fComp (iSq (eVar 12)) (tName 16) [16] (bAnd (bNot (eB (eOp1 (isiD "str") (eVar 16)))) (eB (eOp2 gtD (eOpN lenD (eCons (eIdx (eVar 16) (eC (.int 0))) eNil)) (eC (.int 7))))) (eVar 16))) (eFz (eLst (eNil)))))) (sSeq (m_law_3) (m_law_4)) (sNil)
def m_law_14 : SM := sIf (eB (eOp2 gtD (eOpN lenD (eCons (eVar 4) eNil)) (eC (.int 1)))) (m_law_5) (sNil)
def m_law_15 : SM := sSeq (sFrz 17) (sFor (iSq (eVar 17)) (tName 19) (m_law_7))
def m_law_16 : SM := sMut 6 [9, 10, 11, 12, 13, 14, 15, 16, 17, 18, 19, 20] (eIdx (eIdx (eVar 6) (eVar 14)) (eC (.int 1)))
def m_law_17 : SM := sIf (bOr (eB (eOp2 neD (eOpN reprL (eCons (eOp1 (fldD "Book" "rules") (eVar 7)) eNil)) (eOpN reprL (eCons (eOpN tupleD (eCons (eVar 4) eNil)) eNil)))) (eB (eEqI "Book" f_Book___eq__ true (eVar 7) (eVar 8)))) (m_law_8) (sNil)
def m_law_18 : SM := sRet (eC (.bl false))
def m_law_19 : SM := sAsg (tName 3) (eCall f__law_signs (eCons (eVar 1) (eNil)))
def m_law_20 : SM := sPar2 4 5 (iV (eCall f__law_rules (eCons (eVar 1) (eCons (eVar 3) (eCons (eC (.int 5)) (eCons (eC (.int 7)) (eNil))))))) (iV (eCall f__law_made (eCons (eVar 3) (eNil))))
def m_law_21 : SM := sAsg (tName 6) (eCall f__law_lists (eCons (eVar 4) (eNil)))
def m_law_22 : SM := sPar2 7 8 (iV (eMake "Book" i_Book (eCons (eVar 5) (eCons (eVar 6) (eNil))))) (iV (eMakeK "Book" i_Book [1, 0] (eCons (eOpN tupleD (eCons (eVar 4) eNil)) (eCons (eCall f__law_made (eCons (eVar 3) (eNil))) (eNil)))))
def m_law_23 : SM := sIf (bOr (eB (eOp2 neD (eOpN reprL (eCons (eTup (eCons (eOp1 (fldD "Book" "rules") (eVar 7)) (eCons (eOp1 (fldD "Book" "names") (eVar 7)) (eNil)))) eNil)) (eOpN reprL (eCons (eTup (eCons (eOpN tupleD (eCons (eVar 4) eNil)) (eCons (eOpN tupleD (eCons (eFz (fComp (iSq (eVar 4)) (tName 9) [9] (tYesE) (eIdx (eVar 9) (eC (.int 0))))) eNil)) (eNil)))) eNil)))) (bOr (eB (eEqI "Signs" f_Signs___eq__ true (eOp1 (fldD "Book" "signs") (eVar 7)) (eVar 5))) (bOr (eB (eEqI "Book" f_Book___eq__ true (eVar 7) (eVar 8))) (eB (eEqI "Book" f_Book___eq__ false (eVar 7) (eOp1 (fldD "Book" "rules") (eVar 7))))))) (m_law_0) (sNil)
def m_law_24 : SM := sFor (iEn (eCons (eVar 4) (eNil))) (tTupT [tName 10, tTupT [tName 11, tName 12, tName 13]]) (m_law_2)
def m_law_25 : SM := sIf (eB (eOp2 neD (eVar 4) (eFz (eLst (eNil))))) (sSeq (m_law_9) (sSeq (m_law_10) (sSeq (m_law_11) (sSeq (m_law_12) (sSeq (m_law_13) (sSeq (m_law_14) (sSeq (m_law_15) (sSeq (m_law_16) (m_law_17))))))))) (sNil)
def m_law_26 : SM := sAsg (tName 20) (eTup (eCons (eIdx (eVar 3) (eC (.int 0))) (eCons (eFz (fCat (eIdx (eVar 3) (eC (.int 1))) (eFz (eLst (eCons (eTup (eCons (eC (.str "zz")) (eCons (eTup (eNil)) (eCons (eIdx (eIdx (eVar 3) (eC (.int 0))) (eC (.int 0))) (eNil))))) (eNil)))))) (eNil))))
def m_law_27 : SM := sIf (bOr (eB (eEqI "Book" f_Book___eq__ false (eMake "Book" i_Book (eCons (eCall f__law_made (eCons (eVar 20) (eNil))) (eCons (eVar 4) (eNil)))) (eVar 7))) (eB (eEqI "Book" f_Book___eq__ false (eMake "Book" i_Book (eCons (eCall f__law_made (eCons (eTup (eCons (eIdx (eVar 3) (eC (.int 0))) (eCons (eFz (fRev (eIdx (eVar 3) (eC (.int 1))))) (eNil)))) (eNil))) (eCons (eVar 4) (eNil)))) (eVar 7)))) (m_law_18) (sNil)
def m_law_28 : SM := sFor (iRg (eCons (eC (.int 4)) (eNil))) (tName 2) (sSeq (m_law_19) (sSeq (m_law_20) (sSeq (m_law_21) (sSeq (m_law_22) (sSeq (m_law_23) (sSeq (m_law_24) (sSeq (m_law_25) (sSeq (m_law_26) (m_law_27)))))))))
def m_law_29 : SM := sRet (eC (.bl true))
def m_law : SM := sSeq (m_law_28) (m_law_29)
structure Txt (K : PySem.W.Frag) (mg : Str → Option Value) : Prop where
  d_is_listed : DefP K mg "is_listed" s_is_listed ["value"]
  d_is_row : DefP K mg "is_row" s_is_row ["value", "many"]
  d_is_name : DefP K mg "is_name" s_is_name ["value"]
  d_are_names : DefP K mg "are_names" s_are_names ["value", "most"]
  d_fixed : DefP K mg "fixed" s_fixed ["value"]
  d_is_symbol : DefP K mg "is_symbol" s_is_symbol ["value", "sorts"]
  d_are_symbols : DefP K mg "are_symbols" s_are_symbols ["value", "sorts"]
  m_Signs_need_symbol : MetF K mg "Signs" "need_symbol" s_Signs_need_symbol ["self", "name"]
  m_Signs_arguments : MetF K mg "Signs" "arguments" s_Signs_arguments ["self", "name"]
  m_Signs_sort_of : MetF K mg "Signs" "sort_of" s_Signs_sort_of ["self", "name"]
  make_Signs : MakF K mg "Signs" s_Signs___init__ ["self", "sorts", "symbols"]
  m_Signs___eq__ : MetF K mg "Signs" "__eq__" s_Signs___eq__ ["self", "other"]
  d_need_signs : DefP K mg "need_signs" s_need_signs ["value"]
  d_is_variable : DefP K mg "is_variable" s_is_variable ["word"]
  d_arity : DefP K mg "arity" s_arity ["signs", "word"]
  d_fits : DefP K mg "fits" s_fits ["signs", "word", "sort", "is_leaf"]
  d_is_told : DefP K mg "is_told" s_is_told ["signs", "value", "sort", "is_leaf"]
  d_is_pattern : DefP K mg "is_pattern" s_is_pattern ["signs", "value"]
  d_variables_of : DefP K mg "variables_of" s_variables_of ["row"]
  d_sorts_in : DefP K mg "sorts_in" s_sorts_in ["signs", "row"]
  d_is_flat : DefP K mg "is_flat" s_is_flat ["signs", "row"]
  d_sort_reason : DefP K mg "sort_reason" s_sort_reason ["signs", "left", "right"]
  d_rule_reason : DefP K mg "rule_reason" s_rule_reason ["signs", "row", "names"]
  make_Book : MakF K mg "Book" s_Book___init__ ["self", "signs", "rules"]
  m_Book___eq__ : MetF K mg "Book" "__eq__" s_Book___eq__ ["self", "other"]
  m_Book_left : MetF K mg "Book" "left" s_Book_left ["self", "index"]
  m_Book_right : MetF K mg "Book" "right" s_Book_right ["self", "index"]
  d__law_draw : DefP K mg "_law_draw" s__law_draw ["pen", "many"]
  d__law_pick : DefP K mg "_law_pick" s__law_pick ["pen", "some"]
  d__law_mixed : DefP K mg "_law_mixed" s__law_mixed ["pen", "some"]
  d__law_signs : DefP K mg "_law_signs" s__law_signs ["pen"]
  d__law_symbol : DefP K mg "_law_symbol" s__law_symbol ["signs", "word"]
  d__law_left : DefP K mg "_law_left" s__law_left ["pen", "signs", "many"]
  d__law_right : DefP K mg "_law_right" s__law_right ["pen", "signs", "left", "held"]
  d__law_rules : DefP K mg "_law_rules" s__law_rules ["pen", "signs", "many", "words"]
  d__law_made : DefP K mg "_law_made" s__law_made ["signs"]
  d__law_lists : DefP K mg "_law_lists" s__law_lists ["value"]
  b_abs : mg "abs" = none
  b_all : mg "all" = none
  b_any : mg "any" = none
  b_bool : mg "bool" = none
  b_enumerate : mg "enumerate" = none
  b_int : mg "int" = none
  b_isinstance : mg "isinstance" = none
  b_len : mg "len" = none
  b_list : mg "list" = none
  b_range : mg "range" = none
  b_repr : mg "repr" = none
  b_str : mg "str" = none
  b_tuple : mg "tuple" = none
  c_LETTERS : ∃ u, mg "LETTERS" = some u ∧ RelV (.str "abcdefghijklmnopqrstuvwxyz") u
  c_MOST_ARGUMENTS : ∃ u, mg "MOST_ARGUMENTS" = some u ∧ RelV (.int 3) u
  c_MOST_LEFT : ∃ u, mg "MOST_LEFT" = some u ∧ RelV (.int 24) u
  c_MOST_RULES : ∃ u, mg "MOST_RULES" = some u ∧ RelV (.int 20) u
  c_MOST_SORTS : ∃ u, mg "MOST_SORTS" = some u ∧ RelV (.int 6) u
  c_MOST_SYMBOLS : ∃ u, mg "MOST_SYMBOLS" = some u ∧ RelV (.int 16) u
  ic_Book : C8.InsC K ((tabOf mg).cls "Book")
  cm_Book : mg "Book" = some (.ref ((tabOf mg).cls "Book"))
  ic_Signs : C8.InsC K ((tabOf mg).cls "Signs")
  cm_Signs : mg "Signs" = some (.ref ((tabOf mg).cls "Signs"))
  it_Book : PySem.W.kitOne K (.type "tuple") (.ref ((tabOf mg).cls "Book")) = some false
  it_Signs : PySem.W.kitOne K (.type "tuple") (.ref ((tabOf mg).cls "Signs")) = some false
  ne_Book : NeC K ((tabOf mg).cls "Book")
  ne_Signs : NeC K ((tabOf mg).cls "Signs")
  cl_Book : Cls K ((tabOf mg).cls "Book")
  cl_Signs : Cls K ((tabOf mg).cls "Signs")
  na_Book_names : NoAttr K ((tabOf mg).cls "Book") "names"
  na_Book_rules : NoAttr K ((tabOf mg).cls "Book") "rules"
  na_Book_signs : NoAttr K ((tabOf mg).cls "Book") "signs"
  na_Signs_known : NoAttr K ((tabOf mg).cls "Signs") "known"
  na_Signs_sorts : NoAttr K ((tabOf mg).cls "Signs") "sorts"
  na_Signs_symbols : NoAttr K ((tabOf mg).cls "Signs") "symbols"
  d__law_pen : DefP K mg "_law_pen" s__law_pen ["script"]
theorem txt_mk {K : PySem.W.Frag} {h : Heap} {mg : Str → Option Value} (X : K.In h) (G : h.Ns mainGlobals mg)
    {ABook : Addr}
    {ASigns : Addr}
    {f1 : Addr} {od1 an1 : Option Addr} {sl1 : Array (Option Value)} {oc1 kV1 dc1 pm1 cd1 ct1 : Value}
    {f2 : Addr} {od2 an2 : Option Addr} {sl2 : Array (Option Value)} {oc2 kV2 dc2 pm2 cd2 ct2 : Value}
    {f3 : Addr} {od3 an3 : Option Addr} {sl3 : Array (Option Value)} {oc3 kV3 dc3 pm3 cd3 ct3 : Value}
    {f4 : Addr} {od4 an4 : Option Addr} {sl4 : Array (Option Value)} {oc4 kV4 dc4 pm4 cd4 ct4 : Value}
    {f5 : Addr} {od5 an5 : Option Addr} {sl5 : Array (Option Value)} {oc5 kV5 dc5 pm5 cd5 ct5 : Value}
    {f6 : Addr} {od6 an6 : Option Addr} {sl6 : Array (Option Value)} {oc6 kV6 dc6 pm6 cd6 ct6 : Value}
    {f7 : Addr} {od7 an7 : Option Addr} {sl7 : Array (Option Value)} {oc7 kV7 dc7 pm7 cd7 ct7 : Value}
    {f8 : Addr} {od8 an8 : Option Addr} {sl8 : Array (Option Value)} {oc8 kV8 dc8 pm8 cd8 ct8 : Value}
    {f9 : Addr} {od9 an9 : Option Addr} {sl9 : Array (Option Value)} {oc9 kV9 dc9 pm9 cd9 ct9 : Value}
    {f10 : Addr} {od10 an10 : Option Addr} {sl10 : Array (Option Value)} {oc10 kV10 dc10 pm10 cd10 ct10 : Value}
    {f11 : Addr} {od11 an11 : Option Addr} {sl11 : Array (Option Value)} {oc11 kV11 dc11 pm11 cd11 ct11 : Value}
    {f12 : Addr} {od12 an12 : Option Addr} {sl12 : Array (Option Value)} {oc12 kV12 dc12 pm12 cd12 ct12 : Value}
    {f13 : Addr} {od13 an13 : Option Addr} {sl13 : Array (Option Value)} {oc13 kV13 dc13 pm13 cd13 ct13 : Value}
    {f14 : Addr} {od14 an14 : Option Addr} {sl14 : Array (Option Value)} {oc14 kV14 dc14 pm14 cd14 ct14 : Value}
    {f15 : Addr} {od15 an15 : Option Addr} {sl15 : Array (Option Value)} {oc15 kV15 dc15 pm15 cd15 ct15 : Value}
    {f16 : Addr} {od16 an16 : Option Addr} {sl16 : Array (Option Value)} {oc16 kV16 dc16 pm16 cd16 ct16 : Value}
    {f17 : Addr} {od17 an17 : Option Addr} {sl17 : Array (Option Value)} {oc17 kV17 dc17 pm17 cd17 ct17 : Value}
    {f18 : Addr} {od18 an18 : Option Addr} {sl18 : Array (Option Value)} {oc18 kV18 dc18 pm18 cd18 ct18 : Value}
    {f19 : Addr} {od19 an19 : Option Addr} {sl19 : Array (Option Value)} {oc19 kV19 dc19 pm19 cd19 ct19 : Value}
    {f20 : Addr} {od20 an20 : Option Addr} {sl20 : Array (Option Value)} {oc20 kV20 dc20 pm20 cd20 ct20 : Value}
    {f21 : Addr} {od21 an21 : Option Addr} {sl21 : Array (Option Value)} {oc21 kV21 dc21 pm21 cd21 ct21 : Value}
    {f22 : Addr} {od22 an22 : Option Addr} {sl22 : Array (Option Value)} {oc22 kV22 dc22 pm22 cd22 ct22 : Value}
    {f23 : Addr} {od23 an23 : Option Addr} {sl23 : Array (Option Value)} {oc23 kV23 dc23 pm23 cd23 ct23 : Value}
    {f24 : Addr} {od24 an24 : Option Addr} {sl24 : Array (Option Value)} {oc24 kV24 dc24 pm24 cd24 ct24 : Value}
    {f25 : Addr} {od25 an25 : Option Addr} {sl25 : Array (Option Value)} {oc25 kV25 dc25 pm25 cd25 ct25 : Value}
    {f26 : Addr} {od26 an26 : Option Addr} {sl26 : Array (Option Value)} {oc26 kV26 dc26 pm26 cd26 ct26 : Value}
    {f27 : Addr} {od27 an27 : Option Addr} {sl27 : Array (Option Value)} {oc27 kV27 dc27 pm27 cd27 ct27 : Value}
    {f28 : Addr} {od28 an28 : Option Addr} {sl28 : Array (Option Value)} {oc28 kV28 dc28 pm28 cd28 ct28 : Value}
    {f29 : Addr} {od29 an29 : Option Addr} {sl29 : Array (Option Value)} {oc29 kV29 dc29 pm29 cd29 ct29 : Value}
    {f30 : Addr} {od30 an30 : Option Addr} {sl30 : Array (Option Value)} {oc30 kV30 dc30 pm30 cd30 ct30 : Value}
    {f31 : Addr} {od31 an31 : Option Addr} {sl31 : Array (Option Value)} {oc31 kV31 dc31 pm31 cd31 ct31 : Value}
    {f32 : Addr} {od32 an32 : Option Addr} {sl32 : Array (Option Value)} {oc32 kV32 dc32 pm32 cd32 ct32 : Value}
    {f33 : Addr} {od33 an33 : Option Addr} {sl33 : Array (Option Value)} {oc33 kV33 dc33 pm33 cd33 ct33 : Value}
    {f34 : Addr} {od34 an34 : Option Addr} {sl34 : Array (Option Value)} {oc34 kV34 dc34 pm34 cd34 ct34 : Value}
    {f35 : Addr} {od35 an35 : Option Addr} {sl35 : Array (Option Value)} {oc35 kV35 dc35 pm35 cd35 ct35 : Value}
    {f36 : Addr} {od36 an36 : Option Addr} {sl36 : Array (Option Value)} {oc36 kV36 dc36 pm36 cd36 ct36 : Value}
    {f37 : Addr} {od37 an37 : Option Addr} {sl37 : Array (Option Value)} {oc37 kV37 dc37 pm37 cd37 ct37 : Value}
    {f38 : Addr} {od38 an38 : Option Addr} {sl38 : Array (Option Value)} {oc38 kV38 dc38 pm38 cd38 ct38 : Value}
    {u_LETTERS : Value}
    {u_MOST_ARGUMENTS : Value}
    {u_MOST_LEFT : Value}
    {u_MOST_RULES : Value}
    {u_MOST_SORTS : Value}
    {u_MOST_SYMBOLS : Value}
    (aCBook : PySem.W.nsIn K mainGlobals "Book" = some (some (.ref ABook)))
    (pgBook : PySem.W.plainGet K ABook Str.empty = true) (hdBook : PySem.W.hasDictIn K ABook = true) (poBook : PySem.W.plainOver K ABook = true) (saBook : PySem.W.findIn K (.ref ABook) "__setattr__" = some (some (.builtin "object.__setattr__"))) (mkBook : PySem.W.makesIn K ABook = true) (kcBook : PySem.W.keepIn K (.ref ABook) = true)
    (aCSigns : PySem.W.nsIn K mainGlobals "Signs" = some (some (.ref ASigns)))
    (pgSigns : PySem.W.plainGet K ASigns Str.empty = true) (hdSigns : PySem.W.hasDictIn K ASigns = true) (poSigns : PySem.W.plainOver K ASigns = true) (saSigns : PySem.W.findIn K (.ref ASigns) "__setattr__" = some (some (.builtin "object.__setattr__"))) (mkSigns : PySem.W.makesIn K ASigns = true) (kcSigns : PySem.W.keepIn K (.ref ASigns) = true)
    (a1 : PySem.W.nsIn K mainGlobals "is_listed" = some (some (.ref f1)))
    (l1 : K.lookup f1 = some ⟨oc1, od1, .func (PySem.W.fnOf "is_listed" "is_listed" (defArgs s_is_listed) (defBody s_is_listed) (defScope s_is_listed) .none kV1 dc1 pm1 an1 cd1 ct1), sl1⟩)
    (c1 : PySem.W.codeIn K cd1 "is_listed" = true)
    (k1 : PySem.W.keepIn K (.ref f1) = true)
    (a2 : PySem.W.nsIn K mainGlobals "is_row" = some (some (.ref f2)))
    (l2 : K.lookup f2 = some ⟨oc2, od2, .func (PySem.W.fnOf "is_row" "is_row" (defArgs s_is_row) (defBody s_is_row) (defScope s_is_row) .none kV2 dc2 pm2 an2 cd2 ct2), sl2⟩)
    (c2 : PySem.W.codeIn K cd2 "is_row" = true)
    (k2 : PySem.W.keepIn K (.ref f2) = true)
    (a3 : PySem.W.nsIn K mainGlobals "is_name" = some (some (.ref f3)))
    (l3 : K.lookup f3 = some ⟨oc3, od3, .func (PySem.W.fnOf "is_name" "is_name" (defArgs s_is_name) (defBody s_is_name) (defScope s_is_name) .none kV3 dc3 pm3 an3 cd3 ct3), sl3⟩)
    (c3 : PySem.W.codeIn K cd3 "is_name" = true)
    (k3 : PySem.W.keepIn K (.ref f3) = true)
    (a4 : PySem.W.nsIn K mainGlobals "are_names" = some (some (.ref f4)))
    (l4 : K.lookup f4 = some ⟨oc4, od4, .func (PySem.W.fnOf "are_names" "are_names" (defArgs s_are_names) (defBody s_are_names) (defScope s_are_names) .none kV4 dc4 pm4 an4 cd4 ct4), sl4⟩)
    (c4 : PySem.W.codeIn K cd4 "are_names" = true)
    (k4 : PySem.W.keepIn K (.ref f4) = true)
    (a5 : PySem.W.nsIn K mainGlobals "fixed" = some (some (.ref f5)))
    (l5 : K.lookup f5 = some ⟨oc5, od5, .func (PySem.W.fnOf "fixed" "fixed" (defArgs s_fixed) (defBody s_fixed) (defScope s_fixed) .none kV5 dc5 pm5 an5 cd5 ct5), sl5⟩)
    (c5 : PySem.W.codeIn K cd5 "fixed" = true)
    (k5 : PySem.W.keepIn K (.ref f5) = true)
    (a6 : PySem.W.nsIn K mainGlobals "is_symbol" = some (some (.ref f6)))
    (l6 : K.lookup f6 = some ⟨oc6, od6, .func (PySem.W.fnOf "is_symbol" "is_symbol" (defArgs s_is_symbol) (defBody s_is_symbol) (defScope s_is_symbol) .none kV6 dc6 pm6 an6 cd6 ct6), sl6⟩)
    (c6 : PySem.W.codeIn K cd6 "is_symbol" = true)
    (k6 : PySem.W.keepIn K (.ref f6) = true)
    (a7 : PySem.W.nsIn K mainGlobals "are_symbols" = some (some (.ref f7)))
    (l7 : K.lookup f7 = some ⟨oc7, od7, .func (PySem.W.fnOf "are_symbols" "are_symbols" (defArgs s_are_symbols) (defBody s_are_symbols) (defScope s_are_symbols) .none kV7 dc7 pm7 an7 cd7 ct7), sl7⟩)
    (c7 : PySem.W.codeIn K cd7 "are_symbols" = true)
    (k7 : PySem.W.keepIn K (.ref f7) = true)
    (a8 : PySem.W.findIn K (.ref ASigns) "need_symbol" = some (some (.ref f8)))
    (l8 : K.lookup f8 = some ⟨oc8, od8, .func (PySem.W.fnOf "need_symbol" "Signs.need_symbol" (defArgs s_Signs_need_symbol) (defBody s_Signs_need_symbol) (defScope s_Signs_need_symbol) .none kV8 dc8 pm8 an8 cd8 ct8), sl8⟩)
    (c8 : PySem.W.codeIn K cd8 "Signs.need_symbol" = true)
    (k8 : PySem.W.keepIn K (.ref f8) = true)
    (i8 : PySem.W.isFn K (.ref f8) = true)
    (a9 : PySem.W.findIn K (.ref ASigns) "arguments" = some (some (.ref f9)))
    (l9 : K.lookup f9 = some ⟨oc9, od9, .func (PySem.W.fnOf "arguments" "Signs.arguments" (defArgs s_Signs_arguments) (defBody s_Signs_arguments) (defScope s_Signs_arguments) .none kV9 dc9 pm9 an9 cd9 ct9), sl9⟩)
    (c9 : PySem.W.codeIn K cd9 "Signs.arguments" = true)
    (k9 : PySem.W.keepIn K (.ref f9) = true)
    (i9 : PySem.W.isFn K (.ref f9) = true)
    (a10 : PySem.W.findIn K (.ref ASigns) "sort_of" = some (some (.ref f10)))
    (l10 : K.lookup f10 = some ⟨oc10, od10, .func (PySem.W.fnOf "sort_of" "Signs.sort_of" (defArgs s_Signs_sort_of) (defBody s_Signs_sort_of) (defScope s_Signs_sort_of) .none kV10 dc10 pm10 an10 cd10 ct10), sl10⟩)
    (c10 : PySem.W.codeIn K cd10 "Signs.sort_of" = true)
    (k10 : PySem.W.keepIn K (.ref f10) = true)
    (i10 : PySem.W.isFn K (.ref f10) = true)
    (a11 : PySem.W.findIn K (.ref ASigns) "__init__" = some (some (.ref f11)))
    (l11 : K.lookup f11 = some ⟨oc11, od11, .func (PySem.W.fnOf "__init__" "Signs.__init__" (defArgs s_Signs___init__) (defBody s_Signs___init__) (defScope s_Signs___init__) .none kV11 dc11 pm11 an11 cd11 ct11), sl11⟩)
    (c11 : PySem.W.codeIn K cd11 "Signs.__init__" = true)
    (k11 : PySem.W.keepIn K (.ref f11) = true)
    (i11 : PySem.W.isFn K (.ref f11) = true)
    (a12 : PySem.W.findIn K (.ref ASigns) "__eq__" = some (some (.ref f12)))
    (l12 : K.lookup f12 = some ⟨oc12, od12, .func (PySem.W.fnOf "__eq__" "Signs.__eq__" (defArgs s_Signs___eq__) (defBody s_Signs___eq__) (defScope s_Signs___eq__) .none kV12 dc12 pm12 an12 cd12 ct12), sl12⟩)
    (c12 : PySem.W.codeIn K cd12 "Signs.__eq__" = true)
    (k12 : PySem.W.keepIn K (.ref f12) = true)
    (i12 : PySem.W.isFn K (.ref f12) = true)
    (a13 : PySem.W.nsIn K mainGlobals "need_signs" = some (some (.ref f13)))
    (l13 : K.lookup f13 = some ⟨oc13, od13, .func (PySem.W.fnOf "need_signs" "need_signs" (defArgs s_need_signs) (defBody s_need_signs) (defScope s_need_signs) .none kV13 dc13 pm13 an13 cd13 ct13), sl13⟩)
    (c13 : PySem.W.codeIn K cd13 "need_signs" = true)
    (k13 : PySem.W.keepIn K (.ref f13) = true)
    (a14 : PySem.W.nsIn K mainGlobals "is_variable" = some (some (.ref f14)))
    (l14 : K.lookup f14 = some ⟨oc14, od14, .func (PySem.W.fnOf "is_variable" "is_variable" (defArgs s_is_variable) (defBody s_is_variable) (defScope s_is_variable) .none kV14 dc14 pm14 an14 cd14 ct14), sl14⟩)
    (c14 : PySem.W.codeIn K cd14 "is_variable" = true)
    (k14 : PySem.W.keepIn K (.ref f14) = true)
    (a15 : PySem.W.nsIn K mainGlobals "arity" = some (some (.ref f15)))
    (l15 : K.lookup f15 = some ⟨oc15, od15, .func (PySem.W.fnOf "arity" "arity" (defArgs s_arity) (defBody s_arity) (defScope s_arity) .none kV15 dc15 pm15 an15 cd15 ct15), sl15⟩)
    (c15 : PySem.W.codeIn K cd15 "arity" = true)
    (k15 : PySem.W.keepIn K (.ref f15) = true)
    (a16 : PySem.W.nsIn K mainGlobals "fits" = some (some (.ref f16)))
    (l16 : K.lookup f16 = some ⟨oc16, od16, .func (PySem.W.fnOf "fits" "fits" (defArgs s_fits) (defBody s_fits) (defScope s_fits) .none kV16 dc16 pm16 an16 cd16 ct16), sl16⟩)
    (c16 : PySem.W.codeIn K cd16 "fits" = true)
    (k16 : PySem.W.keepIn K (.ref f16) = true)
    (a17 : PySem.W.nsIn K mainGlobals "is_told" = some (some (.ref f17)))
    (l17 : K.lookup f17 = some ⟨oc17, od17, .func (PySem.W.fnOf "is_told" "is_told" (defArgs s_is_told) (defBody s_is_told) (defScope s_is_told) .none kV17 dc17 pm17 an17 cd17 ct17), sl17⟩)
    (c17 : PySem.W.codeIn K cd17 "is_told" = true)
    (k17 : PySem.W.keepIn K (.ref f17) = true)
    (a18 : PySem.W.nsIn K mainGlobals "is_pattern" = some (some (.ref f18)))
    (l18 : K.lookup f18 = some ⟨oc18, od18, .func (PySem.W.fnOf "is_pattern" "is_pattern" (defArgs s_is_pattern) (defBody s_is_pattern) (defScope s_is_pattern) .none kV18 dc18 pm18 an18 cd18 ct18), sl18⟩)
    (c18 : PySem.W.codeIn K cd18 "is_pattern" = true)
    (k18 : PySem.W.keepIn K (.ref f18) = true)
    (a19 : PySem.W.nsIn K mainGlobals "variables_of" = some (some (.ref f19)))
    (l19 : K.lookup f19 = some ⟨oc19, od19, .func (PySem.W.fnOf "variables_of" "variables_of" (defArgs s_variables_of) (defBody s_variables_of) (defScope s_variables_of) .none kV19 dc19 pm19 an19 cd19 ct19), sl19⟩)
    (c19 : PySem.W.codeIn K cd19 "variables_of" = true)
    (k19 : PySem.W.keepIn K (.ref f19) = true)
    (a20 : PySem.W.nsIn K mainGlobals "sorts_in" = some (some (.ref f20)))
    (l20 : K.lookup f20 = some ⟨oc20, od20, .func (PySem.W.fnOf "sorts_in" "sorts_in" (defArgs s_sorts_in) (defBody s_sorts_in) (defScope s_sorts_in) .none kV20 dc20 pm20 an20 cd20 ct20), sl20⟩)
    (c20 : PySem.W.codeIn K cd20 "sorts_in" = true)
    (k20 : PySem.W.keepIn K (.ref f20) = true)
    (a21 : PySem.W.nsIn K mainGlobals "is_flat" = some (some (.ref f21)))
    (l21 : K.lookup f21 = some ⟨oc21, od21, .func (PySem.W.fnOf "is_flat" "is_flat" (defArgs s_is_flat) (defBody s_is_flat) (defScope s_is_flat) .none kV21 dc21 pm21 an21 cd21 ct21), sl21⟩)
    (c21 : PySem.W.codeIn K cd21 "is_flat" = true)
    (k21 : PySem.W.keepIn K (.ref f21) = true)
    (a22 : PySem.W.nsIn K mainGlobals "sort_reason" = some (some (.ref f22)))
    (l22 : K.lookup f22 = some ⟨oc22, od22, .func (PySem.W.fnOf "sort_reason" "sort_reason" (defArgs s_sort_reason) (defBody s_sort_reason) (defScope s_sort_reason) .none kV22 dc22 pm22 an22 cd22 ct22), sl22⟩)
    (c22 : PySem.W.codeIn K cd22 "sort_reason" = true)
    (k22 : PySem.W.keepIn K (.ref f22) = true)
    (a23 : PySem.W.nsIn K mainGlobals "rule_reason" = some (some (.ref f23)))
    (l23 : K.lookup f23 = some ⟨oc23, od23, .func (PySem.W.fnOf "rule_reason" "rule_reason" (defArgs s_rule_reason) (defBody s_rule_reason) (defScope s_rule_reason) .none kV23 dc23 pm23 an23 cd23 ct23), sl23⟩)
    (c23 : PySem.W.codeIn K cd23 "rule_reason" = true)
    (k23 : PySem.W.keepIn K (.ref f23) = true)
    (a24 : PySem.W.findIn K (.ref ABook) "__init__" = some (some (.ref f24)))
    (l24 : K.lookup f24 = some ⟨oc24, od24, .func (PySem.W.fnOf "__init__" "Book.__init__" (defArgs s_Book___init__) (defBody s_Book___init__) (defScope s_Book___init__) .none kV24 dc24 pm24 an24 cd24 ct24), sl24⟩)
    (c24 : PySem.W.codeIn K cd24 "Book.__init__" = true)
    (k24 : PySem.W.keepIn K (.ref f24) = true)
    (i24 : PySem.W.isFn K (.ref f24) = true)
    (a25 : PySem.W.findIn K (.ref ABook) "__eq__" = some (some (.ref f25)))
    (l25 : K.lookup f25 = some ⟨oc25, od25, .func (PySem.W.fnOf "__eq__" "Book.__eq__" (defArgs s_Book___eq__) (defBody s_Book___eq__) (defScope s_Book___eq__) .none kV25 dc25 pm25 an25 cd25 ct25), sl25⟩)
    (c25 : PySem.W.codeIn K cd25 "Book.__eq__" = true)
    (k25 : PySem.W.keepIn K (.ref f25) = true)
    (i25 : PySem.W.isFn K (.ref f25) = true)
    (a26 : PySem.W.findIn K (.ref ABook) "left" = some (some (.ref f26)))
    (l26 : K.lookup f26 = some ⟨oc26, od26, .func (PySem.W.fnOf "left" "Book.left" (defArgs s_Book_left) (defBody s_Book_left) (defScope s_Book_left) .none kV26 dc26 pm26 an26 cd26 ct26), sl26⟩)
    (c26 : PySem.W.codeIn K cd26 "Book.left" = true)
    (k26 : PySem.W.keepIn K (.ref f26) = true)
    (i26 : PySem.W.isFn K (.ref f26) = true)
    (a27 : PySem.W.findIn K (.ref ABook) "right" = some (some (.ref f27)))
    (l27 : K.lookup f27 = some ⟨oc27, od27, .func (PySem.W.fnOf "right" "Book.right" (defArgs s_Book_right) (defBody s_Book_right) (defScope s_Book_right) .none kV27 dc27 pm27 an27 cd27 ct27), sl27⟩)
    (c27 : PySem.W.codeIn K cd27 "Book.right" = true)
    (k27 : PySem.W.keepIn K (.ref f27) = true)
    (i27 : PySem.W.isFn K (.ref f27) = true)
    (a28 : PySem.W.nsIn K mainGlobals "_law_draw" = some (some (.ref f28)))
    (l28 : K.lookup f28 = some ⟨oc28, od28, .func (PySem.W.fnOf "_law_draw" "_law_draw" (defArgs s__law_draw) (defBody s__law_draw) (defScope s__law_draw) .none kV28 dc28 pm28 an28 cd28 ct28), sl28⟩)
    (c28 : PySem.W.codeIn K cd28 "_law_draw" = true)
    (k28 : PySem.W.keepIn K (.ref f28) = true)
    (a29 : PySem.W.nsIn K mainGlobals "_law_pick" = some (some (.ref f29)))
    (l29 : K.lookup f29 = some ⟨oc29, od29, .func (PySem.W.fnOf "_law_pick" "_law_pick" (defArgs s__law_pick) (defBody s__law_pick) (defScope s__law_pick) .none kV29 dc29 pm29 an29 cd29 ct29), sl29⟩)
    (c29 : PySem.W.codeIn K cd29 "_law_pick" = true)
    (k29 : PySem.W.keepIn K (.ref f29) = true)
    (a30 : PySem.W.nsIn K mainGlobals "_law_mixed" = some (some (.ref f30)))
    (l30 : K.lookup f30 = some ⟨oc30, od30, .func (PySem.W.fnOf "_law_mixed" "_law_mixed" (defArgs s__law_mixed) (defBody s__law_mixed) (defScope s__law_mixed) .none kV30 dc30 pm30 an30 cd30 ct30), sl30⟩)
    (c30 : PySem.W.codeIn K cd30 "_law_mixed" = true)
    (k30 : PySem.W.keepIn K (.ref f30) = true)
    (a31 : PySem.W.nsIn K mainGlobals "_law_signs" = some (some (.ref f31)))
    (l31 : K.lookup f31 = some ⟨oc31, od31, .func (PySem.W.fnOf "_law_signs" "_law_signs" (defArgs s__law_signs) (defBody s__law_signs) (defScope s__law_signs) .none kV31 dc31 pm31 an31 cd31 ct31), sl31⟩)
    (c31 : PySem.W.codeIn K cd31 "_law_signs" = true)
    (k31 : PySem.W.keepIn K (.ref f31) = true)
    (a32 : PySem.W.nsIn K mainGlobals "_law_symbol" = some (some (.ref f32)))
    (l32 : K.lookup f32 = some ⟨oc32, od32, .func (PySem.W.fnOf "_law_symbol" "_law_symbol" (defArgs s__law_symbol) (defBody s__law_symbol) (defScope s__law_symbol) .none kV32 dc32 pm32 an32 cd32 ct32), sl32⟩)
    (c32 : PySem.W.codeIn K cd32 "_law_symbol" = true)
    (k32 : PySem.W.keepIn K (.ref f32) = true)
    (a33 : PySem.W.nsIn K mainGlobals "_law_left" = some (some (.ref f33)))
    (l33 : K.lookup f33 = some ⟨oc33, od33, .func (PySem.W.fnOf "_law_left" "_law_left" (defArgs s__law_left) (defBody s__law_left) (defScope s__law_left) .none kV33 dc33 pm33 an33 cd33 ct33), sl33⟩)
    (c33 : PySem.W.codeIn K cd33 "_law_left" = true)
    (k33 : PySem.W.keepIn K (.ref f33) = true)
    (a34 : PySem.W.nsIn K mainGlobals "_law_right" = some (some (.ref f34)))
    (l34 : K.lookup f34 = some ⟨oc34, od34, .func (PySem.W.fnOf "_law_right" "_law_right" (defArgs s__law_right) (defBody s__law_right) (defScope s__law_right) .none kV34 dc34 pm34 an34 cd34 ct34), sl34⟩)
    (c34 : PySem.W.codeIn K cd34 "_law_right" = true)
    (k34 : PySem.W.keepIn K (.ref f34) = true)
    (a35 : PySem.W.nsIn K mainGlobals "_law_rules" = some (some (.ref f35)))
    (l35 : K.lookup f35 = some ⟨oc35, od35, .func (PySem.W.fnOf "_law_rules" "_law_rules" (defArgs s__law_rules) (defBody s__law_rules) (defScope s__law_rules) .none kV35 dc35 pm35 an35 cd35 ct35), sl35⟩)
    (c35 : PySem.W.codeIn K cd35 "_law_rules" = true)
    (k35 : PySem.W.keepIn K (.ref f35) = true)
    (a36 : PySem.W.nsIn K mainGlobals "_law_made" = some (some (.ref f36)))
    (l36 : K.lookup f36 = some ⟨oc36, od36, .func (PySem.W.fnOf "_law_made" "_law_made" (defArgs s__law_made) (defBody s__law_made) (defScope s__law_made) .none kV36 dc36 pm36 an36 cd36 ct36), sl36⟩)
    (c36 : PySem.W.codeIn K cd36 "_law_made" = true)
    (k36 : PySem.W.keepIn K (.ref f36) = true)
    (a37 : PySem.W.nsIn K mainGlobals "_law_lists" = some (some (.ref f37)))
    (l37 : K.lookup f37 = some ⟨oc37, od37, .func (PySem.W.fnOf "_law_lists" "_law_lists" (defArgs s__law_lists) (defBody s__law_lists) (defScope s__law_lists) .none kV37 dc37 pm37 an37 cd37 ct37), sl37⟩)
    (c37 : PySem.W.codeIn K cd37 "_law_lists" = true)
    (k37 : PySem.W.keepIn K (.ref f37) = true)
    (a38 : PySem.W.nsIn K mainGlobals "_law_pen" = some (some (.ref f38)))
    (l38 : K.lookup f38 = some ⟨oc38, od38, .func (PySem.W.fnOf "_law_pen" "_law_pen" (defArgs s__law_pen) (defBody s__law_pen) (defScope s__law_pen) .none kV38 dc38 pm38 an38 cd38 ct38), sl38⟩)
    (c38 : PySem.W.codeIn K cd38 "_law_pen" = true)
    (k38 : PySem.W.keepIn K (.ref f38) = true)
    (z_abs : PySem.W.nsIn K mainGlobals "abs" = some none)
    (z_all : PySem.W.nsIn K mainGlobals "all" = some none)
    (z_any : PySem.W.nsIn K mainGlobals "any" = some none)
    (z_bool : PySem.W.nsIn K mainGlobals "bool" = some none)
    (z_enumerate : PySem.W.nsIn K mainGlobals "enumerate" = some none)
    (z_int : PySem.W.nsIn K mainGlobals "int" = some none)
    (z_isinstance : PySem.W.nsIn K mainGlobals "isinstance" = some none)
    (z_len : PySem.W.nsIn K mainGlobals "len" = some none)
    (z_list : PySem.W.nsIn K mainGlobals "list" = some none)
    (z_range : PySem.W.nsIn K mainGlobals "range" = some none)
    (z_repr : PySem.W.nsIn K mainGlobals "repr" = some none)
    (z_str : PySem.W.nsIn K mainGlobals "str" = some none)
    (z_tuple : PySem.W.nsIn K mainGlobals "tuple" = some none)
    (y_LETTERS : PySem.W.nsIn K mainGlobals "LETTERS" = some (some u_LETTERS)) (r_LETTERS : RelV (.str "abcdefghijklmnopqrstuvwxyz") u_LETTERS)
    (y_MOST_ARGUMENTS : PySem.W.nsIn K mainGlobals "MOST_ARGUMENTS" = some (some u_MOST_ARGUMENTS)) (r_MOST_ARGUMENTS : RelV (.int 3) u_MOST_ARGUMENTS)
    (y_MOST_LEFT : PySem.W.nsIn K mainGlobals "MOST_LEFT" = some (some u_MOST_LEFT)) (r_MOST_LEFT : RelV (.int 24) u_MOST_LEFT)
    (y_MOST_RULES : PySem.W.nsIn K mainGlobals "MOST_RULES" = some (some u_MOST_RULES)) (r_MOST_RULES : RelV (.int 20) u_MOST_RULES)
    (y_MOST_SORTS : PySem.W.nsIn K mainGlobals "MOST_SORTS" = some (some u_MOST_SORTS)) (r_MOST_SORTS : RelV (.int 6) u_MOST_SORTS)
    (y_MOST_SYMBOLS : PySem.W.nsIn K mainGlobals "MOST_SYMBOLS" = some (some u_MOST_SYMBOLS)) (r_MOST_SYMBOLS : RelV (.int 16) u_MOST_SYMBOLS)
    (o1Book : PySem.W.mroIn K ABook (.type "object") = some true) (o2Book : PySem.W.findIn K (.ref ABook) "__ne__" = some (some (.builtin "object.__ne__")))
    (o1Signs : PySem.W.mroIn K ASigns (.type "object") = some true) (o2Signs : PySem.W.findIn K (.ref ASigns) "__ne__" = some (some (.builtin "object.__ne__")))
    (q1Book : PySem.W.findIn K (.ref ABook) "__class__" = some (some (.builtin "object.__class__"))) (q2Book : PySem.W.specialIn K (.builtin "object.__class__") "__get__" = some (some (.builtin "getset_descriptor.__get__"))) (q3Book : PySem.W.takesIn K (.builtin "object.__class__") = some true) (q4Book : PySem.W.mroIn K ABook (.type "object") = some true)
    (q1Signs : PySem.W.findIn K (.ref ASigns) "__class__" = some (some (.builtin "object.__class__"))) (q2Signs : PySem.W.specialIn K (.builtin "object.__class__") "__get__" = some (some (.builtin "getset_descriptor.__get__"))) (q3Signs : PySem.W.takesIn K (.builtin "object.__class__") = some true) (q4Signs : PySem.W.mroIn K ASigns (.type "object") = some true)
    (q5Book : PySem.W.typeIn K (.ref ABook) = some (.type "type"))
    (q5Signs : PySem.W.typeIn K (.ref ASigns) = some (.type "type"))
    (n_Book_names : PySem.W.findIn K (.ref ABook) "names" = some none)
    (n_Book_rules : PySem.W.findIn K (.ref ABook) "rules" = some none)
    (n_Book_signs : PySem.W.findIn K (.ref ABook) "signs" = some none)
    (n_Signs_known : PySem.W.findIn K (.ref ASigns) "known" = some none)
    (n_Signs_sorts : PySem.W.findIn K (.ref ASigns) "sorts" = some none)
    (n_Signs_symbols : PySem.W.findIn K (.ref ASigns) "symbols" = some none)
    : Txt K mg where
    d_is_listed := ⟨f1, _, fun_mk (st := s_is_listed) l1 c1 k1, ((fun_mk (st := s_is_listed) l1 c1 k1).binds (ps := ["value"]) fun _ _ _ _ _ _ us hl => match us, hl with | [_], _ => rfl), PySem.W.mg_of X G a1⟩
    d_is_row := ⟨f2, _, fun_mk (st := s_is_row) l2 c2 k2, ((fun_mk (st := s_is_row) l2 c2 k2).binds (ps := ["value", "many"]) fun _ _ _ _ _ _ us hl => match us, hl with | [_, _], _ => rfl), PySem.W.mg_of X G a2⟩
    d_is_name := ⟨f3, _, fun_mk (st := s_is_name) l3 c3 k3, ((fun_mk (st := s_is_name) l3 c3 k3).binds (ps := ["value"]) fun _ _ _ _ _ _ us hl => match us, hl with | [_], _ => rfl), PySem.W.mg_of X G a3⟩
    d_are_names := ⟨f4, _, fun_mk (st := s_are_names) l4 c4 k4, ((fun_mk (st := s_are_names) l4 c4 k4).binds (ps := ["value", "most"]) fun _ _ _ _ _ _ us hl => match us, hl with | [_, _], _ => rfl), PySem.W.mg_of X G a4⟩
    d_fixed := ⟨f5, _, fun_mk (st := s_fixed) l5 c5 k5, ((fun_mk (st := s_fixed) l5 c5 k5).binds (ps := ["value"]) fun _ _ _ _ _ _ us hl => match us, hl with | [_], _ => rfl), PySem.W.mg_of X G a5⟩
    d_is_symbol := ⟨f6, _, fun_mk (st := s_is_symbol) l6 c6 k6, ((fun_mk (st := s_is_symbol) l6 c6 k6).binds (ps := ["value", "sorts"]) fun _ _ _ _ _ _ us hl => match us, hl with | [_, _], _ => rfl), PySem.W.mg_of X G a6⟩
    d_are_symbols := ⟨f7, _, fun_mk (st := s_are_symbols) l7 c7 k7, ((fun_mk (st := s_are_symbols) l7 c7 k7).binds (ps := ["value", "sorts"]) fun _ _ _ _ _ _ us hl => match us, hl with | [_, _], _ => rfl), PySem.W.mg_of X G a7⟩
    m_Signs_need_symbol := ⟨f8, _, fun_mk (st := s_Signs_need_symbol) l8 c8 k8, ((fun_mk (st := s_Signs_need_symbol) l8 c8 k8).binds (ps := ["self", "name"]) fun _ _ _ _ _ _ us hl => match us, hl with | [_, _], _ => rfl), by rw [tab_cls (PySem.W.mg_of X G aCSigns)]; exact ⟨a8, i8, k8⟩⟩
    m_Signs_arguments := ⟨f9, _, fun_mk (st := s_Signs_arguments) l9 c9 k9, ((fun_mk (st := s_Signs_arguments) l9 c9 k9).binds (ps := ["self", "name"]) fun _ _ _ _ _ _ us hl => match us, hl with | [_, _], _ => rfl), by rw [tab_cls (PySem.W.mg_of X G aCSigns)]; exact ⟨a9, i9, k9⟩⟩
    m_Signs_sort_of := ⟨f10, _, fun_mk (st := s_Signs_sort_of) l10 c10 k10, ((fun_mk (st := s_Signs_sort_of) l10 c10 k10).binds (ps := ["self", "name"]) fun _ _ _ _ _ _ us hl => match us, hl with | [_, _], _ => rfl), by rw [tab_cls (PySem.W.mg_of X G aCSigns)]; exact ⟨a10, i10, k10⟩⟩
    make_Signs := ⟨f11, _, fun_mk (st := s_Signs___init__) l11 c11 k11, ((fun_mk (st := s_Signs___init__) l11 c11 k11).binds (ps := ["self", "sorts", "symbols"]) fun _ _ _ _ _ _ us hl => match us, hl with | [_, _, _], _ => rfl), by rw [tab_cls (PySem.W.mg_of X G aCSigns)]; exact ⟨mkSigns, a11, i11, kcSigns⟩, by rw [tab_cls (PySem.W.mg_of X G aCSigns)]; exact PySem.W.mg_of X G aCSigns⟩
    m_Signs___eq__ := ⟨f12, _, fun_mk (st := s_Signs___eq__) l12 c12 k12, ((fun_mk (st := s_Signs___eq__) l12 c12 k12).binds (ps := ["self", "other"]) fun _ _ _ _ _ _ us hl => match us, hl with | [_, _], _ => rfl), by rw [tab_cls (PySem.W.mg_of X G aCSigns)]; exact ⟨a12, i12, k12⟩⟩
    d_need_signs := ⟨f13, _, fun_mk (st := s_need_signs) l13 c13 k13, ((fun_mk (st := s_need_signs) l13 c13 k13).binds (ps := ["value"]) fun _ _ _ _ _ _ us hl => match us, hl with | [_], _ => rfl), PySem.W.mg_of X G a13⟩
    d_is_variable := ⟨f14, _, fun_mk (st := s_is_variable) l14 c14 k14, ((fun_mk (st := s_is_variable) l14 c14 k14).binds (ps := ["word"]) fun _ _ _ _ _ _ us hl => match us, hl with | [_], _ => rfl), PySem.W.mg_of X G a14⟩
    d_arity := ⟨f15, _, fun_mk (st := s_arity) l15 c15 k15, ((fun_mk (st := s_arity) l15 c15 k15).binds (ps := ["signs", "word"]) fun _ _ _ _ _ _ us hl => match us, hl with | [_, _], _ => rfl), PySem.W.mg_of X G a15⟩
    d_fits := ⟨f16, _, fun_mk (st := s_fits) l16 c16 k16, ((fun_mk (st := s_fits) l16 c16 k16).binds (ps := ["signs", "word", "sort", "is_leaf"]) fun _ _ _ _ _ _ us hl => match us, hl with | [_, _, _, _], _ => rfl), PySem.W.mg_of X G a16⟩
    d_is_told := ⟨f17, _, fun_mk (st := s_is_told) l17 c17 k17, ((fun_mk (st := s_is_told) l17 c17 k17).binds (ps := ["signs", "value", "sort", "is_leaf"]) fun _ _ _ _ _ _ us hl => match us, hl with | [_, _, _, _], _ => rfl), PySem.W.mg_of X G a17⟩
    d_is_pattern := ⟨f18, _, fun_mk (st := s_is_pattern) l18 c18 k18, ((fun_mk (st := s_is_pattern) l18 c18 k18).binds (ps := ["signs", "value"]) fun _ _ _ _ _ _ us hl => match us, hl with | [_, _], _ => rfl), PySem.W.mg_of X G a18⟩
    d_variables_of := ⟨f19, _, fun_mk (st := s_variables_of) l19 c19 k19, ((fun_mk (st := s_variables_of) l19 c19 k19).binds (ps := ["row"]) fun _ _ _ _ _ _ us hl => match us, hl with | [_], _ => rfl), PySem.W.mg_of X G a19⟩
    d_sorts_in := ⟨f20, _, fun_mk (st := s_sorts_in) l20 c20 k20, ((fun_mk (st := s_sorts_in) l20 c20 k20).binds (ps := ["signs", "row"]) fun _ _ _ _ _ _ us hl => match us, hl with | [_, _], _ => rfl), PySem.W.mg_of X G a20⟩
    d_is_flat := ⟨f21, _, fun_mk (st := s_is_flat) l21 c21 k21, ((fun_mk (st := s_is_flat) l21 c21 k21).binds (ps := ["signs", "row"]) fun _ _ _ _ _ _ us hl => match us, hl with | [_, _], _ => rfl), PySem.W.mg_of X G a21⟩
    d_sort_reason := ⟨f22, _, fun_mk (st := s_sort_reason) l22 c22 k22, ((fun_mk (st := s_sort_reason) l22 c22 k22).binds (ps := ["signs", "left", "right"]) fun _ _ _ _ _ _ us hl => match us, hl with | [_, _, _], _ => rfl), PySem.W.mg_of X G a22⟩
    d_rule_reason := ⟨f23, _, fun_mk (st := s_rule_reason) l23 c23 k23, ((fun_mk (st := s_rule_reason) l23 c23 k23).binds (ps := ["signs", "row", "names"]) fun _ _ _ _ _ _ us hl => match us, hl with | [_, _, _], _ => rfl), PySem.W.mg_of X G a23⟩
    make_Book := ⟨f24, _, fun_mk (st := s_Book___init__) l24 c24 k24, ((fun_mk (st := s_Book___init__) l24 c24 k24).binds (ps := ["self", "signs", "rules"]) fun _ _ _ _ _ _ us hl => match us, hl with | [_, _, _], _ => rfl), by rw [tab_cls (PySem.W.mg_of X G aCBook)]; exact ⟨mkBook, a24, i24, kcBook⟩, by rw [tab_cls (PySem.W.mg_of X G aCBook)]; exact PySem.W.mg_of X G aCBook⟩
    m_Book___eq__ := ⟨f25, _, fun_mk (st := s_Book___eq__) l25 c25 k25, ((fun_mk (st := s_Book___eq__) l25 c25 k25).binds (ps := ["self", "other"]) fun _ _ _ _ _ _ us hl => match us, hl with | [_, _], _ => rfl), by rw [tab_cls (PySem.W.mg_of X G aCBook)]; exact ⟨a25, i25, k25⟩⟩
    m_Book_left := ⟨f26, _, fun_mk (st := s_Book_left) l26 c26 k26, ((fun_mk (st := s_Book_left) l26 c26 k26).binds (ps := ["self", "index"]) fun _ _ _ _ _ _ us hl => match us, hl with | [_, _], _ => rfl), by rw [tab_cls (PySem.W.mg_of X G aCBook)]; exact ⟨a26, i26, k26⟩⟩
    m_Book_right := ⟨f27, _, fun_mk (st := s_Book_right) l27 c27 k27, ((fun_mk (st := s_Book_right) l27 c27 k27).binds (ps := ["self", "index"]) fun _ _ _ _ _ _ us hl => match us, hl with | [_, _], _ => rfl), by rw [tab_cls (PySem.W.mg_of X G aCBook)]; exact ⟨a27, i27, k27⟩⟩
    d__law_draw := ⟨f28, _, fun_mk (st := s__law_draw) l28 c28 k28, ((fun_mk (st := s__law_draw) l28 c28 k28).binds (ps := ["pen", "many"]) fun _ _ _ _ _ _ us hl => match us, hl with | [_, _], _ => rfl), PySem.W.mg_of X G a28⟩
    d__law_pick := ⟨f29, _, fun_mk (st := s__law_pick) l29 c29 k29, ((fun_mk (st := s__law_pick) l29 c29 k29).binds (ps := ["pen", "some"]) fun _ _ _ _ _ _ us hl => match us, hl with | [_, _], _ => rfl), PySem.W.mg_of X G a29⟩
    d__law_mixed := ⟨f30, _, fun_mk (st := s__law_mixed) l30 c30 k30, ((fun_mk (st := s__law_mixed) l30 c30 k30).binds (ps := ["pen", "some"]) fun _ _ _ _ _ _ us hl => match us, hl with | [_, _], _ => rfl), PySem.W.mg_of X G a30⟩
    d__law_signs := ⟨f31, _, fun_mk (st := s__law_signs) l31 c31 k31, ((fun_mk (st := s__law_signs) l31 c31 k31).binds (ps := ["pen"]) fun _ _ _ _ _ _ us hl => match us, hl with | [_], _ => rfl), PySem.W.mg_of X G a31⟩
    d__law_symbol := ⟨f32, _, fun_mk (st := s__law_symbol) l32 c32 k32, ((fun_mk (st := s__law_symbol) l32 c32 k32).binds (ps := ["signs", "word"]) fun _ _ _ _ _ _ us hl => match us, hl with | [_, _], _ => rfl), PySem.W.mg_of X G a32⟩
    d__law_left := ⟨f33, _, fun_mk (st := s__law_left) l33 c33 k33, ((fun_mk (st := s__law_left) l33 c33 k33).binds (ps := ["pen", "signs", "many"]) fun _ _ _ _ _ _ us hl => match us, hl with | [_, _, _], _ => rfl), PySem.W.mg_of X G a33⟩
    d__law_right := ⟨f34, _, fun_mk (st := s__law_right) l34 c34 k34, ((fun_mk (st := s__law_right) l34 c34 k34).binds (ps := ["pen", "signs", "left", "held"]) fun _ _ _ _ _ _ us hl => match us, hl with | [_, _, _, _], _ => rfl), PySem.W.mg_of X G a34⟩
    d__law_rules := ⟨f35, _, fun_mk (st := s__law_rules) l35 c35 k35, ((fun_mk (st := s__law_rules) l35 c35 k35).binds (ps := ["pen", "signs", "many", "words"]) fun _ _ _ _ _ _ us hl => match us, hl with | [_, _, _, _], _ => rfl), PySem.W.mg_of X G a35⟩
    d__law_made := ⟨f36, _, fun_mk (st := s__law_made) l36 c36 k36, ((fun_mk (st := s__law_made) l36 c36 k36).binds (ps := ["signs"]) fun _ _ _ _ _ _ us hl => match us, hl with | [_], _ => rfl), PySem.W.mg_of X G a36⟩
    d__law_lists := ⟨f37, _, fun_mk (st := s__law_lists) l37 c37 k37, ((fun_mk (st := s__law_lists) l37 c37 k37).binds (ps := ["value"]) fun _ _ _ _ _ _ us hl => match us, hl with | [_], _ => rfl), PySem.W.mg_of X G a37⟩
    d__law_pen := ⟨f38, _, fun_mk (st := s__law_pen) l38 c38 k38, ((fun_mk (st := s__law_pen) l38 c38 k38).binds (ps := ["script"]) fun _ _ _ _ _ _ us hl => match us, hl with | [_], _ => rfl), PySem.W.mg_of X G a38⟩
    b_abs := PySem.W.mg_none_of X G z_abs
    b_all := PySem.W.mg_none_of X G z_all
    b_any := PySem.W.mg_none_of X G z_any
    b_bool := PySem.W.mg_none_of X G z_bool
    b_enumerate := PySem.W.mg_none_of X G z_enumerate
    b_int := PySem.W.mg_none_of X G z_int
    b_isinstance := PySem.W.mg_none_of X G z_isinstance
    b_len := PySem.W.mg_none_of X G z_len
    b_list := PySem.W.mg_none_of X G z_list
    b_range := PySem.W.mg_none_of X G z_range
    b_repr := PySem.W.mg_none_of X G z_repr
    b_str := PySem.W.mg_none_of X G z_str
    b_tuple := PySem.W.mg_none_of X G z_tuple
    c_LETTERS := ⟨u_LETTERS, PySem.W.mg_of X G y_LETTERS, r_LETTERS⟩
    c_MOST_ARGUMENTS := ⟨u_MOST_ARGUMENTS, PySem.W.mg_of X G y_MOST_ARGUMENTS, r_MOST_ARGUMENTS⟩
    c_MOST_LEFT := ⟨u_MOST_LEFT, PySem.W.mg_of X G y_MOST_LEFT, r_MOST_LEFT⟩
    c_MOST_RULES := ⟨u_MOST_RULES, PySem.W.mg_of X G y_MOST_RULES, r_MOST_RULES⟩
    c_MOST_SORTS := ⟨u_MOST_SORTS, PySem.W.mg_of X G y_MOST_SORTS, r_MOST_SORTS⟩
    c_MOST_SYMBOLS := ⟨u_MOST_SYMBOLS, PySem.W.mg_of X G y_MOST_SYMBOLS, r_MOST_SYMBOLS⟩
    ne_Book := by rw [tab_cls (PySem.W.mg_of X G aCBook)]; exact ⟨o1Book, o2Book⟩
    cl_Book := by rw [tab_cls (PySem.W.mg_of X G aCBook)]; exact ⟨pgBook, hdBook, poBook, saBook⟩
    ne_Signs := by rw [tab_cls (PySem.W.mg_of X G aCSigns)]; exact ⟨o1Signs, o2Signs⟩
    cl_Signs := by rw [tab_cls (PySem.W.mg_of X G aCSigns)]; exact ⟨pgSigns, hdSigns, poSigns, saSigns⟩
    ic_Book := by rw [tab_cls (PySem.W.mg_of X G aCBook)]; exact ⟨⟨pgBook, hdBook, poBook, saBook⟩, q1Book, q2Book, q3Book, q4Book, kit_self K _⟩
    cm_Book := by rw [tab_cls (PySem.W.mg_of X G aCBook)]; exact PySem.W.mg_of X G aCBook
    ic_Signs := by rw [tab_cls (PySem.W.mg_of X G aCSigns)]; exact ⟨⟨pgSigns, hdSigns, poSigns, saSigns⟩, q1Signs, q2Signs, q3Signs, q4Signs, kit_self K _⟩
    cm_Signs := by rw [tab_cls (PySem.W.mg_of X G aCSigns)]; exact PySem.W.mg_of X G aCSigns
    it_Book := by rw [tab_cls (PySem.W.mg_of X G aCBook)]; exact kit_tup q5Book q4Book
    it_Signs := by rw [tab_cls (PySem.W.mg_of X G aCSigns)]; exact kit_tup q5Signs q4Signs
    na_Book_names := by rw [tab_cls (PySem.W.mg_of X G aCBook)]; exact n_Book_names
    na_Book_rules := by rw [tab_cls (PySem.W.mg_of X G aCBook)]; exact n_Book_rules
    na_Book_signs := by rw [tab_cls (PySem.W.mg_of X G aCBook)]; exact n_Book_signs
    na_Signs_known := by rw [tab_cls (PySem.W.mg_of X G aCSigns)]; exact n_Signs_known
    na_Signs_sorts := by rw [tab_cls (PySem.W.mg_of X G aCSigns)]; exact n_Signs_sorts
    na_Signs_symbols := by rw [tab_cls (PySem.W.mg_of X G aCSigns)]; exact n_Signs_symbols
section
variable {P : Program} {w : World} {K : PySem.W.Frag} {mg : Str → Option Value} {base : Heap}
theorem ok_is_listed (Tx : Txt K mg)  : CalP P w K mg base (tabOf mg) 1 "is_listed" 1 f_is_listed := by
  obtain ⟨fa, fd, F, hb, hm⟩ := Tx.d_is_listed.at_
  refine ⟨fa, fd, _, fn_P0 F sc_is_listed (fun cdv A outer s H E c hT hr => ?_), hb, hm, F.kp, tab_fn hm⟩
  obtain ⟨T, pa, F0, H0, sf⟩ := c
  cases hT
  exact (s_one (s_ret (g_isi2 (g_var 0) (by rfl) Tx.b_isinstance (by rfl) Tx.b_list boot_list_ (by rfl) Tx.b_tuple boot_tuple_)))
theorem ok_is_row (Tx : Txt K mg) (C_is_listed : CalP P w K mg base (tabOf mg) 1 "is_listed" 1 f_is_listed) : CalP P w K mg base (tabOf mg) 2 "is_row" 2 f_is_row := by
  obtain ⟨fa, fd, F, hb, hm⟩ := Tx.d_is_row.at_
  refine ⟨fa, fd, _, fn_P0 F sc_is_row (fun cdv A outer s H E c hT hr => ?_), hb, hm, F.kp, tab_fn hm⟩
  obtain ⟨T, pa, F0, H0, sf⟩ := c
  cases hT
  exact (s_one (s_ret (g_and (g_call C_is_listed hr (by omega) (by rfl) passL (many_cons many_nil) (g_cons (g_var 0) g_nil)) (g_one (x_eq hr (x_len (by rfl) Tx.b_len (g_var 0)) (g_var 1))))))
theorem ok_is_name (Tx : Txt K mg)  : CalP P w K mg base (tabOf mg) 1 "is_name" 1 f_is_name := by
  obtain ⟨fa, fd, F, hb, hm⟩ := Tx.d_is_name.at_
  refine ⟨fa, fd, _, fn_P0 F sc_is_name (fun cdv A outer s H E c hT hr => ?_), hb, hm, F.kp, tab_fn hm⟩
  obtain ⟨T, pa, F0, H0, sf⟩ := c
  cases hT
  exact (s_one (s_ret (g_and (g_isi (g_var 0) (by rfl) Tx.b_isinstance (by rfl) Tx.b_str boot_str_) (g_and (g_chain op_le o_le op_le o_le g_int (x_len (by rfl) Tx.b_len (g_var 0)) g_int) (g_one (x_all (by rfl) (by rfl) Tx.b_all (g_fz (f_comp (g := gName 1) (ix := [1]) (own := [("sign", 1)]) (by rfl) sc_is_name.nd (i_str (g_var 0)) (BlkOk.of (by kernel_rfl)) (by decide) (fun _ _ _ _ _ _ => (gt_name (i := 1) sc_is_name.nd (by rfl) (by first | exact .inl rfl | exact .inr rfl))) (fun _ _ _ _ _ _ => ts_nil) (fun _ _ _ _ _ _ => (x_in hr (g_var 1) (g_glob (d := .str "abcdefghijklmnopqrstuvwxyz") (by rfl) Tx.c_LETTERS.choose_spec.1 rfl Tx.c_LETTERS.choose_spec.2)))))))))))
theorem ok_are_names (Tx : Txt K mg) (C_is_listed : CalP P w K mg base (tabOf mg) 1 "is_listed" 1 f_is_listed) (C_is_name : CalP P w K mg base (tabOf mg) 1 "is_name" 1 f_is_name) : CalP P w K mg base (tabOf mg) 2 "are_names" 2 f_are_names := by
  obtain ⟨fa, fd, F, hb, hm⟩ := Tx.d_are_names.at_
  refine ⟨fa, fd, _, fn_P0 F sc_are_names (fun cdv A outer s H E c hT hr => ?_), hb, hm, F.kp, tab_fn hm⟩
  obtain ⟨T, pa, F0, H0, sf⟩ := c
  cases hT
  exact (s_cons (s_if (w_or (t_not (t_val (g_call C_is_listed hr (by omega) (by rfl) passL (many_cons many_nil) (g_cons (g_var 0) g_nil)))) (w_or (y_gt (x_len (by rfl) Tx.b_len (g_var 0)) (g_var 1)) (w_or1 (t_not (t_val (x_all (by rfl) (by rfl) Tx.b_all (g_fz (f_comp (g := gName 2) (ix := [2]) (own := [("name", 2)]) (by rfl) sc_are_names.nd (i_seq (g_var 0)) (BlkOk.of (by kernel_rfl)) (by decide) (fun _ _ _ _ _ _ => (gt_name (i := 2) sc_are_names.nd (by rfl) (by first | exact .inl rfl | exact .inr rfl))) (fun _ _ _ _ _ _ => ts_nil) (fun _ _ _ _ _ _ => (g_call C_is_name hr (by omega) (by rfl) passL (many_cons many_nil) (g_cons (g_var 2) g_nil))))))))))).pt (s_one (s_ret g_bl)) s_nil) (s_one (s_ret (x_eq hr (x_len (by rfl) Tx.b_len (g_var 0)) (x_len (by rfl) Tx.b_len (g_dc (g := gName 2) (ix := [2]) (own := [("name", 2)]) (by rfl) sc_are_names.nd (i_seq (g_var 0)) (BlkOk.of (by kernel_rfl)) (by decide) (fun _ _ _ _ _ _ => (gt_name (i := 2) sc_are_names.nd (by rfl) (by first | exact .inl rfl | exact .inr rfl))) (fun _ _ _ _ _ _ => ts_nil) (fun _ _ _ _ _ _ => (g_var 2)) (fun _ _ _ _ _ _ => g_bl)))))))
theorem ok_fixed (Tx : Txt K mg) {k : Nat} {rec : FM} (C_fixed : CalP P w K mg base (tabOf mg) k "fixed" 1 rec) : CalP P w K mg base (tabOf mg) (k + 1) "fixed" 1 (runB0 1 2 (m_fixed rec)) := by
  obtain ⟨fa, fd, F, hb, hm⟩ := Tx.d_fixed.at_
  refine ⟨fa, fd, _, fn_P0 F sc_fixed (fun cdv A outer s H E c hT hr => ?_), hb, hm, F.kp, tab_fn hm⟩
  obtain ⟨T, pa, F0, H0, sf⟩ := c
  cases hT
  exact (s_cons (s_if (t_val (g_isi2 (g_var 0) (by rfl) Tx.b_isinstance (by rfl) Tx.b_list boot_list_ (by rfl) Tx.b_tuple boot_tuple_)) (s_one (s_ret (x_tuple (by rfl) Tx.b_tuple (g_fz (f_comp (g := gName 1) (ix := [1]) (own := [("part", 1)]) (by rfl) sc_fixed.nd (i_seq (g_var 0)) (BlkOk.of (by kernel_rfl)) (by decide) (fun _ _ _ _ _ _ => (gt_name (i := 1) sc_fixed.nd (by rfl) (by first | exact .inl rfl | exact .inr rfl))) (fun _ _ _ _ _ _ => ts_nil) (fun _ _ _ _ _ _ => (g_call C_fixed hr (by omega) (by rfl) passL (many_cons many_nil) (g_cons (g_var 1) g_nil)))))))) s_nil) (s_one (s_ret (g_var 0))))
theorem ok_is_symbol (Tx : Txt K mg) (C_is_listed : CalP P w K mg base (tabOf mg) 1 "is_listed" 1 f_is_listed) (C_is_name : CalP P w K mg base (tabOf mg) 1 "is_name" 1 f_is_name) (C_is_row : CalP P w K mg base (tabOf mg) 2 "is_row" 2 f_is_row) : CalP P w K mg base (tabOf mg) 3 "is_symbol" 2 f_is_symbol := by
  obtain ⟨fa, fd, F, hb, hm⟩ := Tx.d_is_symbol.at_
  refine ⟨fa, fd, _, fn_P0 F sc_is_symbol (fun cdv A outer s H E c hT hr => ?_), hb, hm, F.kp, tab_fn hm⟩
  obtain ⟨T, pa, F0, H0, sf⟩ := c
  cases hT
  exact (s_cons (s_if (w_or (t_not (t_val (g_call C_is_row hr (by omega) (by rfl) passL (many_cons (many_cons many_nil)) (g_cons (g_var 0) (g_cons g_int g_nil))))) (w_or (t_not (t_val (g_call C_is_name hr (by omega) (by rfl) passL (many_cons many_nil) (g_cons (g_ix (g_var 0) g_int) g_nil)))) (w_or (t_not (t_val (g_call C_is_listed hr (by omega) (by rfl) passL (many_cons many_nil) (g_cons (g_ix (g_var 0) g_int) g_nil)))) (w_or1 (y_gt (x_len (by rfl) Tx.b_len (g_ix (g_var 0) g_int)) (g_glob (d := .int 3) (by rfl) Tx.c_MOST_ARGUMENTS.choose_spec.1 rfl Tx.c_MOST_ARGUMENTS.choose_spec.2)))))).pt (s_one (s_ret g_bl)) s_nil) (s_one (s_ret (x_all (by rfl) (by rfl) Tx.b_all (g_fz (f_comp (g := gName 2) (ix := [2]) (own := [("each", 2)]) (by rfl) sc_is_symbol.nd (i_seq (g_fz (f_lst (g_star (g_ix (g_var 0) g_int) (g_cons (g_ix (g_var 0) g_int) g_nil))))) (BlkOk.of (by kernel_rfl)) (by decide) (fun _ _ _ _ _ _ => (gt_name (i := 2) sc_is_symbol.nd (by rfl) (by first | exact .inl rfl | exact .inr rfl))) (fun _ _ _ _ _ _ => ts_nil) (fun _ _ _ _ _ _ => (g_and (g_isi (g_var 2) (by rfl) Tx.b_isinstance (by rfl) Tx.b_str boot_str_) (g_one (x_in hr (g_var 2) (g_var 1)))))))))))
theorem ok_are_symbols (Tx : Txt K mg) (C_are_names : CalP P w K mg base (tabOf mg) 2 "are_names" 2 f_are_names) (C_is_listed : CalP P w K mg base (tabOf mg) 1 "is_listed" 1 f_is_listed) (C_is_symbol : CalP P w K mg base (tabOf mg) 3 "is_symbol" 2 f_is_symbol) : CalP P w K mg base (tabOf mg) 4 "are_symbols" 2 f_are_symbols := by
  obtain ⟨fa, fd, F, hb, hm⟩ := Tx.d_are_symbols.at_
  refine ⟨fa, fd, _, fn_P0 F sc_are_symbols (fun cdv A outer s H E c hT hr => ?_), hb, hm, F.kp, tab_fn hm⟩
  obtain ⟨T, pa, F0, H0, sf⟩ := c
  cases hT
  exact (s_cons (s_if (w_or (t_not (t_val (g_call C_is_listed hr (by omega) (by rfl) passL (many_cons many_nil) (g_cons (g_var 0) g_nil)))) (w_or1 (t_not (t_chain op_le o_le op_le o_le g_int (x_len (by rfl) Tx.b_len (g_var 0)) (g_glob (d := .int 16) (by rfl) Tx.c_MOST_SYMBOLS.choose_spec.1 rfl Tx.c_MOST_SYMBOLS.choose_spec.2))))).pt (s_one (s_ret g_bl)) s_nil) (s_cons (s_if (t_not (t_val (x_all (by rfl) (by rfl) Tx.b_all (g_fz (f_comp (g := gName 2) (ix := [2]) (own := [("row", 2)]) (by rfl) sc_are_symbols.nd (i_seq (g_var 0)) (BlkOk.of (by kernel_rfl)) (by decide) (fun _ _ _ _ _ _ => (gt_name (i := 2) sc_are_symbols.nd (by rfl) (by first | exact .inl rfl | exact .inr rfl))) (fun _ _ _ _ _ _ => ts_nil) (fun _ _ _ _ _ _ => (g_call C_is_symbol hr (by omega) (by rfl) passL (many_cons (many_cons many_nil)) (g_cons (g_var 2) (g_cons (g_var 1) g_nil))))))))) (s_one (s_ret g_bl)) s_nil) (s_one (s_ret (g_call C_are_names hr (by omega) (by rfl) passL (many_cons (many_cons many_nil)) (g_cons (g_fz (f_comp (g := gName 2) (ix := [2]) (own := [("row", 2)]) (by rfl) sc_are_symbols.nd (i_seq (g_var 0)) (BlkOk.of (by kernel_rfl)) (by decide) (fun _ _ _ _ _ _ => (gt_name (i := 2) sc_are_symbols.nd (by rfl) (by first | exact .inl rfl | exact .inr rfl))) (fun _ _ _ _ _ _ => ts_nil) (fun _ _ _ _ _ _ => (g_ix (g_var 2) g_int)))) (g_cons (g_glob (d := .int 16) (by rfl) Tx.c_MOST_SYMBOLS.choose_spec.1 rfl Tx.c_MOST_SYMBOLS.choose_spec.2) g_nil)))))))
theorem ok_Signs_need_symbol (Tx : Txt K mg)  : MetP P w K mg base (tabOf mg) 1 "Signs" "need_symbol" 1 f_Signs_need_symbol := by
  obtain ⟨fa, fd, F, hb, hk⟩ := Tx.m_Signs_need_symbol.at_
  refine ⟨fa, fd, _, fn_P0 F sc_Signs_need_symbol (fun cdv A outer s H E c hT hr => ?_), hb, Tx.cl_Signs, hk⟩
  obtain ⟨T, pa, F0, H0, sf⟩ := c
  cases hT
  exact (s_one (s_if (w_or (t_not (t_val (g_isi (g_var 1) (by rfl) Tx.b_isinstance (by rfl) Tx.b_str boot_str_))) (w_or1 (t_dnin (hu1 hr) (g_var 1) (g_fld "Signs" (g_var 0) Tx.cl_Signs Tx.na_Signs_known)))).pt (s_one s_never) s_nil))
theorem ok_Signs_arguments (Tx : Txt K mg) (C_Signs_need_symbol : MetP P w K mg base (tabOf mg) 1 "Signs" "need_symbol" 1 f_Signs_need_symbol) : MetP P w K mg base (tabOf mg) 2 "Signs" "arguments" 1 f_Signs_arguments := by
  obtain ⟨fa, fd, F, hb, hk⟩ := Tx.m_Signs_arguments.at_
  refine ⟨fa, fd, _, fn_P0 F sc_Signs_arguments (fun cdv A outer s H E c hT hr => ?_), hb, Tx.cl_Signs, hk⟩
  obtain ⟨T, pa, F0, H0, sf⟩ := c
  cases hT
  exact (s_cons (s_expr (g_meth C_Signs_need_symbol hr (by decide) passL (many_cons many_nil) (g_var 0) (g_cons (g_var 1) g_nil))) (s_one (s_ret (g_ix (g_dget (hu1 hr) (g_fld "Signs" (g_var 0) Tx.cl_Signs Tx.na_Signs_known) (g_var 1)) g_int))))
theorem ok_Signs_sort_of (Tx : Txt K mg) (C_Signs_need_symbol : MetP P w K mg base (tabOf mg) 1 "Signs" "need_symbol" 1 f_Signs_need_symbol) : MetP P w K mg base (tabOf mg) 2 "Signs" "sort_of" 1 f_Signs_sort_of := by
  obtain ⟨fa, fd, F, hb, hk⟩ := Tx.m_Signs_sort_of.at_
  refine ⟨fa, fd, _, fn_P0 F sc_Signs_sort_of (fun cdv A outer s H E c hT hr => ?_), hb, Tx.cl_Signs, hk⟩
  obtain ⟨T, pa, F0, H0, sf⟩ := c
  cases hT
  exact (s_cons (s_expr (g_meth C_Signs_need_symbol hr (by decide) passL (many_cons many_nil) (g_var 0) (g_cons (g_var 1) g_nil))) (s_one (s_ret (g_ix (g_dget (hu1 hr) (g_fld "Signs" (g_var 0) Tx.cl_Signs Tx.na_Signs_known) (g_var 1)) g_int))))
theorem ok_Signs___init__ (Tx : Txt K mg) (C_are_names : CalP P w K mg base (tabOf mg) 2 "are_names" 2 f_are_names) (C_are_symbols : CalP P w K mg base (tabOf mg) 4 "are_symbols" 2 f_are_symbols) (C_fixed : CalP P w K mg base (tabOf mg) 8 "fixed" 1 f_fixed) : MakP P w K mg base (tabOf mg) 9 "Signs" "Signs" 2 i_Signs := by
  obtain ⟨fa, fd, F, hb, hk, hm⟩ := Tx.make_Signs.at_
  refine ⟨fa, fd, _, hk, fn_I0 F sc_Signs___init__ (fun cdv A outer s H E c hT hr => ?_), hb, hm⟩
  obtain ⟨T, pa, F0, H0, sf⟩ := c
  cases hT
  exact (s_cons (s_if (w_or (t_not (t_val (g_call C_are_names hr (by omega) (by rfl) passL (many_cons (many_cons many_nil)) (g_cons (g_var 1) (g_cons (g_glob (d := .int 6) (by rfl) Tx.c_MOST_SORTS.choose_spec.1 rfl Tx.c_MOST_SORTS.choose_spec.2) g_nil))))) (w_or1 (y_eq hr (x_len (by rfl) Tx.b_len (g_var 1)) g_int))).pt (s_one s_never) s_nil) (s_cons (s_if (t_not (t_val (g_call C_are_symbols hr (by omega) (by rfl) passL (many_cons (many_cons many_nil)) (g_cons (g_var 2) (g_cons (g_var 1) g_nil))))) (s_one s_never) s_nil) (s_cons (s_fld (i := 0) "Signs" (by rfl) (.inl rfl) Tx.cl_Signs Tx.na_Signs_sorts (g_call C_fixed hr (by omega) (by rfl) passL (many_cons many_nil) (g_cons (g_var 1) g_nil))) (s_cons (s_fld (i := 0) "Signs" (by rfl) (.inl rfl) Tx.cl_Signs Tx.na_Signs_symbols (g_call C_fixed hr (by omega) (by rfl) passL (many_cons many_nil) (g_cons (g_var 2) g_nil))) (s_one (s_fld (i := 0) "Signs" (by rfl) (.inl rfl) Tx.cl_Signs Tx.na_Signs_known (g_dc (g := gName 3) (ix := [3]) (own := [("row", 3)]) (by rfl) sc_Signs___init__.nd (i_seq (g_ofld (i := 0) "Signs" (by rfl) (.inl rfl) Tx.cl_Signs Tx.na_Signs_symbols)) (BlkOk.of (by kernel_rfl)) (by decide) (fun _ _ _ _ _ _ => (gt_name (i := 3) sc_Signs___init__.nd (by rfl) (by first | exact .inl rfl | exact .inr rfl))) (fun _ _ _ _ _ _ => ts_nil) (fun _ _ _ _ _ _ => (g_ix (g_var 3) g_int)) (fun _ _ _ _ _ _ => (g_var 3)))))))))
theorem ok_Signs___eq__ (Tx : Txt K mg)  : MetP P w K mg base (tabOf mg) 1 "Signs" "__eq__" 1 f_Signs___eq__ := by
  obtain ⟨fa, fd, F, hb, hk⟩ := Tx.m_Signs___eq__.at_
  refine ⟨fa, fd, _, fn_P0 F sc_Signs___eq__ (fun cdv A outer s H E c hT hr => ?_), hb, Tx.cl_Signs, hk⟩
  obtain ⟨T, pa, F0, H0, sf⟩ := c
  cases hT
  exact (s_cons (s_if (t_not (t_val (g_isT "Signs" (g_var 1) Tx.ic_Signs Tx.it_Signs (by rfl) Tx.b_isinstance (by rfl) Tx.cm_Signs))) (s_one (s_ret g_bl)) s_nil) (s_one (s_ret (x_bool (by rfl) Tx.b_bool (g_and (x_eq hr (g_fld "Signs" (g_var 0) Tx.cl_Signs Tx.na_Signs_sorts) (g_fld "Signs" (g_var 1) Tx.cl_Signs Tx.na_Signs_sorts)) (g_one (x_eq hr (g_fld "Signs" (g_var 0) Tx.cl_Signs Tx.na_Signs_symbols) (g_fld "Signs" (g_var 1) Tx.cl_Signs Tx.na_Signs_symbols))))))))
theorem ok_need_signs (Tx : Txt K mg)  : CalP P w K mg base (tabOf mg) 1 "need_signs" 1 f_need_signs := by
  obtain ⟨fa, fd, F, hb, hm⟩ := Tx.d_need_signs.at_
  refine ⟨fa, fd, _, fn_P0 F sc_need_signs (fun cdv A outer s H E c hT hr => ?_), hb, hm, F.kp, tab_fn hm⟩
  obtain ⟨T, pa, F0, H0, sf⟩ := c
  cases hT
  exact (s_one (s_if (t_not (t_val (g_isC "Signs" (g_var 0) Tx.ic_Signs (by rfl) Tx.b_isinstance (by rfl) Tx.cm_Signs))) (s_one s_never) s_nil))
theorem ok_is_variable (Tx : Txt K mg) (C_is_listed : CalP P w K mg base (tabOf mg) 1 "is_listed" 1 f_is_listed) (C_is_name : CalP P w K mg base (tabOf mg) 1 "is_name" 1 f_is_name) : CalP P w K mg base (tabOf mg) 2 "is_variable" 1 f_is_variable := by
  obtain ⟨fa, fd, F, hb, hm⟩ := Tx.d_is_variable.at_
  refine ⟨fa, fd, _, fn_P0 F sc_is_variable (fun cdv A outer s H E c hT hr => ?_), hb, hm, F.kp, tab_fn hm⟩
  obtain ⟨T, pa, F0, H0, sf⟩ := c
  cases hT
  exact (s_one (s_ret (g_and (g_call C_is_listed hr (by omega) (by rfl) passL (many_cons many_nil) (g_cons (g_var 0) g_nil)) (g_and (x_eq hr (x_len (by rfl) Tx.b_len (g_var 0)) g_int) (g_one (g_call C_is_name hr (by omega) (by rfl) passL (many_cons many_nil) (g_cons (g_ix (g_var 0) g_int) g_nil)))))))
theorem ok_arity (Tx : Txt K mg)  : CalP P w K mg base (tabOf mg) 1 "arity" 2 f_arity := by
  obtain ⟨fa, fd, F, hb, hm⟩ := Tx.d_arity.at_
  refine ⟨fa, fd, _, fn_P0 F sc_arity (fun cdv A outer s H E c hT hr => ?_), hb, hm, F.kp, tab_fn hm⟩
  obtain ⟨T, pa, F0, H0, sf⟩ := c
  cases hT
  exact (s_one (s_ret (g_if (t_val (g_isi (g_var 1) (by rfl) Tx.b_isinstance (by rfl) Tx.b_str boot_str_)) (x_len (by rfl) Tx.b_len (g_ix (g_dget (hu1 hr) (g_fld "Signs" (g_var 0) Tx.cl_Signs Tx.na_Signs_known) (g_var 1)) g_int)) g_int)))
theorem ok_fits (Tx : Txt K mg) (C_Signs_sort_of : MetP P w K mg base (tabOf mg) 2 "Signs" "sort_of" 1 f_Signs_sort_of) (C_disp : DispP P w K mg base (tabOf mg) 2 1 disp) : CalP P w K mg base (tabOf mg) 3 "fits" 4 f_fits := by
  obtain ⟨fa, fd, F, hb, hm⟩ := Tx.d_fits.at_
  refine ⟨fa, fd, _, fn_P0 F sc_fits (fun cdv A outer s H E c hT hr => ?_), hb, hm, F.kp, tab_fn hm⟩
  obtain ⟨T, pa, F0, H0, sf⟩ := c
  cases hT
  exact (s_cons (s_if (t_val (g_isi (g_var 1) (by rfl) Tx.b_isinstance (by rfl) Tx.b_str boot_str_)) (s_one (s_ret (g_and (g_din (hu1 hr) (g_var 1) (g_fld "Signs" (g_var 0) Tx.cl_Signs Tx.na_Signs_known)) (g_one (g_or (x_is (g_var 2) g_non) (g_one (x_eq hr (g_meth C_Signs_sort_of hr (by decide) passL (many_cons many_nil) (g_var 0) (g_cons (g_var 1) g_nil)) (g_var 2)))))))) s_nil) (s_cons (s_if (t_not (t_val (g_loc (i := 3) C_disp hr (by decide) (by rfl) (by first | exact .inl rfl | exact .inr (.inl rfl)) passL (many_cons many_nil) (g_cons (g_var 1) g_nil)))) (s_one (s_ret g_bl)) s_nil) (s_one (s_ret (g_or (x_eq hr (x_len (by rfl) Tx.b_len (g_var 1)) g_int) (g_one (g_and (x_in hr (g_ix (g_var 1) g_int) (g_fld "Signs" (g_var 0) Tx.cl_Signs Tx.na_Signs_sorts)) (g_one (g_or (x_is (g_var 2) g_non) (g_one (x_eq hr (g_ix (g_var 1) g_int) (g_var 2))))))))))))
theorem ok_is_told (Tx : Txt K mg) (C_Signs_arguments : MetP P w K mg base (tabOf mg) 2 "Signs" "arguments" 1 f_Signs_arguments) (C_fits : CalP P w K mg base (tabOf mg) 3 "fits" 4 f_fits) (C_is_listed : CalP P w K mg base (tabOf mg) 1 "is_listed" 1 f_is_listed) : CalP P w K mg base (tabOf mg) 4 "is_told" 4 f_is_told := by
  obtain ⟨fa, fd, F, hb, hm⟩ := Tx.d_is_told.at_
  refine ⟨fa, fd, _, fn_P0 F sc_is_told (fun cdv A outer s H E c hT hr => ?_), hb, hm, F.kp, tab_fn hm⟩
  obtain ⟨T, pa, F0, H0, sf⟩ := c
  cases hT
  exact (s_cons (s_if (t_not (t_val (g_call C_is_listed hr (by omega) (by rfl) passL (many_cons many_nil) (g_cons (g_var 1) g_nil)))) (s_one (s_ret g_bl)) s_nil) (s_cons (s_own (i := 4) sc_is_told.nd (by rfl) (by first | exact .inl rfl | exact .inr rfl) (f_lst (g_cons (g_var 2) g_nil))) (s_cons (s_for PassesOwn.never (by rfl) (i_seq (g_var 1)) (gt_name (i := 5) sc_is_told.nd (by rfl) (by first | exact .inl rfl | exact .inr rfl)) (s_cons (s_if (w_or (t_view (y_eq hr (g_var 4) (g_fz (f_lst g_nil)))) (w_or1 (t_not (t_val (g_call C_fits hr (by omega) (by rfl) passL (many_cons (many_cons (many_cons (many_cons many_nil)))) (g_cons (g_var 0) (g_cons (g_var 5) (g_cons (g_pop (i := 4) (by rfl) (by first | exact .inl rfl | exact .inr (.inl rfl))) (g_cons (g_var 3) g_nil))))))))).pt (s_one (s_ret g_bl)) s_nil) (s_one (s_if (t_val (g_isi (g_var 5) (by rfl) Tx.b_isinstance (by rfl) Tx.b_str boot_str_)) (s_one (s_ext (i := 4) (by rfl) (by first | exact .inl rfl | exact .inr (.inl rfl)) (g_fz (f_rev (g_fz (f_list (by rfl) Tx.b_list (g_cons (g_meth C_Signs_arguments hr (by decide) passL (many_cons many_nil) (g_var 0) (g_cons (g_var 5) g_nil)) g_nil))))))) s_nil)))) (s_one (s_ret (g_and (g_view (x_eq hr (g_var 4) (g_fz (f_lst g_nil)))) (g_one (x_gt (x_len (by rfl) Tx.b_len (g_var 1)) g_int))))))))
theorem ok_is_pattern (Tx : Txt K mg) (C_is_told : CalP P w K mg base (tabOf mg) 4 "is_told" 4 f_is_told) : CalP P w K mg base (tabOf mg) 5 "is_pattern" 2 f_is_pattern := by
  obtain ⟨fa, fd, F, hb, hm⟩ := Tx.d_is_pattern.at_
  refine ⟨fa, fd, _, fn_P0 F sc_is_pattern (fun cdv A outer s H E c hT hr => ?_), hb, hm, F.kp, tab_fn hm⟩
  obtain ⟨T, pa, F0, H0, sf⟩ := c
  cases hT
  exact (s_one (s_ret (g_call C_is_told hr (by omega) (by rfl) passL (many_cons (many_cons (many_cons (many_cons many_nil)))) (g_cons (g_var 0) (g_cons (g_var 1) (g_cons g_non (g_cons (g_fn (by rfl) (mgf Tx.d_is_variable.at_)) g_nil)))))))
theorem ok_variables_of (Tx : Txt K mg)  : CalP P w K mg base (tabOf mg) 1 "variables_of" 1 f_variables_of := by
  obtain ⟨fa, fd, F, hb, hm⟩ := Tx.d_variables_of.at_
  refine ⟨fa, fd, _, fn_P0 F sc_variables_of (fun cdv A outer s H E c hT hr => ?_), hb, hm, F.kp, tab_fn hm⟩
  obtain ⟨T, pa, F0, H0, sf⟩ := c
  cases hT
  exact (s_one (s_ret (g_fz (f_comp (g := gName 1) (ix := [1]) (own := [("word", 1)]) (by rfl) sc_variables_of.nd (i_seq (g_var 0)) (BlkOk.of (by kernel_rfl)) (by decide) (fun _ _ _ _ _ _ => (gt_name (i := 1) sc_variables_of.nd (by rfl) (by first | exact .inl rfl | exact .inr rfl))) (fun _ _ _ _ _ _ => (ts_one (t_not (t_val (g_isi (g_var 1) (by rfl) Tx.b_isinstance (by rfl) Tx.b_str boot_str_))))) (fun _ _ _ _ _ _ => (g_ix (g_var 1) g_int))))))
theorem ok_sorts_in (Tx : Txt K mg) (C_Signs_arguments : MetP P w K mg base (tabOf mg) 2 "Signs" "arguments" 1 f_Signs_arguments) : CalP P w K mg base (tabOf mg) 3 "sorts_in" 2 f_sorts_in := by
  obtain ⟨fa, fd, F, hb, hm⟩ := Tx.d_sorts_in.at_
  refine ⟨fa, fd, _, fn_P0 F sc_sorts_in (fun cdv A outer s H E c hT hr => ?_), hb, hm, F.kp, tab_fn hm⟩
  obtain ⟨T, pa, F0, H0, sf⟩ := c
  cases hT
  exact (s_cons (s_par2 (i := 2) (j := 3) (by rfl) sc_sorts_in.nd (by rfl) (by rfl) (by decide) (by rfl) (by rfl) i_d (fun _ => (i_o (f_lst (g_cons g_non g_nil)))) (by rfl)) (s_cons (s_for PassesOwn.never (by rfl) (i_seq (g_var 1)) (gt_name (i := 4) sc_sorts_in.nd (by rfl) (by first | exact .inl rfl | exact .inr rfl)) (s_cons (s_set (i := 5) sc_sorts_in.nd (by rfl) (by first | exact .inl rfl | exact .inr rfl) (g_pop (i := 3) (by rfl) (by first | exact .inl rfl | exact .inr (.inl rfl)))) (s_one (s_if (t_val (g_isi (g_var 4) (by rfl) Tx.b_isinstance (by rfl) Tx.b_str boot_str_)) (s_one (s_ext (i := 3) (by rfl) (by first | exact .inl rfl | exact .inr (.inl rfl)) (g_fz (f_rev (g_fz (f_list (by rfl) Tx.b_list (g_cons (g_meth C_Signs_arguments hr (by decide) passL (many_cons many_nil) (g_var 0) (g_cons (g_var 4) g_nil)) g_nil))))))) (s_one (s_put (i := 2) (hu1 hr) (by rfl) (by first | exact .inl rfl | exact .inr (.inl rfl)) (g_ix (g_var 4) g_int) (g_var 5))))))) (s_one (s_frzD (i := 2) (s_ret (g_var 2))))))
theorem ok_is_flat (Tx : Txt K mg) (C_arity : CalP P w K mg base (tabOf mg) 1 "arity" 2 f_arity) : CalP P w K mg base (tabOf mg) 2 "is_flat" 2 f_is_flat := by
  obtain ⟨fa, fd, F, hb, hm⟩ := Tx.d_is_flat.at_
  refine ⟨fa, fd, _, fn_P0 F sc_is_flat (fun cdv A outer s H E c hT hr => ?_), hb, hm, F.kp, tab_fn hm⟩
  obtain ⟨T, pa, F0, H0, sf⟩ := c
  cases hT
  exact (s_one (s_ret (x_all (by rfl) (by rfl) Tx.b_all (g_fz (f_comp (g := gName 2) (ix := [2]) (own := [("word", 2)]) (by rfl) sc_is_flat.nd (i_seq (g_sl (g_var 1) (p_some g_int) p_none)) (BlkOk.of (by kernel_rfl)) (by decide) (fun _ _ _ _ _ _ => (gt_name (i := 2) sc_is_flat.nd (by rfl) (by first | exact .inl rfl | exact .inr rfl))) (fun _ _ _ _ _ _ => ts_nil) (fun _ _ _ _ _ _ => (x_eq hr (g_call C_arity hr (by omega) (by rfl) passL (many_cons (many_cons many_nil)) (g_cons (g_var 0) (g_cons (g_var 2) g_nil))) g_int)))))))
theorem ok_sort_reason (Tx : Txt K mg) (C_Signs_sort_of : MetP P w K mg base (tabOf mg) 2 "Signs" "sort_of" 1 f_Signs_sort_of) (C_sorts_in : CalP P w K mg base (tabOf mg) 3 "sorts_in" 2 f_sorts_in) : CalP P w K mg base (tabOf mg) 4 "sort_reason" 3 f_sort_reason := by
  obtain ⟨fa, fd, F, hb, hm⟩ := Tx.d_sort_reason.at_
  refine ⟨fa, fd, _, fn_P0 F sc_sort_reason (fun cdv A outer s H E c hT hr => ?_), hb, hm, F.kp, tab_fn hm⟩
  obtain ⟨T, pa, F0, H0, sf⟩ := c
  cases hT
  exact (s_cons (s_set (i := 3) sc_sort_reason.nd (by rfl) (by first | exact .inl rfl | exact .inr rfl) (g_call C_sorts_in hr (by omega) (by rfl) passL (many_cons (many_cons many_nil)) (g_cons (g_var 0) (g_cons (g_var 1) g_nil)))) (s_cons (s_set (i := 4) sc_sort_reason.nd (by rfl) (by first | exact .inl rfl | exact .inr rfl) (g_call C_sorts_in hr (by omega) (by rfl) passL (many_cons (many_cons many_nil)) (g_cons (g_var 0) (g_cons (g_var 2) g_nil)))) (s_cons (s_if (t_not (t_val (g_isi (g_ix (g_var 2) g_int) (by rfl) Tx.b_isinstance (by rfl) Tx.b_str boot_str_))) (s_one (s_ret (x_eq hr (g_dget (hu1 hr) (g_var 3) (g_ix (g_ix (g_var 2) g_int) g_int)) (g_meth C_Signs_sort_of hr (by decide) passL (many_cons many_nil) (g_var 0) (g_cons (g_ix (g_var 1) g_int) g_nil))))) s_nil) (s_cons (s_if (y_ne hr (g_meth C_Signs_sort_of hr (by decide) passL (many_cons many_nil) (g_var 0) (g_cons (g_ix (g_var 2) g_int) g_nil)) (g_meth C_Signs_sort_of hr (by decide) passL (many_cons many_nil) (g_var 0) (g_cons (g_ix (g_var 1) g_int) g_nil))) (s_one (s_ret g_bl)) s_nil) (s_one (s_ret (x_all (by rfl) (by rfl) Tx.b_all (g_fz (f_dictEq (i := 3) (j := 4) (k := 5) (by rfl) sc_sort_reason.nd (hu1 hr) (by rfl) (by rfl) (by rfl) (by first | exact .inl rfl | exact .inr (.inl rfl) | exact .inr (.inr rfl)) (BlkOk.of (by kernel_rfl)) (fun _ _ _ _ _ => by first | exact .inl rfl | exact .inr (.inl rfl) | exact .inr (.inr rfl)) (fun _ _ _ _ _ => by first | exact .inl rfl | exact .inr (.inl rfl) | exact .inr (.inr rfl)) (fun _ _ _ _ _ => by first | exact .inl rfl | exact .inr (.inl rfl) | exact .inr (.inr rfl)) (fun _ _ _ _ _ => (pg_name (i := 5) sc_sort_reason.nd (by rfl) (by first | exact .inl rfl | exact .inr rfl) (by first | exact .inl rfl | exact .inr rfl))))))))))))
theorem ok_rule_reason (Tx : Txt K mg) (C_is_flat : CalP P w K mg base (tabOf mg) 2 "is_flat" 2 f_is_flat) (C_is_listed : CalP P w K mg base (tabOf mg) 1 "is_listed" 1 f_is_listed) (C_is_name : CalP P w K mg base (tabOf mg) 1 "is_name" 1 f_is_name) (C_is_pattern : CalP P w K mg base (tabOf mg) 5 "is_pattern" 2 f_is_pattern) (C_is_row : CalP P w K mg base (tabOf mg) 2 "is_row" 2 f_is_row) (C_sort_reason : CalP P w K mg base (tabOf mg) 4 "sort_reason" 3 f_sort_reason) (C_variables_of : CalP P w K mg base (tabOf mg) 1 "variables_of" 1 f_variables_of) : CalP P w K mg base (tabOf mg) 6 "rule_reason" 3 f_rule_reason := by
  obtain ⟨fa, fd, F, hb, hm⟩ := Tx.d_rule_reason.at_
  refine ⟨fa, fd, _, fn_P0 F sc_rule_reason (fun cdv A outer s H E c hT hr => ?_), hb, hm, F.kp, tab_fn hm⟩
  obtain ⟨T, pa, F0, H0, sf⟩ := c
  cases hT
  exact (s_cons (s_if (w_or (t_not (t_val (g_call C_is_row hr (by omega) (by rfl) passL (many_cons (many_cons many_nil)) (g_cons (g_var 1) (g_cons g_int g_nil))))) (w_or (t_not (t_val (g_call C_is_name hr (by omega) (by rfl) passL (many_cons many_nil) (g_cons (g_ix (g_var 1) g_int) g_nil)))) (w_or (t_not (t_val (g_call C_is_listed hr (by omega) (by rfl) passL (many_cons many_nil) (g_cons (g_ix (g_var 1) g_int) g_nil)))) (w_or1 (t_not (t_val (g_call C_is_listed hr (by omega) (by rfl) passL (many_cons many_nil) (g_cons (g_ix (g_var 1) g_int) g_nil)))))))).pt (s_one (s_ret g_str)) s_nil) (s_cons (s_if (y_in hr (g_ix (g_var 1) g_int) (g_var 2)) (s_one (s_ret g_str)) s_nil) (s_cons (s_if (w_or (t_not (t_val (g_call C_is_pattern hr (by omega) (by rfl) passL (many_cons (many_cons many_nil)) (g_cons (g_var 0) (g_cons (g_ix (g_var 1) g_int) g_nil))))) (w_or (y_gt (x_len (by rfl) Tx.b_len (g_ix (g_var 1) g_int)) (g_glob (d := .int 24) (by rfl) Tx.c_MOST_LEFT.choose_spec.1 rfl Tx.c_MOST_LEFT.choose_spec.2)) (w_or1 (t_not (t_val (g_isi (g_ix (g_ix (g_var 1) g_int) g_int) (by rfl) Tx.b_isinstance (by rfl) Tx.b_str boot_str_)))))).pt (s_one (s_ret g_str)) s_nil) (s_cons (s_if (t_not (t_val (g_call C_is_pattern hr (by omega) (by rfl) passL (many_cons (many_cons many_nil)) (g_cons (g_var 0) (g_cons (g_ix (g_var 1) g_int) g_nil))))) (s_one (s_ret g_str)) s_nil) (s_cons (s_par2n (i := 3) (k := 4) (by rfl) sc_rule_reason.nd (by rfl) (by rfl) (by first | exact .inl rfl | exact .inr rfl) (by first | exact .inl rfl | exact .inr rfl) (i_v (g_call C_variables_of hr (by omega) (by rfl) passL (many_cons many_nil) (g_cons (g_ix (g_var 1) g_int) g_nil))) (fun _ => (i_v (g_call C_variables_of hr (by omega) (by rfl) passL (many_cons many_nil) (g_cons (g_ix (g_var 1) g_int) g_nil))))) (s_cons (s_if (t_val (x_any (by rfl) (by rfl) Tx.b_any (g_fz (f_comp (g := gName 6) (ix := [6]) (own := [("some", 6)]) (by rfl) sc_rule_reason.nd (i_seq (g_tup (g_cons (g_var 3) (g_cons (g_var 4) g_nil)))) (BlkOk.of (by kernel_rfl)) (by decide) (fun _ _ _ _ _ _ => (gt_name (i := 6) sc_rule_reason.nd (by rfl) (by first | exact .inl rfl | exact .inr rfl))) (fun _ _ _ _ _ _ => ts_nil) (fun _ _ _ _ _ _ => (x_gt (x_len (by rfl) Tx.b_len (g_var 6)) (x_len (by rfl) Tx.b_len (g_dc (g := gName 5) (ix := [5]) (own := [("name", 5)]) (by rfl) sc_rule_reason.nd (i_seq (g_var 6)) (BlkOk.of (by kernel_rfl)) (by decide) (fun _ _ _ _ _ _ => (gt_name (i := 5) sc_rule_reason.nd (by rfl) (by first | exact .inl rfl | exact .inr rfl))) (fun _ _ _ _ _ _ => ts_nil) (fun _ _ _ _ _ _ => (g_var 5)) (fun _ _ _ _ _ _ => g_bl))))))))) (s_one (s_ret g_str)) s_nil) (s_cons (s_if (t_val (x_any (by rfl) (by rfl) Tx.b_any (g_fz (f_comp (g := gName 5) (ix := [5]) (own := [("name", 5)]) (by rfl) sc_rule_reason.nd (i_seq (g_var 4)) (BlkOk.of (by kernel_rfl)) (by decide) (fun _ _ _ _ _ _ => (gt_name (i := 5) sc_rule_reason.nd (by rfl) (by first | exact .inl rfl | exact .inr rfl))) (fun _ _ _ _ _ _ => ts_nil) (fun _ _ _ _ _ _ => (x_nin hr (g_var 5) (g_var 3))))))) (s_one (s_ret g_str)) s_nil) (s_cons (s_if (t_not (t_val (g_call C_sort_reason hr (by omega) (by rfl) passL (many_cons (many_cons (many_cons many_nil))) (g_cons (g_var 0) (g_cons (g_ix (g_var 1) g_int) (g_cons (g_ix (g_var 1) g_int) g_nil)))))) (s_one (s_ret g_str)) s_nil) (s_cons (s_if (t_not (t_val (g_call C_is_flat hr (by omega) (by rfl) passL (many_cons (many_cons many_nil)) (g_cons (g_var 0) (g_cons (g_ix (g_var 1) g_int) g_nil))))) (s_one (s_ret g_str)) s_nil) (s_cons (s_set (i := 7) sc_rule_reason.nd (by rfl) (by first | exact .inl rfl | exact .inr rfl) (g_and (x_eq hr (x_len (by rfl) Tx.b_len (g_ix (g_var 1) g_int)) g_int) (g_one (g_or (x_gt (x_len (by rfl) Tx.b_len (g_ix (g_var 1) g_int)) g_int) (g_one (g_not (g_isi (g_ix (g_ix (g_var 1) g_int) g_int) (by rfl) Tx.b_isinstance (by rfl) Tx.b_str boot_str_))))))) (s_one (s_ret (g_if (t_val (g_var 7)) g_str g_non)))))))))))))
theorem ok_Book___init__ (Tx : Txt K mg) (C_fixed : CalP P w K mg base (tabOf mg) 8 "fixed" 1 f_fixed) (C_is_listed : CalP P w K mg base (tabOf mg) 1 "is_listed" 1 f_is_listed) (C_need_signs : CalP P w K mg base (tabOf mg) 1 "need_signs" 1 f_need_signs) (C_rule_reason : CalP P w K mg base (tabOf mg) 6 "rule_reason" 3 f_rule_reason) : MakP P w K mg base (tabOf mg) 9 "Book" "Book" 2 i_Book := by
  obtain ⟨fa, fd, F, hb, hk, hm⟩ := Tx.make_Book.at_
  refine ⟨fa, fd, _, hk, fn_I0 F sc_Book___init__ (fun cdv A outer s H E c hT hr => ?_), hb, hm⟩
  obtain ⟨T, pa, F0, H0, sf⟩ := c
  cases hT
  exact (s_cons (s_expr (g_call C_need_signs hr (by omega) (by rfl) passL (many_cons many_nil) (g_cons (g_var 1) g_nil))) (s_cons (s_if (w_or (t_not (t_val (g_call C_is_listed hr (by omega) (by rfl) passL (many_cons many_nil) (g_cons (g_var 2) g_nil)))) (w_or1 (y_gt (x_len (by rfl) Tx.b_len (g_var 2)) (g_glob (d := .int 20) (by rfl) Tx.c_MOST_RULES.choose_spec.1 rfl Tx.c_MOST_RULES.choose_spec.2)))).pt (s_one s_never) s_nil) (s_cons (s_own (i := 3) sc_Book___init__.nd (by rfl) (by first | exact .inl rfl | exact .inr rfl) (f_lst g_nil)) (s_cons (s_for PassesOwn.never (by rfl) (i_en2 (by rfl) Tx.b_enumerate (g_cons (g_var 2) g_nil) (many_cons many_nil)) (gt_tup (by rfl) (gts_cons (gt_name (i := 4) sc_Book___init__.nd (by rfl) (by first | exact .inl rfl | exact .inr rfl)) (gts_cons (gt_name (i := 5) sc_Book___init__.nd (by rfl) (by first | exact .inl rfl | exact .inr rfl)) gts_nil))) (s_cons (s_set (i := 6) sc_Book___init__.nd (by rfl) (by first | exact .inl rfl | exact .inr rfl) (g_viewI (g_call C_rule_reason hr (by omega) (by rfl) passL (many_cons (many_cons (many_cons many_nil))) (g_cons (g_var 1) (g_cons (g_var 5) (g_cons (g_var 3) g_nil)))))) (s_cons (s_if (y_isn (g_var 6) g_non) (s_one s_never) s_nil) (s_one (s_app (i := 3) (by rfl) (by first | exact .inl rfl | exact .inr (.inl rfl)) (g_ix (g_var 5) g_int)))))) (s_cons (s_fld (i := 0) "Book" (by rfl) (.inl rfl) Tx.cl_Book Tx.na_Book_signs (g_var 1)) (s_cons (s_fld (i := 0) "Book" (by rfl) (.inl rfl) Tx.cl_Book Tx.na_Book_rules (g_call C_fixed hr (by omega) (by rfl) passL (many_cons many_nil) (g_cons (g_var 2) g_nil))) (s_one (s_fld (i := 0) "Book" (by rfl) (.inl rfl) Tx.cl_Book Tx.na_Book_names (g_otup (i := 3) (by rfl) (by first | exact .inl rfl | exact .inr (.inl rfl)) (by rfl) Tx.b_tuple)))))))))
theorem okk_makek_Book_rules_signs (Tx : Txt K mg) (C_fixed : CalP P w K mg base (tabOf mg) 8 "fixed" 1 f_fixed) (C_is_listed : CalP P w K mg base (tabOf mg) 1 "is_listed" 1 f_is_listed) (C_need_signs : CalP P w K mg base (tabOf mg) 1 "need_signs" 1 f_need_signs) (C_rule_reason : CalP P w K mg base (tabOf mg) 6 "rule_reason" 3 f_rule_reason) : MakK P w K mg base (tabOf mg) 9 "Book" "Book" 2 ["rules", "signs"] [1, 0] i_Book := by
  obtain ⟨fa, fd, F, hb, hk, hm⟩ := Tx.make_Book.at_
  refine ⟨⟨fa, fd, _, hk, fn_I0 F sc_Book___init__ (fun cdv A outer s H E c hT hr => ?_), (fun_kb F fun _ _ _ _ _ _ us ws h1 h2 => match us, ws, h1, h2 with | [_], [_, _], _, _ => rfl), hm⟩, (fun es h => match es, h with | [_, _], _ => rfl)⟩
  obtain ⟨T, pa, F0, H0, sf⟩ := c
  cases hT
  exact (s_cons (s_expr (g_call C_need_signs hr (by omega) (by rfl) passL (many_cons many_nil) (g_cons (g_var 1) g_nil))) (s_cons (s_if (w_or (t_not (t_val (g_call C_is_listed hr (by omega) (by rfl) passL (many_cons many_nil) (g_cons (g_var 2) g_nil)))) (w_or1 (y_gt (x_len (by rfl) Tx.b_len (g_var 2)) (g_glob (d := .int 20) (by rfl) Tx.c_MOST_RULES.choose_spec.1 rfl Tx.c_MOST_RULES.choose_spec.2)))).pt (s_one s_never) s_nil) (s_cons (s_own (i := 3) sc_Book___init__.nd (by rfl) (by first | exact .inl rfl | exact .inr rfl) (f_lst g_nil)) (s_cons (s_for PassesOwn.never (by rfl) (i_en2 (by rfl) Tx.b_enumerate (g_cons (g_var 2) g_nil) (many_cons many_nil)) (gt_tup (by rfl) (gts_cons (gt_name (i := 4) sc_Book___init__.nd (by rfl) (by first | exact .inl rfl | exact .inr rfl)) (gts_cons (gt_name (i := 5) sc_Book___init__.nd (by rfl) (by first | exact .inl rfl | exact .inr rfl)) gts_nil))) (s_cons (s_set (i := 6) sc_Book___init__.nd (by rfl) (by first | exact .inl rfl | exact .inr rfl) (g_viewI (g_call C_rule_reason hr (by omega) (by rfl) passL (many_cons (many_cons (many_cons many_nil))) (g_cons (g_var 1) (g_cons (g_var 5) (g_cons (g_var 3) g_nil)))))) (s_cons (s_if (y_isn (g_var 6) g_non) (s_one s_never) s_nil) (s_one (s_app (i := 3) (by rfl) (by first | exact .inl rfl | exact .inr (.inl rfl)) (g_ix (g_var 5) g_int)))))) (s_cons (s_fld (i := 0) "Book" (by rfl) (.inl rfl) Tx.cl_Book Tx.na_Book_signs (g_var 1)) (s_cons (s_fld (i := 0) "Book" (by rfl) (.inl rfl) Tx.cl_Book Tx.na_Book_rules (g_call C_fixed hr (by omega) (by rfl) passL (many_cons many_nil) (g_cons (g_var 2) g_nil))) (s_one (s_fld (i := 0) "Book" (by rfl) (.inl rfl) Tx.cl_Book Tx.na_Book_names (g_otup (i := 3) (by rfl) (by first | exact .inl rfl | exact .inr (.inl rfl)) (by rfl) Tx.b_tuple)))))))))
theorem ok_Book___eq__ (Tx : Txt K mg) (C_Signs___eq__ : MetP P w K mg base (tabOf mg) 1 "Signs" "__eq__" 1 f_Signs___eq__) : MetP P w K mg base (tabOf mg) 2 "Book" "__eq__" 1 f_Book___eq__ := by
  obtain ⟨fa, fd, F, hb, hk⟩ := Tx.m_Book___eq__.at_
  refine ⟨fa, fd, _, fn_P0 F sc_Book___eq__ (fun cdv A outer s H E c hT hr => ?_), hb, Tx.cl_Book, hk⟩
  obtain ⟨T, pa, F0, H0, sf⟩ := c
  cases hT
  exact (s_cons (s_if (t_not (t_val (g_isT "Book" (g_var 1) Tx.ic_Book Tx.it_Book (by rfl) Tx.b_isinstance (by rfl) Tx.cm_Book))) (s_one (s_ret g_bl)) s_nil) (s_one (s_ret (x_bool (by rfl) Tx.b_bool (g_and (g_eqI C_Signs___eq__ hr (by decide) passL (g_fld "Book" (g_var 0) Tx.cl_Book Tx.na_Book_signs) (g_fld "Book" (g_var 1) Tx.cl_Book Tx.na_Book_signs)) (g_one (x_eq hr (g_fld "Book" (g_var 0) Tx.cl_Book Tx.na_Book_rules) (g_fld "Book" (g_var 1) Tx.cl_Book Tx.na_Book_rules))))))))
theorem ok_Book_left (Tx : Txt K mg)  : MetP P w K mg base (tabOf mg) 1 "Book" "left" 1 f_Book_left := by
  obtain ⟨fa, fd, F, hb, hk⟩ := Tx.m_Book_left.at_
  refine ⟨fa, fd, _, fn_P0 F sc_Book_left (fun cdv A outer s H E c hT hr => ?_), hb, Tx.cl_Book, hk⟩
  obtain ⟨T, pa, F0, H0, sf⟩ := c
  cases hT
  exact (s_one (s_ret (g_ix (g_ix (g_fld "Book" (g_var 0) Tx.cl_Book Tx.na_Book_rules) (g_var 1)) g_int)))
theorem okk_methk_Book_left_index (Tx : Txt K mg)  : MetK P w K mg base (tabOf mg) 1 "Book" "left" 1 ["index"] [0] f_Book_left := by
  obtain ⟨fa, fd, F, hb, hk⟩ := Tx.m_Book_left.at_
  refine ⟨⟨fa, fd, _, fn_P0 F sc_Book_left (fun cdv A outer s H E c hT hr => ?_), (fun_kb F fun _ _ _ _ _ _ us ws h1 h2 => match us, ws, h1, h2 with | [_], [_], _, _ => rfl), Tx.cl_Book, hk⟩, (fun es h => match es, h with | [_], _ => rfl)⟩
  obtain ⟨T, pa, F0, H0, sf⟩ := c
  cases hT
  exact (s_one (s_ret (g_ix (g_ix (g_fld "Book" (g_var 0) Tx.cl_Book Tx.na_Book_rules) (g_var 1)) g_int)))
theorem ok_Book_right (Tx : Txt K mg)  : MetP P w K mg base (tabOf mg) 1 "Book" "right" 1 f_Book_right := by
  obtain ⟨fa, fd, F, hb, hk⟩ := Tx.m_Book_right.at_
  refine ⟨fa, fd, _, fn_P0 F sc_Book_right (fun cdv A outer s H E c hT hr => ?_), hb, Tx.cl_Book, hk⟩
  obtain ⟨T, pa, F0, H0, sf⟩ := c
  cases hT
  exact (s_one (s_ret (g_ix (g_ix (g_fld "Book" (g_var 0) Tx.cl_Book Tx.na_Book_rules) (g_var 1)) g_int)))
theorem okk_methk_Book_right_index (Tx : Txt K mg)  : MetK P w K mg base (tabOf mg) 1 "Book" "right" 1 ["index"] [0] f_Book_right := by
  obtain ⟨fa, fd, F, hb, hk⟩ := Tx.m_Book_right.at_
  refine ⟨⟨fa, fd, _, fn_P0 F sc_Book_right (fun cdv A outer s H E c hT hr => ?_), (fun_kb F fun _ _ _ _ _ _ us ws h1 h2 => match us, ws, h1, h2 with | [_], [_], _, _ => rfl), Tx.cl_Book, hk⟩, (fun es h => match es, h with | [_], _ => rfl)⟩
  obtain ⟨T, pa, F0, H0, sf⟩ := c
  cases hT
  exact (s_one (s_ret (g_ix (g_ix (g_fld "Book" (g_var 0) Tx.cl_Book Tx.na_Book_rules) (g_var 1)) g_int)))
theorem ok__law_draw (Tx : Txt K mg)  : CalP P w K mg base (tabOf mg) 1 "_law_draw" 2 f__law_draw := by
  obtain ⟨fa, fd, F, hb, hm⟩ := Tx.d__law_draw.at_
  refine ⟨fa, fd, _, fn_P0 F sc__law_draw (fun cdv A outer s H E c hT hr => ?_), hb, hm, F.kp, tab_fn hm⟩
  obtain ⟨T, pa, F0, H0, sf⟩ := c
  cases hT
  exact (s_cons (s_if (y_gt (g_ix (g_var 0) g_int) g_int) (s_cons (s_set (i := 2) sc__law_draw.nd (by rfl) (by first | exact .inl rfl | exact .inr rfl) (x_int (by rfl) Tx.b_int (g_ix (g_var 0) g_int))) (s_cons (s_pen (i := 0) (by rfl) (by first | exact .inl rfl | exact .inr (.inl rfl)) (x_fdiv (g_var 2) (g_var 1))) (s_one (s_ret (x_mod (x_int (by rfl) Tx.b_int (g_var 2)) (g_var 1)))))) s_nil) (s_cons (s_set (i := 3) sc__law_draw.nd (by rfl) (by first | exact .inl rfl | exact .inr rfl) (g_ix (g_var 0) g_int)) (s_cons (s_pen (i := 0) (by rfl) (by first | exact .inl rfl | exact .inr (.inl rfl)) (x_add (g_var 3) g_int)) (s_cons (s_set (i := 4) sc__law_draw.nd (by rfl) (by first | exact .inl rfl | exact .inr rfl) (x_add (x_mul g_int (g_var 3)) g_int)) (s_cons (s_if (y_ne hr (g_ix (g_var 0) g_int) (g_fz (f_lst g_nil))) (s_one (s_set (i := 4) sc__law_draw.nd (by rfl) (by first | exact .inl rfl | exact .inr rfl) (g_ix (g_ix (g_var 0) g_int) (x_mod (x_int (by rfl) Tx.b_int (g_var 3)) (x_len (by rfl) Tx.b_len (g_ix (g_var 0) g_int)))))) s_nil) (s_cons (s_if (w_and (y_lt (g_var 3) (x_len (by rfl) Tx.b_len (g_ix (g_var 0) g_int))) (w_and1 (y_ge (x_abs (by rfl) Tx.b_abs (g_var 4)) (x_pow g_int g_int)))).pt (s_cons (s_set (i := 2) sc__law_draw.nd (by rfl) (by first | exact .inl rfl | exact .inr rfl) (x_add (x_mul g_int (x_sub (x_abs (by rfl) Tx.b_abs (g_var 4)) (x_pow g_int g_int))) (x_int (by rfl) Tx.b_int (x_lt (g_var 4) g_int)))) (s_cons (s_pen (i := 0) (by rfl) (by first | exact .inl rfl | exact .inr (.inl rfl)) (x_fdiv (x_int (by rfl) Tx.b_int (g_var 2)) (g_var 1))) (s_one (s_ret (x_mod (x_int (by rfl) Tx.b_int (g_var 2)) (g_var 1)))))) s_nil) (s_cons (s_set (i := 5) sc__law_draw.nd (by rfl) (by first | exact .inl rfl | exact .inr rfl) (x_mod (x_int (by rfl) Tx.b_int (x_pow (x_add (x_add (x_mod (x_int (by rfl) Tx.b_int (g_var 4)) g_int) (x_mul g_int (g_var 3))) g_int) g_int)) g_int)) (s_cons (s_set (i := 5) sc__law_draw.nd (by rfl) (by first | exact .inl rfl | exact .inr rfl) (x_mod (x_int (by rfl) Tx.b_int (x_pow (x_add (x_add (x_mul (g_var 5) (x_add (x_mul g_int (g_var 3)) g_int)) (x_mul (x_mul g_int (g_var 3)) (g_var 3))) g_int) g_int)) g_int)) (s_one (s_ret (x_mod (x_int (by rfl) Tx.b_int (x_fdiv (g_var 5) g_int)) (g_var 1))))))))))))
theorem ok__law_pick (Tx : Txt K mg) (C__law_draw : CalP P w K mg base (tabOf mg) 1 "_law_draw" 2 f__law_draw) : CalP P w K mg base (tabOf mg) 2 "_law_pick" 2 f__law_pick := by
  obtain ⟨fa, fd, F, hb, hm⟩ := Tx.d__law_pick.at_
  refine ⟨fa, fd, _, fn_P0 F sc__law_pick (fun cdv A outer s H E c hT hr => ?_), hb, hm, F.kp, tab_fn hm⟩
  obtain ⟨T, pa, F0, H0, sf⟩ := c
  cases hT
  exact (s_one (s_ret (g_ix (g_var 1) (g_call C__law_draw hr (by omega) (by rfl) passL (many_cons (many_cons many_nil)) (g_cons (g_var 0) (g_cons (x_len (by rfl) Tx.b_len (g_var 1)) g_nil))))))
theorem ok__law_mixed (Tx : Txt K mg) (C__law_draw : CalP P w K mg base (tabOf mg) 1 "_law_draw" 2 f__law_draw) : CalP P w K mg base (tabOf mg) 2 "_law_mixed" 2 f__law_mixed := by
  obtain ⟨fa, fd, F, hb, hm⟩ := Tx.d__law_mixed.at_
  refine ⟨fa, fd, _, fn_P0 F sc__law_mixed (fun cdv A outer s H E c hT hr => ?_), hb, hm, F.kp, tab_fn hm⟩
  obtain ⟨T, pa, F0, H0, sf⟩ := c
  cases hT
  exact (s_cons (s_par2 (i := 2) (j := 3) (by rfl) sc__law_mixed.nd (by rfl) (by rfl) (by decide) (by rfl) (by rfl) (i_o (f_list (by rfl) Tx.b_list (g_cons (g_var 1) g_nil))) (fun _ => (i_o (f_lst g_nil))) (by rfl)) (s_cons (s_for PassesOwn.never (by rfl) (i_rg1 (by rfl) Tx.b_range (g_cons (g_view (x_len (by rfl) Tx.b_len (g_var 2))) g_nil) (hn := (many_cons many_nil))) (gt_name (i := 4) sc__law_mixed.nd (by rfl) (by first | exact .inl rfl | exact .inr rfl)) (s_one (s_app (i := 3) (by rfl) (by first | exact .inl rfl | exact .inr (.inl rfl)) (g_popAt (i := 2) (by rfl) (by first | exact .inl rfl | exact .inr (.inl rfl)) (g_call C__law_draw hr (by omega) (by rfl) passL (many_cons (many_cons many_nil)) (g_cons (g_var 0) (g_cons (g_view (x_len (by rfl) Tx.b_len (g_var 2))) g_nil))))))) (s_one (s_frz (i := 3) (s_ret (g_var 3))))))
theorem ok__law_signs (Tx : Txt K mg) (C__law_draw : CalP P w K mg base (tabOf mg) 1 "_law_draw" 2 f__law_draw) (C__law_mixed : CalP P w K mg base (tabOf mg) 2 "_law_mixed" 2 f__law_mixed) (C__law_pick : CalP P w K mg base (tabOf mg) 2 "_law_pick" 2 f__law_pick) : CalP P w K mg base (tabOf mg) 3 "_law_signs" 1 f__law_signs := by
  obtain ⟨fa, fd, F, hb, hm⟩ := Tx.d__law_signs.at_
  refine ⟨fa, fd, _, fn_P0 F sc__law_signs (fun cdv A outer s H E c hT hr => ?_), hb, hm, F.kp, tab_fn hm⟩
  obtain ⟨T, pa, F0, H0, sf⟩ := c
  cases hT
  exact (s_cons (s_set (i := 1) sc__law_signs.nd (by rfl) (by first | exact .inl rfl | exact .inr rfl) (g_fz (f_sl (g_call C__law_mixed hr (by omega) (by rfl) passL (many_cons (many_cons many_nil)) (g_cons (g_var 0) (g_cons (g_fz (f_lst (g_cons g_str (g_cons g_str (g_cons g_str (g_cons g_str g_nil)))))) g_nil))) p_none (p_some (g_call C__law_pick hr (by omega) (by rfl) passL (many_cons (many_cons many_nil)) (g_cons (g_var 0) (g_cons (g_fz (f_lst (g_cons g_int (g_cons g_int (g_cons g_int (g_cons g_int g_nil)))))) g_nil))))))) (s_cons (s_set (i := 2) sc__law_signs.nd (by rfl) (by first | exact .inl rfl | exact .inr rfl) (g_call C__law_mixed hr (by omega) (by rfl) passL (many_cons (many_cons many_nil)) (g_cons (g_var 0) (g_cons (g_fz (f_lst (g_cons g_str (g_cons g_str (g_cons g_str (g_cons g_str (g_cons g_str (g_cons g_str (g_cons g_str (g_cons g_str (g_cons g_str (g_cons g_str (g_cons g_str (g_cons g_str (g_cons g_str g_nil))))))))))))))) g_nil)))) (s_cons (s_own (i := 3) sc__law_signs.nd (by rfl) (by first | exact .inl rfl | exact .inr rfl) (f_lst (g_cons (g_tup (g_cons (g_ix (g_var 2) g_int) (g_cons (g_tup (g_cons (g_ix (g_var 1) g_int) g_nil)) (g_cons (g_ix (g_var 1) g_int) g_nil)))) g_nil))) (s_cons (s_for PassesOwn.never (by rfl) (i_en (by rfl) Tx.b_enumerate (g_cons (g_var 1) g_nil) (many_cons many_nil)) (gt_tup (by rfl) (gts_cons (gt_name (i := 4) sc__law_signs.nd (by rfl) (by first | exact .inl rfl | exact .inr rfl)) (gts_cons (gt_name (i := 5) sc__law_signs.nd (by rfl) (by first | exact .inl rfl | exact .inr rfl)) gts_nil))) (s_one (s_app (i := 3) (by rfl) (by first | exact .inl rfl | exact .inr (.inl rfl)) (g_tup (g_cons (g_ix (g_var 2) (x_add g_int (g_var 4))) (g_cons (g_tup g_nil) (g_cons (g_var 5) g_nil))))))) (s_cons (s_for PassesOwn.never (by rfl) (i_seq (g_fz (f_sl (g_var 2) (p_some (x_add g_int (x_len (by rfl) Tx.b_len (g_var 1)))) (p_some (x_add (x_add g_int (x_len (by rfl) Tx.b_len (g_var 1))) (g_call C__law_draw hr (by omega) (by rfl) passL (many_cons (many_cons many_nil)) (g_cons (g_var 0) (g_cons g_int g_nil)))))))) (gt_name (i := 6) sc__law_signs.nd (by rfl) (by first | exact .inl rfl | exact .inr rfl)) (s_cons (s_set (i := 7) sc__law_signs.nd (by rfl) (by first | exact .inl rfl | exact .inr rfl) (g_call C__law_pick hr (by omega) (by rfl) passL (many_cons (many_cons many_nil)) (g_cons (g_var 0) (g_cons (g_fz (f_lst (g_cons g_int (g_cons g_int (g_cons g_int (g_cons g_int (g_cons g_int (g_cons g_int (g_cons g_int g_nil))))))))) g_nil)))) (s_one (s_app (i := 3) (by rfl) (by first | exact .inl rfl | exact .inr (.inl rfl)) (g_tup (g_cons (g_var 6) (g_cons (x_tuple (by rfl) Tx.b_tuple (g_fz (f_comp (g := gName 8) (ix := [8]) (own := [("turn", 8)]) (by rfl) sc__law_signs.nd (i_rg1 (by rfl) Tx.b_range (g_cons (g_var 7) g_nil) (hn := (many_cons many_nil))) (BlkOk.of (by kernel_rfl)) (by decide) (fun _ _ _ _ _ _ => (gt_name (i := 8) sc__law_signs.nd (by rfl) (by first | exact .inl rfl | exact .inr rfl))) (fun _ _ _ _ _ _ => ts_nil) (fun _ _ _ _ _ _ => (g_call C__law_pick hr (by omega) (by rfl) passL (many_cons (many_cons many_nil)) (g_cons (g_var 0) (g_cons (g_var 1) g_nil))))))) (g_cons (g_call C__law_pick hr (by omega) (by rfl) passL (many_cons (many_cons many_nil)) (g_cons (g_var 0) (g_cons (g_var 1) g_nil))) g_nil)))))))) (s_one (s_frz (i := 3) (s_ret (g_tup (g_cons (g_var 1) (g_cons (g_call C__law_mixed hr (by omega) (by rfl) passL (many_cons (many_cons many_nil)) (g_cons (g_var 0) (g_cons (g_var 3) g_nil))) g_nil)))))))))))
theorem ok__law_symbol (Tx : Txt K mg)  : CalP P w K mg base (tabOf mg) 1 "_law_symbol" 2 f__law_symbol := by
  obtain ⟨fa, fd, F, hb, hm⟩ := Tx.d__law_symbol.at_
  refine ⟨fa, fd, _, fn_P0 F sc__law_symbol (fun cdv A outer s H E c hT hr => ?_), hb, hm, F.kp, tab_fn hm⟩
  obtain ⟨T, pa, F0, H0, sf⟩ := c
  cases hT
  exact (s_one (s_ret (g_ix (g_fz (f_comp (g := gName 2) (ix := [2]) (own := [("row", 2)]) (by rfl) sc__law_symbol.nd (i_seq (g_ix (g_var 0) g_int)) (BlkOk.of (by kernel_rfl)) (by decide) (fun _ _ _ _ _ _ => (gt_name (i := 2) sc__law_symbol.nd (by rfl) (by first | exact .inl rfl | exact .inr rfl))) (fun _ _ _ _ _ _ => (ts_one (y_eq hr (g_ix (g_var 2) g_int) (g_var 1)))) (fun _ _ _ _ _ _ => (g_var 2)))) g_int)))
theorem ok__law_left (Tx : Txt K mg) (C__law_draw : CalP P w K mg base (tabOf mg) 1 "_law_draw" 2 f__law_draw) (C__law_mixed : CalP P w K mg base (tabOf mg) 2 "_law_mixed" 2 f__law_mixed) (C__law_pick : CalP P w K mg base (tabOf mg) 2 "_law_pick" 2 f__law_pick) (C__law_symbol : CalP P w K mg base (tabOf mg) 1 "_law_symbol" 2 f__law_symbol) : CalP P w K mg base (tabOf mg) 3 "_law_left" 3 f__law_left := by
  obtain ⟨fa, fd, F, hb, hm⟩ := Tx.d__law_left.at_
  refine ⟨fa, fd, _, fn_P0 F sc__law_left (fun cdv A outer s H E c hT hr => ?_), hb, hm, F.kp, tab_fn hm⟩
  obtain ⟨T, pa, F0, H0, sf⟩ := c
  cases hT
  exact (s_cons (s_set (i := 3) sc__law_left.nd (by rfl) (by first | exact .inl rfl | exact .inr rfl) (g_call C__law_pick hr (by omega) (by rfl) passL (many_cons (many_cons many_nil)) (g_cons (g_var 0) (g_cons (g_ix (g_var 1) g_int) g_nil)))) (s_cons (s_par3 (i := 4) (j := 5) (k := 6) (by rfl) sc__law_left.nd (by rfl) (by rfl) (by rfl) (by decide) (by decide) (by decide) (by rfl) (by rfl) (by rfl) (i_o (f_lst (g_cons (g_ix (g_var 3) g_int) g_nil))) (fun _ => (i_o (f_lst g_nil))) (fun _ => (i_o (f_rev (g_fz (f_list (by rfl) Tx.b_list (g_cons (g_ix (g_var 3) g_int) g_nil)))))) (by rfl)) (s_cons (s_set (i := 7) sc__law_left.nd (by rfl) (by first | exact .inl rfl | exact .inr rfl) (g_call C__law_mixed hr (by omega) (by rfl) passL (many_cons (many_cons many_nil)) (g_cons (g_var 0) (g_cons (g_fz (f_lst (g_cons g_str (g_cons g_str (g_cons g_str (g_cons g_str (g_cons g_str (g_cons g_str (g_cons g_str (g_cons g_str (g_cons g_str (g_cons g_str (g_cons g_str (g_cons g_str g_nil)))))))))))))) g_nil)))) (s_cons (s_for PassesOwn.never (by rfl) (i_rg1 (by rfl) Tx.b_range (g_cons g_int g_nil) (hn := (many_cons many_nil))) (gt_name (i := 8) sc__law_left.nd (by rfl) (by first | exact .inl rfl | exact .inr rfl)) (s_cons (s_if (t_view (y_eq hr (g_var 6) (g_fz (f_lst g_nil)))) (s_one s_break) s_nil) (s_cons (s_set (i := 9) sc__law_left.nd (by rfl) (by first | exact .inl rfl | exact .inr rfl) (g_pop (i := 6) (by rfl) (by first | exact .inl rfl | exact .inr (.inl rfl)))) (s_cons (s_setC (i := 10) (g := gTup K 3 (gCons (gName 11) (gCons (gName 12) (gCons (gName 13) (gNil))))) (ix := [11, 12, 13]) (own := [("name", 11), ("sorts", 12), ("its", 13)]) (by rfl) sc__law_left.nd (by rfl) (by rfl) (by rfl) (i_seq (g_ix (g_var 1) g_int)) (BlkOk.of (by kernel_rfl)) (by decide) (fun _ _ _ _ _ _ => (gt_tup (by rfl) (gts_cons (gt_name (i := 11) sc__law_left.nd (by rfl) (by first | exact .inl rfl | exact .inr rfl)) (gts_cons (gt_name (i := 12) sc__law_left.nd (by rfl) (by first | exact .inl rfl | exact .inr rfl)) (gts_cons (gt_name (i := 13) sc__law_left.nd (by rfl) (by first | exact .inl rfl | exact .inr rfl)) gts_nil))))) (fun _ _ _ _ _ _ => (ts_one (y_eq hr (g_var 13) (g_var 9)))) (fun _ _ _ _ _ _ => (g_var 11))) (s_one (s_if (w_or (y_eq hr (g_var 10) (g_fz (f_lst g_nil))) (w_or (t_view (y_ge (x_add (x_len (by rfl) Tx.b_len (g_var 4)) (x_len (by rfl) Tx.b_len (g_var 6))) (g_var 2))) (w_or1 (y_eq hr (g_call C__law_draw hr (by omega) (by rfl) passL (many_cons (many_cons many_nil)) (g_cons (g_var 0) (g_cons g_int g_nil))) g_int)))).pt (s_cons (s_app (i := 4) (by rfl) (by first | exact .inl rfl | exact .inr (.inl rfl)) (g_tup (g_cons (g_ix (g_var 7) (g_view (x_len (by rfl) Tx.b_len (g_var 5)))) g_nil))) (s_one (s_app (i := 5) (by rfl) (by first | exact .inl rfl | exact .inr (.inl rfl)) (g_tup (g_cons (g_ix (g_var 7) (g_view (x_len (by rfl) Tx.b_len (g_var 5)))) (g_cons (g_var 9) g_nil)))))) (s_cons (s_app (i := 4) (by rfl) (by first | exact .inl rfl | exact .inr (.inl rfl)) (g_call C__law_pick hr (by omega) (by rfl) passL (many_cons (many_cons many_nil)) (g_cons (g_var 0) (g_cons (g_var 10) g_nil)))) (s_one (s_frz (i := 6) (s_own (i := 6) sc__law_left.nd (by rfl) (by first | exact .inl rfl | exact .inr rfl) (f_cat (g_var 6) (g_fz (f_rev (g_fz (f_list (by rfl) Tx.b_list (g_cons (g_ix (g_call C__law_symbol hr (by omega) (by rfl) passL (many_cons (many_cons many_nil)) (g_cons (g_var 1) (g_cons (g_oix (i := 4) (by rfl) (by first | exact .inl rfl | exact .inr (.inl rfl)) (x_neg g_int)) g_nil))) g_int) g_nil)))))))))))))))) (s_one (s_frz (i := 5) (s_ret (g_tup (g_cons (g_otup (i := 4) (by rfl) (by first | exact .inl rfl | exact .inr (.inl rfl)) (by rfl) Tx.b_tuple) (g_cons (g_var 5) g_nil))))))))))
theorem ok__law_right (Tx : Txt K mg) (C__law_draw : CalP P w K mg base (tabOf mg) 1 "_law_draw" 2 f__law_draw) (C__law_pick : CalP P w K mg base (tabOf mg) 2 "_law_pick" 2 f__law_pick) (C__law_symbol : CalP P w K mg base (tabOf mg) 1 "_law_symbol" 2 f__law_symbol) : CalP P w K mg base (tabOf mg) 3 "_law_right" 4 f__law_right := by
  obtain ⟨fa, fd, F, hb, hm⟩ := Tx.d__law_right.at_
  refine ⟨fa, fd, _, fn_P0 F sc__law_right (fun cdv A outer s H E c hT hr => ?_), hb, hm, F.kp, tab_fn hm⟩
  obtain ⟨T, pa, F0, H0, sf⟩ := c
  cases hT
  exact (s_cons (s_set (i := 4) sc__law_right.nd (by rfl) (by first | exact .inl rfl | exact .inr rfl) (g_ix (g_call C__law_symbol hr (by omega) (by rfl) passL (many_cons (many_cons many_nil)) (g_cons (g_var 1) (g_cons (g_ix (g_var 2) g_int) g_nil))) g_int)) (s_cons (s_set (i := 5) sc__law_right.nd (by rfl) (by first | exact .inl rfl | exact .inr rfl) (g_fz (f_cat (g_fz (f_comp (g := gTup K 2 (gCons (gName 6) (gCons (gName 7) (gNil)))) (ix := [6, 7]) (own := [("name", 6), ("its", 7)]) (by rfl) sc__law_right.nd (i_seq (g_var 3)) (BlkOk.of (by kernel_rfl)) (by decide) (fun _ _ _ _ _ _ => (gt_tup (by rfl) (gts_cons (gt_name (i := 6) sc__law_right.nd (by rfl) (by first | exact .inl rfl | exact .inr rfl)) (gts_cons (gt_name (i := 7) sc__law_right.nd (by rfl) (by first | exact .inl rfl | exact .inr rfl)) gts_nil)))) (fun _ _ _ _ _ _ => (ts_one (y_eq hr (g_var 7) (g_var 4)))) (fun _ _ _ _ _ _ => (g_tup (g_cons (g_tup (g_cons (g_var 6) g_nil)) g_nil))))) (g_fz (f_comp (g := gTup K 3 (gCons (gName 6) (gCons (gName 8) (gCons (gName 7) (gNil))))) (ix := [6, 8, 7]) (own := [("name", 6), ("sorts", 8), ("its", 7)]) (by rfl) sc__law_right.nd (i_seq (g_ix (g_var 1) g_int)) (BlkOk.of (by kernel_rfl)) (by decide) (fun _ _ _ _ _ _ => (gt_tup (by rfl) (gts_cons (gt_name (i := 6) sc__law_right.nd (by rfl) (by first | exact .inl rfl | exact .inr rfl)) (gts_cons (gt_name (i := 8) sc__law_right.nd (by rfl) (by first | exact .inl rfl | exact .inr rfl)) (gts_cons (gt_name (i := 7) sc__law_right.nd (by rfl) (by first | exact .inl rfl | exact .inr rfl)) gts_nil))))) (fun _ _ _ _ _ _ => (ts_one (w_and (y_eq hr (g_var 7) (g_var 4)) (w_and1 (y_eq hr (g_var 8) (g_tup g_nil)))).pt)) (fun _ _ _ _ _ _ => (g_tup (g_cons (g_var 6) g_nil)))))))) (s_cons (s_if (y_eq hr (x_len (by rfl) Tx.b_len (g_var 2)) g_int) (s_one (s_ret (g_call C__law_pick hr (by omega) (by rfl) passL (many_cons (many_cons many_nil)) (g_cons (g_var 0) (g_cons (g_fz (f_comp (g := gTup K 3 (gCons (gName 6) (gCons (gName 8) (gCons (gName 7) (gNil))))) (ix := [6, 8, 7]) (own := [("name", 6), ("sorts", 8), ("its", 7)]) (by rfl) sc__law_right.nd (i_seq (g_ix (g_var 1) g_int)) (BlkOk.of (by kernel_rfl)) (by decide) (fun _ _ _ _ _ _ => (gt_tup (by rfl) (gts_cons (gt_name (i := 6) sc__law_right.nd (by rfl) (by first | exact .inl rfl | exact .inr rfl)) (gts_cons (gt_name (i := 8) sc__law_right.nd (by rfl) (by first | exact .inl rfl | exact .inr rfl)) (gts_cons (gt_name (i := 7) sc__law_right.nd (by rfl) (by first | exact .inl rfl | exact .inr rfl)) gts_nil))))) (fun _ _ _ _ _ _ => (ts_one (w_and (y_eq hr (g_var 7) (g_var 4)) (w_and1 (y_eq hr (g_var 8) (g_tup g_nil)))).pt)) (fun _ _ _ _ _ _ => (g_tup (g_cons (g_var 6) g_nil))))) g_nil))))) s_nil) (s_cons (s_setC (i := 9) (g := gName 10) (ix := [10]) (own := [("row", 10)]) (by rfl) sc__law_right.nd (by rfl) (by rfl) (by rfl) (i_seq (g_ix (g_var 1) g_int)) (BlkOk.of (by kernel_rfl)) (by decide) (fun _ _ _ _ _ _ => (gt_name (i := 10) sc__law_right.nd (by rfl) (by first | exact .inl rfl | exact .inr rfl))) (fun _ _ _ _ _ _ => (ts_one (w_and (y_eq hr (g_ix (g_var 10) g_int) (g_var 4)) (w_and1 (y_ne hr (g_ix (g_var 10) g_int) (g_tup g_nil)))).pt)) (fun _ _ _ _ _ _ => (g_var 10))) (s_cons (s_if (w_or (y_eq hr (g_var 9) (g_fz (f_lst g_nil))) (w_or1 (w_and (y_ne hr (g_var 5) (g_fz (f_lst g_nil))) (w_and1 (y_eq hr (g_call C__law_draw hr (by omega) (by rfl) passL (many_cons (many_cons many_nil)) (g_cons (g_var 0) (g_cons g_int g_nil))) g_int))).pt)).pt (s_one (s_ret (g_call C__law_pick hr (by omega) (by rfl) passL (many_cons (many_cons many_nil)) (g_cons (g_var 0) (g_cons (g_var 5) g_nil))))) s_nil) (s_cons (s_par2n (i := 10) (k := 11) (by rfl) sc__law_right.nd (by rfl) (by rfl) (by first | exact .inl rfl | exact .inr rfl) (by first | exact .inl rfl | exact .inr rfl) (i_v (g_call C__law_pick hr (by omega) (by rfl) passL (many_cons (many_cons many_nil)) (g_cons (g_var 0) (g_cons (g_var 9) g_nil)))) (fun _ => (i_o (f_lst g_nil)))) (s_cons (s_own (i := 12) sc__law_right.nd (by rfl) (by first | exact .inl rfl | exact .inr rfl) (f_lst (g_cons (g_ix (g_var 10) g_int) g_nil))) (s_cons (s_for PassesOwn.never (by rfl) (i_seq (g_ix (g_var 10) g_int)) (gt_name (i := 7) sc__law_right.nd (by rfl) (by first | exact .inl rfl | exact .inr rfl)) (s_cons (s_setC (i := 13) (g := gTup K 2 (gCons (gName 6) (gCons (gName 14) (gNil)))) (ix := [6, 14]) (own := [("name", 6), ("of", 14)]) (by rfl) sc__law_right.nd (by rfl) (by rfl) (by rfl) (i_seq (g_var 3)) (BlkOk.of (by kernel_rfl)) (by decide) (fun _ _ _ _ _ _ => (gt_tup (by rfl) (gts_cons (gt_name (i := 6) sc__law_right.nd (by rfl) (by first | exact .inl rfl | exact .inr rfl)) (gts_cons (gt_name (i := 14) sc__law_right.nd (by rfl) (by first | exact .inl rfl | exact .inr rfl)) gts_nil)))) (fun _ _ _ _ _ _ => (ts_one (w_and (y_eq hr (g_var 14) (g_var 7)) (w_and1 (t_view (y_nin hr (g_var 6) (g_var 11))))).pt)) (fun _ _ _ _ _ _ => (g_var 6))) (s_cons (s_setC (i := 15) (g := gTup K 3 (gCons (gName 6) (gCons (gName 8) (gCons (gName 14) (gNil))))) (ix := [6, 8, 14]) (own := [("name", 6), ("sorts", 8), ("of", 14)]) (by rfl) sc__law_right.nd (by rfl) (by rfl) (by rfl) (i_seq (g_ix (g_var 1) g_int)) (BlkOk.of (by kernel_rfl)) (by decide) (fun _ _ _ _ _ _ => (gt_tup (by rfl) (gts_cons (gt_name (i := 6) sc__law_right.nd (by rfl) (by first | exact .inl rfl | exact .inr rfl)) (gts_cons (gt_name (i := 8) sc__law_right.nd (by rfl) (by first | exact .inl rfl | exact .inr rfl)) (gts_cons (gt_name (i := 14) sc__law_right.nd (by rfl) (by first | exact .inl rfl | exact .inr rfl)) gts_nil))))) (fun _ _ _ _ _ _ => (ts_one (w_and (y_eq hr (g_var 14) (g_var 7)) (w_and1 (y_eq hr (g_var 8) (g_tup g_nil)))).pt)) (fun _ _ _ _ _ _ => (g_var 6))) (s_one (s_if (w_and (y_ne hr (g_var 13) (g_fz (f_lst g_nil))) (w_and1 (w_or (y_eq hr (g_var 15) (g_fz (f_lst g_nil))) (w_or1 (y_gt (g_call C__law_draw hr (by omega) (by rfl) passL (many_cons (many_cons many_nil)) (g_cons (g_var 0) (g_cons g_int g_nil))) g_int))).pt)).pt (s_cons (s_app (i := 11) (by rfl) (by first | exact .inl rfl | exact .inr (.inl rfl)) (g_call C__law_pick hr (by omega) (by rfl) passL (many_cons (many_cons many_nil)) (g_cons (g_var 0) (g_cons (g_var 13) g_nil)))) (s_one (s_app (i := 12) (by rfl) (by first | exact .inl rfl | exact .inr (.inl rfl)) (g_tup (g_cons (g_oix (i := 11) (by rfl) (by first | exact .inl rfl | exact .inr (.inl rfl)) (x_neg g_int)) g_nil))))) (s_one (s_if (y_ne hr (g_var 15) (g_fz (f_lst g_nil))) (s_one (s_app (i := 12) (by rfl) (by first | exact .inl rfl | exact .inr (.inl rfl)) (g_call C__law_pick hr (by omega) (by rfl) passL (many_cons (many_cons many_nil)) (g_cons (g_var 0) (g_cons (g_var 15) g_nil))))) (s_one (s_ret (g_if (y_ne hr (g_var 5) (g_fz (f_lst g_nil))) (g_call C__law_pick hr (by omega) (by rfl) passL (many_cons (many_cons many_nil)) (g_cons (g_var 0) (g_cons (g_var 5) g_nil))) (g_if (y_eq hr (x_len (by rfl) Tx.b_len (g_var 2)) (x_add g_int (x_len (by rfl) Tx.b_len (g_var 3)))) (g_var 2) g_non))))))))))) (s_one (s_ret (g_otup (i := 12) (by rfl) (by first | exact .inl rfl | exact .inr (.inl rfl)) (by rfl) Tx.b_tuple)))))))))))
theorem ok__law_rules (Tx : Txt K mg) (C__law_draw : CalP P w K mg base (tabOf mg) 1 "_law_draw" 2 f__law_draw) (C__law_left : CalP P w K mg base (tabOf mg) 3 "_law_left" 3 f__law_left) (C__law_pick : CalP P w K mg base (tabOf mg) 2 "_law_pick" 2 f__law_pick) (C__law_right : CalP P w K mg base (tabOf mg) 3 "_law_right" 4 f__law_right) : CalP P w K mg base (tabOf mg) 4 "_law_rules" 4 f__law_rules := by
  obtain ⟨fa, fd, F, hb, hm⟩ := Tx.d__law_rules.at_
  refine ⟨fa, fd, _, fn_P0 F sc__law_rules (fun cdv A outer s H E c hT hr => ?_), hb, hm, F.kp, tab_fn hm⟩
  obtain ⟨T, pa, F0, H0, sf⟩ := c
  cases hT
  exact (s_cons (s_own (i := 4) sc__law_rules.nd (by rfl) (by first | exact .inl rfl | exact .inr rfl) (f_lst g_nil)) (s_cons (s_for PassesOwn.never (by rfl) (i_rg1 (by rfl) Tx.b_range (g_cons (g_var 2) g_nil) (hn := (many_cons many_nil))) (gt_name (i := 5) sc__law_rules.nd (by rfl) (by first | exact .inl rfl | exact .inr rfl)) (s_cons (s_asg (g_call C__law_left hr (by omega) (by rfl) passL (many_cons (many_cons (many_cons many_nil))) (g_cons (g_var 0) (g_cons (g_var 1) (g_cons (x_add g_int (g_call C__law_draw hr (by omega) (by rfl) passL (many_cons (many_cons many_nil)) (g_cons (g_var 0) (g_cons (g_var 3) g_nil)))) g_nil)))) (gt_tup (by rfl) (gts_cons (gt_name (i := 6) sc__law_rules.nd (by rfl) (by first | exact .inl rfl | exact .inr rfl)) (gts_cons (gt_name (i := 7) sc__law_rules.nd (by rfl) (by first | exact .inl rfl | exact .inr rfl)) gts_nil)))) (s_cons (s_set (i := 8) sc__law_rules.nd (by rfl) (by first | exact .inl rfl | exact .inr rfl) (g_call C__law_right hr (by omega) (by rfl) passL (many_cons (many_cons (many_cons (many_cons many_nil)))) (g_cons (g_var 0) (g_cons (g_var 1) (g_cons (g_var 6) (g_cons (g_var 7) g_nil)))))) (s_one (s_if (y_isn (g_var 8) g_non) (s_one (s_app (i := 4) (by rfl) (by first | exact .inl rfl | exact .inr (.inl rfl)) (g_tup (g_cons (x_add (g_slS (g_call C__law_pick hr (by omega) (by rfl) passL (many_cons (many_cons many_nil)) (g_cons (g_var 0) (g_cons (g_fz (f_lst (g_cons g_str (g_cons g_str (g_cons g_str (g_cons g_str g_nil)))))) g_nil))) p_none (p_some g_int)) (g_ix g_str (g_var 5))) (g_cons (g_var 6) (g_cons (g_var 8) g_nil)))))) s_nil))))) (s_one (s_frz (i := 4) (s_ret (g_var 4))))))
theorem ok__law_made (Tx : Txt K mg) (C_make_Signs : MakP P w K mg base (tabOf mg) 9 "Signs" "Signs" 2 i_Signs) : CalP P w K mg base (tabOf mg) 11 "_law_made" 1 f__law_made := by
  obtain ⟨fa, fd, F, hb, hm⟩ := Tx.d__law_made.at_
  refine ⟨fa, fd, _, fn_P0 F sc__law_made (fun cdv A outer s H E c hT hr => ?_), hb, hm, F.kp, tab_fn hm⟩
  obtain ⟨T, pa, F0, H0, sf⟩ := c
  cases hT
  exact (s_one (s_ret (g_make C_make_Signs hr (by decide) (by rfl) passL (many_cons (many_cons many_nil)) (g_cons (g_ix (g_var 0) g_int) (g_cons (g_ix (g_var 0) g_int) g_nil)))))
theorem ok__law_lists (Tx : Txt K mg) {k : Nat} {rec : FM} (C__law_lists : CalP P w K mg base (tabOf mg) k "_law_lists" 1 rec) : CalP P w K mg base (tabOf mg) (k + 1) "_law_lists" 1 (runB0 1 2 (m__law_lists rec)) := by
  obtain ⟨fa, fd, F, hb, hm⟩ := Tx.d__law_lists.at_
  refine ⟨fa, fd, _, fn_P0 F sc__law_lists (fun cdv A outer s H E c hT hr => ?_), hb, hm, F.kp, tab_fn hm⟩
  obtain ⟨T, pa, F0, H0, sf⟩ := c
  cases hT
  exact (s_one (s_ret (g_if (t_val (g_isi2 (g_var 0) (by rfl) Tx.b_isinstance (by rfl) Tx.b_list boot_list_ (by rfl) Tx.b_tuple boot_tuple_)) (g_fz (f_comp (g := gName 1) (ix := [1]) (own := [("one", 1)]) (by rfl) sc__law_lists.nd (i_seq (g_var 0)) (BlkOk.of (by kernel_rfl)) (by decide) (fun _ _ _ _ _ _ => (gt_name (i := 1) sc__law_lists.nd (by rfl) (by first | exact .inl rfl | exact .inr rfl))) (fun _ _ _ _ _ _ => ts_nil) (fun _ _ _ _ _ _ => (g_call C__law_lists hr (by omega) (by rfl) passL (many_cons many_nil) (g_cons (g_var 1) g_nil))))) (g_var 0))))
end
section
variable {P : Program} {w : World} {K : PySem.W.Frag} {mg : Str → Option Value} {base : Heap}
theorem ok__law_pen (Tx : Txt K mg) : ∃ fa fd, FnOk P w K mg base (L2.CX P w) 1 fa fd ["script"] (spPen K) ∧ Binds K fd ["script"] [] ∧ mg "_law_pen" = some (.ref fa) ∧ PySem.W.keepIn K (.ref fa) = true := by
  obtain ⟨fa, fd, F, hb, hm⟩ := Tx.d__law_pen.at_
  refine ⟨fa, fd, pen_fn F sc__law_pen (fun ns cdv A outer s H E c hl hn hS hr => ?_), hb, hm, F.kp⟩
  exact (s_one (s_ret (g_fz (f_lst (g_cons (g_fz (f_comp (g := gName 1) (ix := [1]) (own := [("cell", 1)]) (by rfl) sc__law_pen.nd (i_seq (g_fz (f_scr hl hn hS (g_var 0)))) (BlkOk.of (by kernel_rfl)) (by decide) (fun _ _ _ _ _ _ => (gt_name (i := 1) sc__law_pen.nd (by rfl) (by first | exact .inl rfl | exact .inr rfl))) (fun _ _ _ _ _ _ => ts_nil) (fun _ _ _ _ _ _ => (x_int (by rfl) Tx.b_int (g_var 1))))) (g_cons g_int (g_cons g_int g_nil)))))))
theorem ok_law (Tx : Txt K mg) {fa : Addr} {fd : FuncData} (F : Fun K "law" "law" s_law fa fd) (C_make_Book : MakP P w K mg base (tabOf mg) 9 "Book" "Book" 2 i_Book) (C_makek_Book_rules_signs : MakK P w K mg base (tabOf mg) 9 "Book" "Book" 2 ["rules", "signs"] [1, 0] i_Book) (C_Book___eq__ : MetP P w K mg base (tabOf mg) 2 "Book" "__eq__" 1 f_Book___eq__) (C_Book_left : MetP P w K mg base (tabOf mg) 1 "Book" "left" 1 f_Book_left) (C_Book_right : MetP P w K mg base (tabOf mg) 1 "Book" "right" 1 f_Book_right) (C_Signs___eq__ : MetP P w K mg base (tabOf mg) 1 "Signs" "__eq__" 1 f_Signs___eq__) (C_methk_Book_left_index : MetK P w K mg base (tabOf mg) 1 "Book" "left" 1 ["index"] [0] f_Book_left) (C_methk_Book_right_index : MetK P w K mg base (tabOf mg) 1 "Book" "right" 1 ["index"] [0] f_Book_right) (C__law_draw : CalP P w K mg base (tabOf mg) 1 "_law_draw" 2 f__law_draw) (C__law_lists : CalP P w K mg base (tabOf mg) 8 "_law_lists" 1 f__law_lists) (C__law_made : CalP P w K mg base (tabOf mg) 11 "_law_made" 1 f__law_made) (C__law_rules : CalP P w K mg base (tabOf mg) 4 "_law_rules" 4 f__law_rules) (C__law_signs : CalP P w K mg base (tabOf mg) 3 "_law_signs" 1 f__law_signs) (hm : ∀ ns : List Int, ns.length ≤ 63 → ∃ ps', m_law (.un :: .v .pen :: List.replicate 19 .un) ⟨ns, 0, 0⟩ = .rt (.bl true) ps') : FnAt callerA P w K mg base (L2.CX P w) 12 fa fd ["script"] (spLaw K) := by
  obtain ⟨fp, fdp, Fp, bp, mp, kp⟩ := ok__law_pen (P := P) (w := w) (base := base) Tx
  refine law_atU F sc_law rfl (fun cdv outer s H E hr => ?_) (fun cdv outer s H E c hT hP hr => ?_) hm
  · exact ps_set (i := 1) sc_law.nd (by rfl) (by first | exact .inl rfl | exact .inr rfl) (pe_call Fp (hr.mono (by decide)) (by rfl) mp kp bp .nil passL (pa_cons (pe_var (by rfl) (by first | exact .inl rfl | exact .inr (.inl rfl))) pa_nil (by rfl)))
  · obtain ⟨T, pa, F0, H0, sf⟩ := c
    cases hT
    have hG : (callerA.deeper (PyProof.Rows.envOfC "law" (defScope s_law) s.heap.objs.size fa cdv)).guards = some [] := rfl
    exact (u_cons (u_for PassesOwn.never (by rfl) (by rfl) Tx.b_range (gt_name (i := 2) sc_law.nd (by rfl) (by first | exact .inl rfl | exact .inr rfl)) (u_cons (u_up (s_set (i := 3) sc_law.nd (by rfl) (by first | exact .inl rfl | exact .inr rfl) (g_call C__law_signs hr (by omega) (by rfl) passL (many_cons many_nil) (g_cons (g_var 1) g_nil)))) (u_cons (u_up (s_par2 (i := 4) (j := 5) (by rfl) sc_law.nd (by rfl) (by rfl) (by decide) (by rfl) (by rfl) (i_v (g_call C__law_rules hr (by omega) (by rfl) passL (many_cons (many_cons (many_cons (many_cons many_nil)))) (g_cons (g_var 1) (g_cons (g_var 3) (g_cons g_int (g_cons g_int g_nil)))))) (fun _ => (i_v (g_call C__law_made hr (by omega) (by rfl) passL (many_cons many_nil) (g_cons (g_var 3) g_nil)))) (by rfl))) (u_cons (u_up (s_set (i := 6) sc_law.nd (by rfl) (by first | exact .inl rfl | exact .inr rfl) (g_call C__law_lists hr (by omega) (by rfl) passL (many_cons many_nil) (g_cons (g_var 4) g_nil)))) (u_cons (u_up (s_par2 (i := 7) (j := 8) (by rfl) sc_law.nd (by rfl) (by rfl) (by decide) (by rfl) (by rfl) (i_v (g_make C_make_Book hr (by decide) (by rfl) passL (many_cons (many_cons many_nil)) (g_cons (g_var 5) (g_cons (g_var 6) g_nil)))) (fun _ => (i_v (g_makeK (ks := ["rules", "signs"]) C_makek_Book_rules_signs hr (by decide) (by rfl) passL (many_cons (many_cons many_nil)) (g_kcons (x_tuple (by rfl) Tx.b_tuple (g_var 4)) (g_kcons (g_call C__law_made hr (by omega) (by rfl) passL (many_cons many_nil) (g_cons (g_var 3) g_nil)) g_knil))))) (by rfl))) (u_cons (u_up (s_if (w_or (y_ne hr (x_repr hG hr (by rfl) Tx.b_repr (g_tup (g_cons (g_fld "Book" (g_var 7) Tx.cl_Book Tx.na_Book_rules) (g_cons (g_fld "Book" (g_var 7) Tx.cl_Book Tx.na_Book_names) g_nil)))) (x_repr hG hr (by rfl) Tx.b_repr (g_tup (g_cons (x_tuple (by rfl) Tx.b_tuple (g_var 4)) (g_cons (x_tuple (by rfl) Tx.b_tuple (g_fz (f_comp (g := gName 9) (ix := [9]) (own := [("row", 9)]) (by rfl) sc_law.nd (i_seq (g_var 4)) (BlkOk.of (by kernel_rfl)) (by decide) (fun _ _ _ _ _ _ => (gt_name (i := 9) sc_law.nd (by rfl) (by first | exact .inl rfl | exact .inr rfl))) (fun _ _ _ _ _ _ => ts_nil) (fun _ _ _ _ _ _ => (g_ix (g_var 9) g_int))))) g_nil))))) (w_or (t_neI Tx.ne_Signs C_Signs___eq__ hr (by decide) passL (g_fld "Book" (g_var 7) Tx.cl_Book Tx.na_Book_signs) (g_var 5)) (w_or (t_neI Tx.ne_Book C_Book___eq__ hr (by decide) passL (g_var 7) (g_var 8)) (w_or1 (t_eqI C_Book___eq__ hr (by decide) passL (g_var 7) (g_fld "Book" (g_var 7) Tx.cl_Book Tx.na_Book_rules)))))).pt (s_one (s_ret g_bl)) s_nil)) (u_cons (u_up (s_for PassesOwn.never (by rfl) (i_en (by rfl) Tx.b_enumerate (g_cons (g_var 4) g_nil) (many_cons many_nil)) (gt_tup (by rfl) (gts_cons (gt_name (i := 10) sc_law.nd (by rfl) (by first | exact .inl rfl | exact .inr rfl)) (gts_cons (gt_tup (by rfl) (gts_cons (gt_name (i := 11) sc_law.nd (by rfl) (by first | exact .inl rfl | exact .inr rfl)) (gts_cons (gt_name (i := 12) sc_law.nd (by rfl) (by first | exact .inl rfl | exact .inr rfl)) (gts_cons (gt_name (i := 13) sc_law.nd (by rfl) (by first | exact .inl rfl | exact .inr rfl)) gts_nil)))) gts_nil))) (s_one (s_if (w_or (y_ne hr (x_repr hG hr (by rfl) Tx.b_repr (g_tup (g_cons (g_meth C_Book_left hr (by decide) passL (many_cons many_nil) (g_var 7) (g_cons (g_var 10) g_nil)) (g_cons (g_methK (ks := ["index"]) C_methk_Book_right_index hr (by decide) passL (many_cons many_nil) (g_var 7) (g_kcons (g_var 10) g_knil)) g_nil)))) (x_repr hG hr (by rfl) Tx.b_repr (g_tup (g_cons (g_var 12) (g_cons (g_var 13) g_nil))))) (w_or (y_ne hr (g_methK (ks := ["index"]) C_methk_Book_left_index hr (by decide) passL (many_cons many_nil) (g_var 7) (g_kcons (g_var 10) g_knil)) (g_meth C_Book_left hr (by decide) passL (many_cons many_nil) (g_var 8) (g_cons (g_var 10) g_nil))) (w_or1 (y_ne hr (g_meth C_Book_right hr (by decide) passL (many_cons many_nil) (g_var 8) (g_cons (g_var 10) g_nil)) (g_var 13))))).pt (s_one (s_ret g_bl)) s_nil)))) (u_cons (u_if (y_ne hr (g_var 4) (g_fz (f_lst g_nil))) (u_cons (u_up (s_set (i := 14) sc_law.nd (by rfl) (by first | exact .inl rfl | exact .inr rfl) (g_call C__law_draw hr (by omega) (by rfl) passL (many_cons (many_cons many_nil)) (g_cons (g_var 1) (g_cons (x_len (by rfl) Tx.b_len (g_var 4)) g_nil))))) (u_cons (u_up (s_asg (g_ix (g_var 4) (g_var 14)) (gt_tup (by rfl) (gts_cons (gt_name (i := 11) sc_law.nd (by rfl) (by first | exact .inl rfl | exact .inr rfl)) (gts_cons (gt_name (i := 12) sc_law.nd (by rfl) (by first | exact .inl rfl | exact .inr rfl)) (gts_cons (gt_name (i := 13) sc_law.nd (by rfl) (by first | exact .inl rfl | exact .inr rfl)) gts_nil)))))) (u_cons (u_up (s_setC (i := 15) (g := gName 16) (ix := [16]) (own := [("word", 16)]) (by rfl) sc_law.nd (by rfl) (by rfl) (by rfl) (i_seq (g_var 12)) (BlkOk.of (by kernel_rfl)) (by decide) (fun _ _ _ _ _ _ => (gt_name (i := 16) sc_law.nd (by rfl) (by first | exact .inl rfl | exact .inr rfl))) (fun _ _ _ _ _ _ => ts_nil) (fun _ _ _ _ _ _ => (g_if (t_not (t_val (g_isi (g_var 16) (by rfl) Tx.b_isinstance (by rfl) Tx.b_str boot_str_))) (g_tup (g_cons (x_add g_str (g_ix (g_var 16) g_int)) g_nil)) (g_var 16))))) (u_cons (u_up (s_own (i := 17) sc_law.nd (by rfl) (by first | exact .inl rfl | exact .inr rfl) (f_lst (g_cons (g_fz (f_cat (g_fz (f_sl (g_var 4) p_none (p_some (g_var 14)))) (g_fz (f_sl (g_var 4) (p_some (x_add (g_var 14) g_int)) p_none)))) (g_cons (g_fz (f_cat (g_fz (f_cat (g_fz (f_sl (g_var 4) p_none (p_some (g_var 14)))) (g_fz (f_lst (g_cons (g_tup (g_cons g_str (g_cons (g_var 12) (g_cons (g_var 13) g_nil)))) g_nil))))) (g_fz (f_sl (g_var 4) (p_some (x_add (g_var 14) g_int)) p_none)))) (g_cons (g_fz (f_cat (g_var 4) (g_fz (f_lst (g_cons (g_tup (g_cons g_str (g_cons (g_var 12) (g_cons (g_var 13) g_nil)))) g_nil))))) g_nil)))))) (u_cons (u_up (s_if (w_and (y_ne hr (g_var 15) (g_fz (f_list (by rfl) Tx.b_list (g_cons (g_var 12) g_nil)))) (w_and1 (y_eq hr (g_fz (f_comp (g := gName 16) (ix := [16]) (own := [("word", 16)]) (by rfl) sc_law.nd (i_seq (g_var 12)) (BlkOk.of (by kernel_rfl)) (by decide) (fun _ _ _ _ _ _ => (gt_name (i := 16) sc_law.nd (by rfl) (by first | exact .inl rfl | exact .inr rfl))) (fun _ _ _ _ _ _ => (ts_one (w_and (t_not (t_val (g_isi (g_var 16) (by rfl) Tx.b_isinstance (by rfl) Tx.b_str boot_str_))) (w_and1 (y_gt (x_len (by rfl) Tx.b_len (g_ix (g_var 16) g_int)) g_int))).pt)) (fun _ _ _ _ _ _ => (g_var 16)))) (g_fz (f_lst g_nil))))).pt (s_cons (s_set (i := 18) sc_law.nd (by rfl) (by first | exact .inl rfl | exact .inr rfl) (x_tuple (by rfl) Tx.b_tuple (g_fz (f_comp (g := gName 16) (ix := [16]) (own := [("word", 16)]) (by rfl) sc_law.nd (i_seq (g_var 13)) (BlkOk.of (by kernel_rfl)) (by decide) (fun _ _ _ _ _ _ => (gt_name (i := 16) sc_law.nd (by rfl) (by first | exact .inl rfl | exact .inr rfl))) (fun _ _ _ _ _ _ => ts_nil) (fun _ _ _ _ _ _ => (g_if (t_not (t_val (g_isi (g_var 16) (by rfl) Tx.b_isinstance (by rfl) Tx.b_str boot_str_))) (g_tup (g_cons (x_add g_str (g_ix (g_var 16) g_int)) g_nil)) (g_var 16))))))) (s_one (s_app (i := 17) (by rfl) (by first | exact .inl rfl | exact .inr (.inl rfl)) (g_fz (f_cat (g_fz (f_cat (g_fz (f_sl (g_var 4) p_none (p_some (g_var 14)))) (g_fz (f_lst (g_cons (g_tup (g_cons (g_var 11) (g_cons (x_tuple (by rfl) Tx.b_tuple (g_var 15)) (g_cons (g_var 18) g_nil)))) g_nil))))) (g_fz (f_sl (g_var 4) (p_some (x_add (g_var 14) g_int)) p_none))))))) s_nil)) (u_cons (u_up (s_if (y_gt (x_len (by rfl) Tx.b_len (g_var 4)) g_int) (s_one (s_app (i := 17) (by rfl) (by first | exact .inl rfl | exact .inr (.inl rfl)) (g_fz (f_cat (g_fz (f_sl (g_var 4) (p_some g_int) p_none)) (g_fz (f_sl (g_var 4) p_none (p_some g_int))))))) s_nil)) (u_cons (u_up (s_frz (i := 17) (s_for PassesOwn.never (by rfl) (i_seq (g_var 17)) (gt_name (i := 19) sc_law.nd (by rfl) (by first | exact .inl rfl | exact .inr rfl)) (s_one (s_if (w_or (t_eqI C_Book___eq__ hr (by decide) passL (g_make C_make_Book hr (by decide) (by rfl) passL (many_cons (many_cons many_nil)) (g_cons (g_var 5) (g_cons (g_var 19) g_nil))) (g_var 7)) (w_or1 (t_not (t_neI Tx.ne_Book C_Book___eq__ hr (by decide) passL (g_make C_make_Book hr (by decide) (by rfl) passL (many_cons (many_cons many_nil)) (g_cons (g_var 5) (g_cons (g_var 19) g_nil))) (g_var 7))))).pt (s_one (s_ret g_bl)) s_nil))))) (u_mut (ks := [9, 10, 11, 12, 13, 14, 15, 16, 17, 18, 19, 20]) (i := 6) hP (by rfl) (by first | exact .inl rfl | exact .inr (.inl rfl)) (g_ix (g_ix (g_var 6) (g_var 14)) g_int) (u_one (u_up (s_if (w_or (y_ne hr (x_repr hG hr (by rfl) Tx.b_repr (g_fld "Book" (g_var 7) Tx.cl_Book Tx.na_Book_rules)) (x_repr hG hr (by rfl) Tx.b_repr (x_tuple (by rfl) Tx.b_tuple (g_var 4)))) (w_or1 (t_neI Tx.ne_Book C_Book___eq__ hr (by decide) passL (g_var 7) (g_var 8)))).pt (s_one (s_ret g_bl)) s_nil))))))))))) u_nil) (u_cons (u_up (s_set (i := 20) sc_law.nd (by rfl) (by first | exact .inl rfl | exact .inr rfl) (g_tup (g_cons (g_ix (g_var 3) g_int) (g_cons (g_fz (f_cat (g_ix (g_var 3) g_int) (g_fz (f_lst (g_cons (g_tup (g_cons g_str (g_cons (g_tup g_nil) (g_cons (g_ix (g_ix (g_var 3) g_int) g_int) g_nil)))) g_nil))))) g_nil))))) (u_one (u_up (s_if (w_or (t_eqI C_Book___eq__ hr (by decide) passL (g_make C_make_Book hr (by decide) (by rfl) passL (many_cons (many_cons many_nil)) (g_cons (g_call C__law_made hr (by omega) (by rfl) passL (many_cons many_nil) (g_cons (g_var 20) g_nil)) (g_cons (g_var 4) g_nil))) (g_var 7)) (w_or1 (t_eqI C_Book___eq__ hr (by decide) passL (g_make C_make_Book hr (by decide) (by rfl) passL (many_cons (many_cons many_nil)) (g_cons (g_call C__law_made hr (by omega) (by rfl) passL (many_cons many_nil) (g_cons (g_tup (g_cons (g_ix (g_var 3) g_int) (g_cons (g_fz (f_rev (g_ix (g_var 3) g_int))) g_nil))) g_nil)) (g_cons (g_var 4) g_nil))) (g_var 7)))).pt (s_one (s_ret g_bl)) s_nil))))))))))) (by rfl)) (u_one (u_up (s_ret g_bl))))
end
theorem disp_ok {P : Program} {w : World} {K : PySem.W.Frag} {mg : Str → Option Value} {base : Heap} {k : Nat} (C0 : CalP P w K mg base (tabOf mg) k "is_variable" 1 f_is_variable) : DispP P w K mg base (tabOf mg) k 1 disp := by
  refine ⟨fun f fm h => ?_⟩
  unfold disp at h
  by_cases e0 : f = "is_variable"
  · rw [if_pos e0] at h; cases h; subst e0
    obtain ⟨a, fd, ps, F, hb, hm, kp, ht⟩ := C0.at_
    exact ⟨fd, ps, by rw [ht]; exact F, hb, by rw [ht]; exact kp⟩
  rw [if_neg e0] at h
  cases h
set_option maxHeartbeats 4000000
theorem dr_eq : f__law_draw = drF 273123 19741 6131 53581 := rfl
theorem pick_eq : f__law_pick = pickF f__law_draw := rfl
theorem mixed_eq : f__law_mixed = mixedF f__law_draw := rfl
theorem drawOk : DrawOk f__law_draw := by
  rw [dr_eq]
  exact fun n ps g hn m h1 h2 => draw_ok (by omega) (by omega) (by omega) (by omega) g hn h1 h2
theorem pickOk {n : Nat} {ps : Pn} (g : Good n ps) (hn : n ≤ 1000000) {xs : List D} (hx : xs ≠ []) (hl : xs.length < 1073741824) : ∃ x ps', f__law_pick [.pen, .lst xs] ps = .ok x ps' ∧ x ∈ xs ∧ Good (n + 1) ps' := by
  rw [pick_eq]; exact pick_ok drawOk g hn hx hl
theorem mixedOk {n : Nat} {ps : Pn} (g : Good n ps) {xs : List D} (hl : xs.length < 1000) (hn : n + xs.length ≤ 1000000) : ∃ ys ps', f__law_mixed [.pen, .lst xs] ps = .ok (.lst ys) ps' ∧ ys.Perm xs ∧ Good (n + xs.length) ps' := by
  rw [mixed_eq]; exact mixed_ok drawOk g hl hn

def SO : List Str := ["n", "thing", "zzzzzzzz", "of"]
def NA : List Str := ["a", "b", "c", "f", "g", "h", "left", "end", "abcdefgh", "row", "x", "it", "pair"]
theorem NA_nd : NA.Nodup := by decide +kernel
theorem SO_nd : SO.Nodup := by decide +kernel
/-- the slots of _law_signs -/
abbrev E9 (a b c d e f g h : Slot) : En := [.v .pen, a, b, c, d, e, f, g, h]
theorem sg3 {n : Nat} {ps : Pn} (g : Good n ps) (hn : n + 10 ≤ 1000000) : ∃ (so : List Str) (ps' : Pn), m__law_signs_3 (E9 .un .un .un .un .un .un .un .un) ps = .nx (E9 (.v (.lst (dStrs so))) .un .un .un .un .un .un .un) ps' ∧ (∀ x ∈ so, x ∈ SO) ∧ so.Nodup ∧ so ≠ [] ∧ so.length ≤ 3 ∧ Good (n + 5) ps' := by
  obtain ⟨ys, ps1, e1, p1, g1⟩ := mixedOk g (xs := dStrs SO) (by decide) (by show n + 4 ≤ _; omega)
  obtain ⟨zs, rfl, pz⟩ := perm_inv (f := D.str) (g := unS) (fun _ => rfl) p1
  have g1' : Good (n + 4) ps1 := g1
  obtain ⟨k, ps2, e2, hk, g2⟩ := pickOk g1' (by omega) (xs := [.int 1, .int 1, .int 2, .int 3]) (by simp) (by decide)
  obtain ⟨j, rfl, hj⟩ : ∃ j : Nat, k = .int (j : Int) ∧ 1 ≤ j ∧ j ≤ 3 := by
    simp only [List.mem_cons, List.not_mem_nil, or_false] at hk
    rcases hk with rfl | rfl | rfl | rfl
    · exact ⟨1, rfl, by omega⟩
    · exact ⟨1, rfl, by omega⟩
    · exact ⟨2, rfl, by omega⟩
    · exact ⟨3, rfl, by omega⟩
  have lz : zs.length = 4 := pz.length_eq
  refine ⟨zs.take j, ps2, ?_, fun x hx => pz.mem_iff.mp (List.mem_of_mem_take hx), (pz.nodup_iff.mpr SO_nd).sublist (List.take_sublist ..), ?_, by rw [List.length_take]; omega, g2⟩
  · refine sAsg_ok (ρ1 := E9 .un .un .un .un .un .un .un .un) (d := .lst (dStrs (zs.take j))) (eFz_ok ?_) rfl
    have hc := cut_take (dStrs zs) (k := j) (by unfold dStrs; rw [List.length_map, lz]; omega)
    have ht : (dStrs zs).take j = dStrs (zs.take j) := by unfold dStrs; rw [List.map_take]
    rw [ht] at hc
    have hm : eCall f__law_mixed (eCons (eVar 0) (eCons (eFz (eLst (eCons (eC (.str "n")) (eCons (eC (.str "thing")) (eCons (eC (.str "zzzzzzzz")) (eCons (eC (.str "of")) (eNil))))))) (eNil))) (E9 .un .un .un .un .un .un .un .un) ps = .ok (.lst (dStrs zs)) (E9 .un .un .un .un .un .un .un .un) ps1 :=
      eCall_ok (eCons_ok (eVar_ok rfl) (eCons_ok (eFz_ok (eLst_ok (eCons_ok eC_ok (eCons_ok eC_ok (eCons_ok eC_ok (eCons_ok eC_ok eNil_ok)))) (szle (by decide)))) eNil_ok)) e1
    have hp : eCall f__law_pick (eCons (eVar 0) (eCons (eFz (eLst (eCons (eC (.int 1)) (eCons (eC (.int 1)) (eCons (eC (.int 2)) (eCons (eC (.int 3)) (eNil))))))) (eNil))) (E9 .un .un .un .un .un .un .un .un) ps1 = .ok (.int j) (E9 .un .un .un .un .un .un .un .un) ps2 :=
      eCall_ok (eCons_ok (eVar_ok rfl) (eCons_ok (eFz_ok (eLst_ok (eCons_ok eC_ok (eCons_ok eC_ok (eCons_ok eC_ok (eCons_ok eC_ok eNil_ok)))) (szle (by decide)))) eNil_ok)) e2
    rw [← hc]
    exact fSl_ok hm rfl (oSome_ok hp)
  · intro z
    have := congrArg List.length z
    rw [List.length_take, lz] at this
    simp at this
    omega

abbrev vS (xs : List Str) : Slot := .v (.lst (dStrs xs))
theorem sg4 {n : Nat} {ps : Pn} (g : Good n ps) (hn : n + 13 ≤ 1000000) (so : Slot) : ∃ (na : List Str) (ps' : Pn), m__law_signs_4 (E9 so .un .un .un .un .un .un .un) ps = .nx (E9 so (vS na) .un .un .un .un .un .un) ps' ∧ na.Perm NA ∧ Good (n + 13) ps' := by
  obtain ⟨ys, ps1, e1, p1, g1⟩ := mixedOk g (xs := dStrs NA) (by decide) (by show n + 13 ≤ _; omega)
  obtain ⟨zs, rfl, pz⟩ := perm_inv (f := D.str) (g := unS) (fun _ => rfl) p1
  refine ⟨zs, ps1, ?_, pz, g1⟩
  refine sAsg_ok (ρ1 := E9 so .un .un .un .un .un .un .un) (d := .lst (dStrs zs)) (eCall_ok (eCons_ok (eVar_ok rfl) (eCons_ok (eFz_ok (eLst_ok (eCons_ok eC_ok (eCons_ok eC_ok (eCons_ok eC_ok (eCons_ok eC_ok (eCons_ok eC_ok (eCons_ok eC_ok (eCons_ok eC_ok (eCons_ok eC_ok (eCons_ok eC_ok (eCons_ok eC_ok (eCons_ok eC_ok (eCons_ok eC_ok (eCons_ok eC_ok eNil_ok))))))))))))) (szle (by decide)))) eNil_ok)) e1) rfl
theorem sg5 {ps : Pn} {s0 n0 : Str} {so na : List Str} : m__law_signs_5 (E9 (vS (s0 :: so)) (vS (n0 :: na)) .un .un .un .un .un .un) ps = .nx (E9 (vS (s0 :: so)) (vS (n0 :: na)) (.ol [dRow (n0, [s0], s0)]) .un .un .un .un .un) ps := by
  have i0 : ∀ {x : Str} {xs : List Str}, idxD (.lst (dStrs (x :: xs))) (.int 0) = some (.str x) := fun {x xs} => atI_int (i := 0) rfl
  refine sOwnS_ok (ρ1 := E9 (vS (s0 :: so)) (vS (n0 :: na)) .un .un .un .un .un .un) (ds := [dRow (n0, [s0], s0)]) (eLst_ok (eCons_ok (eTup_ok (eCons_ok (eIdx_ok (eVar_ok rfl) eC_ok (by simp) i0) (eCons_ok (eTup_ok (eCons_ok (eIdx_ok (eVar_ok rfl) eC_ok (by simp) i0) eNil_ok) (szle (n := 1) (by decide))) (eCons_ok (eIdx_ok (eVar_ok rfl) eC_ok (by simp) i0) eNil_ok))) (szle (n := 3) (by decide))) eNil_ok) (szle (n := 1) (by decide))) (by show 3 < 9; decide)
def consts (na : List Str) : Nat → List Str → List Row
  | _, [] => []
  | k, s :: ss => (na.getD (1 + k) ⟨#[]⟩, [], s) :: consts na (k + 1) ss
theorem sg6_loop {na so : List Str} {ps : Pn} : ∀ (ss : List Str) (k : Nat) (acc : List Row) (a4 a5 : Slot), 1 + k + ss.length ≤ na.length → acc.length + ss.length < 900 →
    ∃ a4' a5', forL (tTupT [tName 4, tName 5]) m__law_signs_0 (enumL k (dStrs ss)) (E9 (vS so) (vS na) (.ol (acc.map dRow)) a4 a5 .un .un .un) ps = .nx (E9 (vS so) (vS na) (.ol ((acc ++ consts na k ss).map dRow)) a4' a5' .un .un .un) ps
  | [], k, acc, a4, a5, _, _ => ⟨a4, a5, by simp [consts, dStrs, enumL, forL, sNil]⟩
  | s :: ss, k, acc, a4, a5, h, h2 => by
    rw [List.length_cons] at h h2
    have hk : 1 + k < na.length := by omega
    have ek : na.getD (1 + k) ⟨#[]⟩ = na[1 + k] := by simp [List.getD_eq_getElem?_getD, hk]
    obtain ⟨a4', a5', e⟩ := sg6_loop (na := na) (so := so) (ps := ps) ss (k + 1) (acc ++ [(na.getD (1 + k) ⟨#[]⟩, [], s)]) (.v (.int k)) (.v (.str s)) (by omega) (by rw [List.length_append]; show _ + 1 + _ < 900; omega)
    refine ⟨a4', a5', ?_⟩
    have ix : idxD (.lst (dStrs na)) (.int (1 + (k : Int))) = some (.str na[1 + k]) := by
      have : (1 + (k : Int)) = ((1 + k : Nat) : Int) := by omega
      rw [this]
      exact atI_int (by unfold dStrs; rw [List.getElem?_map, List.getElem?_eq_getElem hk]; rfl)
    have b : m__law_signs_0 (E9 (vS so) (vS na) (.ol (acc.map dRow)) (.v (.int k)) (.v (.str s)) .un .un .un) ps = .nx (E9 (vS so) (vS na) (.ol (acc.map dRow ++ [dRow (na[1 + k], [], s)])) (.v (.int k)) (.v (.str s)) .un .un .un) ps :=
      sApp_ok (xs0 := acc.map dRow) (ρ1 := E9 (vS so) (vS na) (.ol (acc.map dRow)) (.v (.int k)) (.v (.str s)) .un .un .un) rfl (eTup_ok (eCons_ok (eIdx_ok (eVar_ok rfl) (eOp2_ok eC_ok (eVar_ok rfl) rfl) (by simp) ix) (eCons_ok (eTup_ok eNil_ok (szle (n := 0) (by decide))) (eCons_ok (eVar_ok rfl) eNil_ok))) (szle (n := 3) (by decide))) rfl (by rw [List.length_map]; omega)
    have t : tTupT [tName 4, tName 5] (.tup [.int k, .str s]) (E9 (vS so) (vS na) (.ol (acc.map dRow)) a4 a5 .un .un .un) = some (E9 (vS so) (vS na) (.ol (acc.map dRow)) (.v (.int k)) (.v (.str s)) .un .un .un) := rfl
    refine (forL_nx t b).trans ?_
    have e1 : (acc ++ [(na.getD (1 + k) ⟨#[]⟩, [], s)]).map dRow = acc.map dRow ++ [dRow (na[1 + k], [], s)] := by rw [List.map_append, ek]; rfl
    rw [e1] at e
    refine e.trans ?_
    rw [List.append_assoc]
    rfl

theorem wide_ok {k : D} (hk : k ∈ [D.int 0, .int 0, .int 1, .int 1, .int 2, .int 2, .int 3]) : ∃ j : Nat, k = .int (j : Int) ∧ j ≤ 3 := by
  simp only [List.mem_cons, List.not_mem_nil, or_false] at hk
  rcases hk with rfl | rfl | rfl | rfl | rfl | rfl | rfl
  · exact ⟨0, rfl, by omega⟩
  · exact ⟨0, rfl, by omega⟩
  · exact ⟨1, rfl, by omega⟩
  · exact ⟨1, rfl, by omega⟩
  · exact ⟨2, rfl, by omega⟩
  · exact ⟨2, rfl, by omega⟩
  · exact ⟨3, rfl, by omega⟩
theorem pickS {n : Nat} {ps : Pn} (g : Good n ps) (hn : n ≤ 1000000) {xs : List Str} (hx : xs ≠ []) (hl : xs.length < 1000) : ∃ x ps', f__law_pick [.pen, .lst (dStrs xs)] ps = .ok (.str x) ps' ∧ x ∈ xs ∧ Good (n + 1) ps' := by
  obtain ⟨d, ps', e, hd, g'⟩ := pickOk g hn (xs := dStrs xs) (by unfold dStrs; simpa using hx) (by unfold dStrs; rw [List.length_map]; omega)
  obtain ⟨x, hx', rfl⟩ := List.mem_map.mp hd
  exact ⟨x, ps', e, hx', g'⟩
theorem strs_of {ds : List D} {xs : List Str} (h : ∀ d ∈ ds, ∃ x ∈ xs, d = .str x) : ∃ ys : List Str, ds = dStrs ys ∧ ∀ y ∈ ys, y ∈ xs := by
  refine ⟨ds.map unS, ?_, fun y hy => ?_⟩
  · unfold dStrs
    rw [List.map_map]
    have : ∀ d ∈ ds, (D.str ∘ unS) d = d := fun d hd => by obtain ⟨x, _, rfl⟩ := h d hd; rfl
    exact (List.map_congr_left this |>.trans (List.map_id _)).symm
  · obtain ⟨d, hd, rfl⟩ := List.mem_map.mp hy
    obtain ⟨x, hx, rfl⟩ := h d hd
    exact hx
theorem sg7_step {so na : List Str} (hso : so ≠ []) (hsl : so.length < 900) {acc : List Row} (hacc : acc.length < 900) {a4 a5 a7 : Slot} {m : Str} {n : Nat} {ps : Pn} (g : Good n ps) (hn : n + 10 ≤ 1000000) :
    ∃ (r : Row) (a7' : Slot) (ps' : Pn), sSeq m__law_signs_1 m__law_signs_2 (E9 (vS so) (vS na) (.ol (acc.map dRow)) a4 a5 (.v (.str m)) a7 .un) ps = .nx (E9 (vS so) (vS na) (.ol ((acc ++ [r]).map dRow)) a4 a5 (.v (.str m)) a7' .un) ps' ∧ r.1 = m ∧ (∀ a ∈ r.2.1, a ∈ so) ∧ r.2.2 ∈ so ∧ r.2.1.length ≤ 3 ∧ Good (n + 5) ps' := by
  obtain ⟨k, ps1, e1, hk, g1⟩ := pickOk g (by omega) (xs := [D.int 0, .int 0, .int 1, .int 1, .int 2, .int 2, .int 3]) (by simp) (by show 7 < _; decide)
  obtain ⟨j, rfl, hj⟩ := wide_ok hk
  have s1 : m__law_signs_1 (E9 (vS so) (vS na) (.ol (acc.map dRow)) a4 a5 (.v (.str m)) a7 .un) ps = .nx (E9 (vS so) (vS na) (.ol (acc.map dRow)) a4 a5 (.v (.str m)) (.v (.int j)) .un) ps1 :=
    sAsg_ok (ρ1 := E9 (vS so) (vS na) (.ol (acc.map dRow)) a4 a5 (.v (.str m)) a7 .un) (d := .int j) (eCall_ok (eCons_ok (eVar_ok rfl) (eCons_ok (eFz_ok (eLst_ok (eCons_ok eC_ok (eCons_ok eC_ok (eCons_ok eC_ok (eCons_ok eC_ok (eCons_ok eC_ok (eCons_ok eC_ok (eCons_ok eC_ok eNil_ok))))))) (szle (n := 7) (by decide)))) eNil_ok)) e1) rfl
  let ρ0 : En := E9 (vS so) (vS na) (.ol (acc.map dRow)) a4 a5 (.v (.str m)) (.v (.int j)) .un
  have hpick : ∀ {k : Nat} {ps : Pn} {s8 : Slot}, Good k ps → k ≤ 1000000 → ∃ y ps', eCall f__law_pick (eCons (eVar 0) (eCons (eVar 1) (eNil))) (E9 (vS so) (vS na) (.ol (acc.map dRow)) a4 a5 (.v (.str m)) (.v (.int j)) s8) ps = .ok (.str y) (E9 (vS so) (vS na) (.ol (acc.map dRow)) a4 a5 (.v (.str m)) (.v (.int j)) s8) ps' ∧ y ∈ so ∧ Good (k + 1) ps' := fun {k ps s8} g hk => by
    obtain ⟨y, ps', e, hy, g'⟩ := pickS g hk hso (by omega)
    exact ⟨y, ps', eCall_ok (eCons_ok (eVar_ok rfl) (eCons_ok (eVar_ok rfl) eNil_ok)) e, hy, g'⟩
  obtain ⟨ds, ps2, c1, c2, c3, g2⟩ := compL_run (t := tName 8) (own := [8]) (elt := eCall f__law_pick (eCons (eVar 0) (eCons (eVar 1) (eNil)))) (ρ0 := ρ0) (fun d => ∃ x ∈ so, d = .str x) (fun n h => szl h) (rngL 0 j) [] (n + 1) ps1 g1
    (by unfold rngL; rw [List.length_map, List.length_range]; omega) (by unfold rngL; rw [List.length_map, List.length_range, List.length_nil]; omega) (fun x hx k ps gk hk => by
      obtain ⟨y, ps', e, hy, g'⟩ := hpick (s8 := .v x) gk hk
      exact ⟨_, .str y, _, ps', rfl, e, rfl, ⟨y, hy, rfl⟩, g'⟩)
  have lr : (rngL 0 j).length = j := by unfold rngL; rw [List.length_map, List.length_range]
  rw [lr] at c2 g2
  obtain ⟨ys, rfl, hys⟩ := strs_of c3
  obtain ⟨y, ps3, e3, hy, g3⟩ := hpick (s8 := .un) g2 (by omega)
  refine ⟨(m, ys, y), .v (.int j), ps3, ?_, rfl, hys, hy, by show ys.length ≤ 3; unfold dStrs at c2; rw [List.length_map] at c2; omega, g3.mono (by omega)⟩
  refine (sSeq_nx s1).trans ?_
  have hr := iRg1 (ml := eCons (eVar 7) eNil) (ρ := ρ0) (ps := ps1) (eCons_ok (eVar_ok rfl) eNil_ok) (i62_nat (n := j) (by omega))
  rw [Int.toNat_natCast] at hr
  rw [List.nil_append] at c1
  have hc : fComp (iRg (eCons (eVar 7) (eNil))) (tName 8) [8] (tYesE) (eCall f__law_pick (eCons (eVar 0) (eCons (eVar 1) (eNil)))) ρ0 ps1 = .ok (dStrs ys) ρ0 ps2 := fComp_run hr rfl c1 rfl
  have e1' : (acc ++ [(m, ys, y)]).map dRow = acc.map dRow ++ [dRow (m, ys, y)] := by rw [List.map_append]; rfl
  rw [e1']
  exact sApp_ok (xs0 := acc.map dRow) (ρ1 := ρ0) rfl (eTup_ok (eCons_ok (eVar_ok rfl) (eCons_ok (eOpN_ok (eCons_ok (eFz_ok hc) eNil_ok) rfl) (eCons_ok e3 eNil_ok))) (szle (n := 3) (by decide))) rfl (by rw [List.length_map]; omega)
theorem sg7_loop {so na : List Str} (hso : so ≠ []) (hsl : so.length < 900) {a4 a5 : Slot} : ∀ (ms : List Str) (acc : List Row) (a6 a7 : Slot) (n : Nat) (ps : Pn), acc.length + ms.length < 900 → Good n ps → n + 10 * ms.length + 10 ≤ 1000000 →
    ∃ (more : List Row) (a6' a7' : Slot) (ps' : Pn), forL (tName 6) (sSeq m__law_signs_1 m__law_signs_2) (dStrs ms) (E9 (vS so) (vS na) (.ol (acc.map dRow)) a4 a5 a6 a7 .un) ps = .nx (E9 (vS so) (vS na) (.ol ((acc ++ more).map dRow)) a4 a5 a6' a7' .un) ps' ∧ more.map (·.1) = ms ∧ (∀ r ∈ more, (∀ a ∈ r.2.1, a ∈ so) ∧ r.2.2 ∈ so ∧ r.2.1.length ≤ 3) ∧ Good (n + 5 * ms.length) ps'
  | [], acc, a6, a7, n, ps, _, g, _ => ⟨[], a6, a7, ps, by rw [List.append_nil]; rfl, rfl, by simp, g⟩
  | m :: ms, acc, a6, a7, n, ps, ha, g, hn => by
    rw [List.length_cons] at ha hn
    obtain ⟨r, a7', ps1, e1, h1, h2, h3, h4, g1⟩ := sg7_step hso hsl (na := na) (acc := acc) (by omega) (a4 := a4) (a5 := a5) (a7 := a7) (m := m) g (by omega)
    obtain ⟨more, a6'', a7'', ps', e2, p1, p2, g2⟩ := sg7_loop hso hsl (na := na) (a4 := a4) (a5 := a5) ms (acc ++ [r]) (.v (.str m)) a7' (n + 5) ps1 (by rw [List.length_append, List.length_singleton]; omega) g1 (by omega)
    refine ⟨r :: more, a6'', a7'', ps', ?_, by rw [List.map_cons, h1, p1], ?_, by rw [List.length_cons]; exact g2.mono (by omega)⟩
    · have t : tName 6 (.str m) (E9 (vS so) (vS na) (.ol (acc.map dRow)) a4 a5 a6 a7 .un) = some (E9 (vS so) (vS na) (.ol (acc.map dRow)) a4 a5 (.v (.str m)) a7 .un) := rfl
      refine (forL_nx t e1).trans (e2.trans ?_)
      rw [List.append_assoc]
      rfl
    · intro q hq
      rcases List.mem_cons.mp hq with rfl | hq
      · exact ⟨h2, h3, h4⟩
      · exact p2 q hq

theorem consts_names {na : List Str} : ∀ (ss : List Str) (k : Nat), 1 + k + ss.length ≤ na.length → (consts na k ss).map (·.1) = (na.drop (1 + k)).take ss.length
  | [], k, _ => by simp [consts]
  | s :: ss, k, h => by
    rw [List.length_cons] at h
    have hk : 1 + k < na.length := by omega
    have ek : na.getD (1 + k) ⟨#[]⟩ = na[1 + k] := by simp [List.getD_eq_getElem?_getD, hk]
    rw [List.drop_eq_getElem_cons hk, List.length_cons, List.take_succ_cons]
    show na.getD (1 + k) ⟨#[]⟩ :: (consts na (k + 1) ss).map (·.1) = _
    rw [ek, consts_names ss (k + 1) (by omega)]
    rfl
theorem consts_mem {na : List Str} : ∀ (ss : List Str) (k : Nat) (r : Row), r ∈ consts na k ss → r.2.1 = [] ∧ r.2.2 ∈ ss
  | [], _, _, h => by cases h
  | s :: ss, k, r, h => by
    rcases List.mem_cons.mp h with rfl | h
    · exact ⟨rfl, List.mem_cons_self ..⟩
    · obtain ⟨a, b⟩ := consts_mem ss (k + 1) r h
      exact ⟨a, List.mem_cons_of_mem _ b⟩
theorem consts_has {na : List Str} : ∀ (ss : List Str) (k : Nat) (x : Str), x ∈ ss → ∃ r ∈ consts na k ss, r.2 = ([], x)
  | [], _, _, h => by cases h
  | s :: ss, k, x, h => by
    rcases List.mem_cons.mp h with rfl | h
    · exact ⟨_, List.mem_cons_self .., rfl⟩
    · obtain ⟨r, hr, e⟩ := consts_has ss (k + 1) x h
      exact ⟨r, List.mem_cons_of_mem _ hr, e⟩
theorem take_split {α : Type} (xs : List α) {a b : Nat} (h : a ≤ b) : xs.take a ++ (xs.take b).drop a = xs.take b := by
  have := List.take_append_drop a (xs.take b)
  rw [List.take_take, Nat.min_eq_left h] at this
  exact this
theorem dStrs_drop_take (xs : List Str) (a b : Nat) : ((dStrs xs).take b).drop a = dStrs ((xs.take b).drop a) := by
  unfold dStrs
  rw [← List.map_take, ← List.map_drop]
theorem signs_ok {n : Nat} {ps : Pn} (g : Good n ps) (hn : n + 300 ≤ 1000000) : ∃ s ps', f__law_signs [.pen] ps = .ok (dSg s) ps' ∧ SgOk SO NA s ∧ Good (n + 200) ps' := by
  obtain ⟨so, ps1, e3, so1, so2, so3, so4, g1⟩ := sg3 g (by omega)
  obtain ⟨na, ps2, e4, pna, g2⟩ := sg4 g1 (by omega) (vS so)
  have lna : na.length = 13 := pna.length_eq
  obtain ⟨s0, so', rfl⟩ := List.exists_cons_of_ne_nil so3
  obtain ⟨n0, na', rfl⟩ := List.exists_cons_of_ne_nil (l := na) (by intro z; rw [z] at lna; cases lna)
  have e5 := sg5 (ps := ps2) (s0 := s0) (n0 := n0) (so := so') (na := na')
  generalize hso : s0 :: so' = so at *
  generalize hna : n0 :: na' = na at *
  have hso0 : so[0]? = some s0 := by rw [← hso]; rfl
  obtain ⟨a4, a5, e6⟩ := sg6_loop (na := na) (so := so) (ps := ps2) so 0 [(n0, [s0], s0)] .un .un (by omega) (by show 1 + _ < 900; omega)
  have e6' : m__law_signs_6 (E9 (vS so) (vS na) (.ol [dRow (n0, [s0], s0)]) .un .un .un .un .un) ps2 = .nx (E9 (vS so) (vS na) (.ol (([(n0, [s0], s0)] ++ consts na 0 so).map dRow)) a4 a5 .un .un .un) ps2 := by
    have hi : iEn (eCons (eVar 1) eNil) (E9 (vS so) (vS na) (.ol [dRow (n0, [s0], s0)]) .un .un .un .un .un) ps2 = .ok (enumL 0 (dStrs so)) (E9 (vS so) (vS na) (.ol [dRow (n0, [s0], s0)]) .un .un .un .un .un) ps2 := rfl
    exact (sFor_ok hi).trans e6
  -- the drawn ones
  obtain ⟨d, ps3, ed, d0, d1, g3⟩ := drawOk (n + 5 + 13) ps2 g2 (by omega) 4 (by omega) (by omega)
  obtain ⟨j, rfl⟩ := Int.eq_ofNat_of_zero_le d0
  generalize hms : (na.take (3 + so.length + j)).drop (1 + so.length) = ms
  have lms : ms.length ≤ 12 := by rw [← hms, List.length_drop, List.length_take]; omega
  have lcon : (consts na 0 so).length = so.length := by
    have := congrArg List.length (consts_names (na := na) so 0 (by omega))
    rw [List.length_map, List.length_take, List.length_drop] at this
    omega
  have lacc : ([(n0, [s0], s0)] ++ consts na 0 so : List Row).length = 1 + so.length := by rw [List.length_append, lcon]; rfl
  obtain ⟨more, a6, a7, ps4, e7, m1, m2, g4⟩ := sg7_loop (na := na) so3 (by omega) (a4 := a4) (a5 := a5) ms ([(n0, [s0], s0)] ++ consts na 0 so) .un .un (n + 5 + 13 + 1) ps3 (by rw [lacc]; omega) g3 (by omega)
  let E6 : En := E9 (vS so) (vS na) (.ol (([(n0, [s0], s0)] ++ consts na 0 so).map dRow)) a4 a5 .un .un .un
  have lso : lenD [.lst (dStrs so)] = some (.int so.length) := by show some (D.int (dStrs so).length) = _; unfold dStrs; rw [List.length_map]
  have hlen : ∀ {ps : Pn}, eOpN lenD (eCons (eVar 1) eNil) E6 ps = .ok (.int so.length) E6 ps := fun {ps} => eOpN_ok (eCons_ok (eVar_ok rfl) eNil_ok) lso
  have e7' : m__law_signs_7 E6 ps2 = .nx (E9 (vS so) (vS na) (.ol (([(n0, [s0], s0)] ++ consts na 0 so ++ more).map dRow)) a4 a5 a6 a7 .un) ps4 := by
    have hlo : oSome (eOp2 addD (eC (.int 1)) (eOpN lenD (eCons (eVar 1) eNil))) E6 ps2 = .ok (some ((1 + so.length : Nat) : Int)) E6 ps2 := by
      refine oSome_ok (eOp2_ok eC_ok hlen ?_)
      show some (D.int (1 + (so.length : Int))) = _
      congr 2
    have hhi : oSome (eOp2 addD (eOp2 addD (eC (.int 3)) (eOpN lenD (eCons (eVar 1) eNil))) (eCall f__law_draw (eCons (eVar 0) (eCons (eC (.int 4)) (eNil))))) E6 ps2 = .ok (some ((3 + so.length + j : Nat) : Int)) E6 ps3 := by
      refine oSome_ok (eOp2_ok (eOp2_ok eC_ok hlen rfl) (eCall_ok (eCons_ok (eVar_ok rfl) (eCons_ok eC_ok eNil_ok)) ed) ?_)
      show some (D.int (3 + (so.length : Int) + (j : Int))) = _
      congr 2
    have hsl := fSl_ok (m := eVar 2) (ρ := E6) (ps := ps2) (xs := dStrs na) (eVar_ok rfl) hlo hhi
    rw [cut_mid (dStrs na) (by omega) (by unfold dStrs; rw [List.length_map]; omega), dStrs_drop_take, hms] at hsl
    exact (sFor_ok (iSq_ok (eFz_ok hsl) rfl)).trans e7
  generalize hall : ([(n0, [s0], s0)] ++ consts na 0 so ++ more : List Row) = all at *
  have hacc : ([(n0, [s0], s0)] ++ consts na 0 so : List Row).map (·.1) = na.take (1 + so.length) := by
    rw [List.map_append, consts_names so 0 (by omega), ← hna, Nat.add_comm 1 so.length, List.take_succ_cons]
    rfl
  have hnames : all.map (·.1) = na.take (3 + so.length + j) := by
    rw [← hall, List.map_append, hacc, m1, ← hms]
    exact take_split na (by omega)
  have lall : all.length ≤ 13 := by
    have := congrArg List.length hnames
    rw [List.length_map, List.length_take] at this
    omega
  obtain ⟨ys, ps5, e8, p8, g5⟩ := mixedOk g4 (xs := all.map dRow) (by rw [List.length_map]; omega) (by rw [List.length_map]; omega)
  obtain ⟨zs, rfl, pz⟩ := perm_inv (f := dRow) (g := unRow) unRow_row p8
  rw [List.length_map] at g5
  refine ⟨⟨so, zs⟩, ps5, ?_, ?_, g5.mono (by omega)⟩
  · have e9 : m__law_signs_8 (E9 (vS so) (vS na) (.ol (all.map dRow)) a4 a5 a6 a7 .un) ps4 = .rt (dSg ⟨so, zs⟩) ps5 := by
      have f1 : sFrz 3 (E9 (vS so) (vS na) (.ol (all.map dRow)) a4 a5 a6 a7 .un) ps4 = .nx (E9 (vS so) (vS na) (.v (.lst (all.map dRow))) a4 a5 a6 a7 .un) ps4 := rfl
      exact (sSeq_nx f1).trans (sRet_ok (eTup_ok (eCons_ok (eVar_ok rfl) (eCons_ok (eCall_ok (eCons_ok (eVar_ok rfl) (eCons_ok (eVar_ok rfl) eNil_ok)) e8) eNil_ok)) (szle (n := 2) (by decide))))
    exact runB0_rt rfl rfl ((sSeq_nx e3).trans ((sSeq_nx e4).trans ((sSeq_nx e5).trans ((sSeq_nx e6').trans ((sSeq_nx e7').trans e9)))))
  · have hmem : ∀ r, r ∈ zs ↔ r ∈ all := fun r => pz.mem_iff
    have hin : ∀ r, r ∈ all → r = (n0, [s0], s0) ∨ r ∈ consts na 0 so ∨ r ∈ more := fun r hr => by
      rw [← hall] at hr
      simpa [List.mem_append, or_assoc] using hr
    have s0in : s0 ∈ so := by rw [← hso]; exact List.mem_cons_self ..
    refine ⟨so1, so2, so3, by show so.length ≤ 6; omega, fun r hr => ?_, ?_, by show zs.length ≤ 16; rw [pz.length_eq]; omega, ⟨(n0, [s0], s0), (hmem _).mpr (by rw [← hall]; simp), s0, rfl⟩, fun x hx => ?_⟩
    · have hr := (hmem r).mp hr
      have h1 : r.1 ∈ NA := by
        have : r.1 ∈ all.map (·.1) := List.mem_map.mpr ⟨r, hr, rfl⟩
        rw [hnames] at this
        exact pna.mem_iff.mp (List.mem_of_mem_take this)
      refine ⟨h1, ?_⟩
      rcases hin r hr with rfl | hc | hm
      · exact ⟨fun a ha => (by simp at ha; rw [ha]; exact s0in), s0in, (by show 1 ≤ 3; omega)⟩
      · obtain ⟨c1, c2⟩ := consts_mem so 0 r hc
        refine ⟨fun a ha => ?_, c2, ?_⟩
        · rw [c1] at ha; cases ha
        · rw [c1]; show 0 ≤ 3; omega
      · exact m2 r hm
    · have : (zs.map (·.1)).Perm (all.map (·.1)) := pz.map _
      rw [hnames] at this
      exact this.nodup_iff.mpr ((pna.nodup_iff.mpr NA_nd).sublist (List.take_sublist ..))
    · obtain ⟨r, hr, e⟩ := consts_has (na := na) so 0 x hx
      exact ⟨r, (hmem r).mpr (by rw [← hall]; simp [hr]), e⟩

set_option maxHeartbeats 4000000
/-! ## names -/
/-- variables' names; what they become; rules' names -/
def VN : List Str := ["x", "y", "z", "u", "v", "w", "abcdefgh", "n", "p", "q", "r", "s"]
def QN : List Str := ["qx", "qy", "qz", "qu", "qv", "qw", "qn", "qp", "qq", "qr", "qs"]
def RN : List Str := ["onea", "ra", "abcdefa", "ta", "oneb", "rb", "abcdefb", "tb", "onec", "rc", "abcdefc", "tc", "oned", "rd", "abcdefd", "td", "onee", "re", "abcdefe", "te"]
def WN : List Str := SO ++ (NA ++ (("zz" : Str) :: (VN ++ (QN ++ RN))))
def nameB (_ : Str) : Bool := true
theorem map_mem {α β : Type} {f g : α → β} {xs : List α} (h : xs.map f = xs.map g) : ∀ x ∈ xs, f x = g x := by
  induction xs with
  | nil => intro x hx; cases hx
  | cons y ys ih =>
    rw [List.map_cons, List.map_cons] at h
    injection h with h1 h2
    intro x hx
    rcases List.mem_cons.mp hx with rfl | hx
    · exact h1
    · exact ih h2 x hx
theorem is_name_ok (ps : Pn) : ∀ x ∈ WN, f_is_name [.str x] ps = .ok (.bl (nameB x)) ps := map_mem (by kernel_rfl)
/-- is it a list or a tuple -/
def lsB : D → Option Bool
  | .tup _ => some true
  | .lst _ => some true
  | .non => some false
  | .bl _ => some false
  | .int _ => some false
  | .str _ => some false
  | .dic _ _ => some false
  | _ => none
theorem isi2_ls {d : D} {b : Bool} (h : lsB d = some b) : isi2D "list" "tuple" d = some (.bl b) := by
  cases d <;> first
    | (cases h; done)
    | (cases h; kernel_rfl)
def isSD : D → Bool
  | .str _ => true
  | _ => false
theorem isi_str {d : D} {b : Bool} (h : lsB d = some b) : isiD "str" d = some (.bl (isSD d)) := by
  cases d <;> first
    | (cases h; done)
    | (cases h; kernel_rfl)
theorem is_listed_ok {d : D} {b : Bool} (h : lsB d = some b) (ps : Pn) : f_is_listed [d] ps = .ok (.bl b) ps :=
  runB0_rt rfl rfl (sRet_ok (eOp1_ok (eVar_ok rfl) (isi2_ls h)))
/-! ## Signs are made -/
theorem keys_put {acc : List (Key × D)} {k : Key} {d : D} (h : ∀ p ∈ acc, p.1 ≠ k) : putP acc k d = acc ++ [(k, d)] := by
  unfold putP
  rw [if_neg]
  intro z
  obtain ⟨p, hp, e⟩ := List.any_eq_true.mp z
  exact h p hp (of_decide_eq_true e)

theorem dcL_pure {t : TM} {own : List Nat} {test : EM Bool} {key val : EM D} {ρ0 : En} {ps : Pn} (fk : D → Key) (fv : D → D) :
    ∀ (items : List D) (acc : List (Key × D)), acc.length + items.length < 1000 → (acc.map (·.1) ++ items.map fk).Nodup →
      (∀ x ∈ items, ∃ ρ1 ρ2 ρ3 ρ4 k, t x ρ0 = some ρ1 ∧ test ρ1 ps = .ok true ρ2 ps ∧ key ρ2 ps = .ok k ρ3 ps ∧ keyOf k = some (fk x) ∧ val ρ3 ps = .ok (fv x) ρ4 ps ∧ wipeE ρ4 own = ρ0) →
      dcL t own test key val items acc ρ0 ps = .ok (acc ++ items.map fun x => (fk x, fv x)) ρ0 ps
  | [], acc, _, _, _ => by simp [dcL, pureE]
  | x :: items, acc, ha, hn, h => by
    rw [List.length_cons] at ha
    obtain ⟨ρ1, ρ2, ρ3, ρ4, k, e1, e2, e3, e4, e5, e6⟩ := h x (List.mem_cons_self ..)
    have hnew : ∀ p ∈ acc, p.1 ≠ fk x := fun p hp z => by
      rw [List.map_cons] at hn
      have := (List.nodup_append.mp hn).2.2 p.1 (List.mem_map.mpr ⟨p, hp, rfl⟩) (fk x) (List.mem_cons_self ..)
      exact this z
    show (match t x ρ0 with | none => Out.stuck | some ρ1 => _) = _
    rw [e1]; dsimp only; rw [e2]; dsimp only; rw [e3]; dsimp only; rw [e4]; dsimp only; rw [e5]; dsimp only
    rw [if_pos (szl (by omega)), e6, keys_put hnew]
    refine (dcL_pure fk fv items (acc ++ [(fk x, fv x)]) (by rw [List.length_append, List.length_singleton]; omega) ?_ fun y hy => h y (List.mem_cons_of_mem _ hy)).trans ?_
    · rw [List.map_append, List.append_assoc]
      exact hn
    · rw [List.append_assoc]; rfl
theorem eDc_run {mi : EM (List D)} {t : TM} {own : List Nat} {test : EM Bool} {key val : EM D} {ρ ρ1 ρ2 ρ3 : En} {ps ps1 ps2 : Pn} {items : List D} {acc : List (Key × D)} (h1 : mi ρ ps = .ok items ρ1 ps1) (h2 : own.all (fun i => decide (i < ρ1.length) && !isOwn (ρ1.getD i .un)) = true)
    (h3 : dcL t own test key val items [] (wipeE ρ1 own) ps1 = .ok acc ρ2 ps2) (h4 : backE ρ1 own ρ2 = ρ3) : eDc mi t own test key val ρ ps = .ok (.dic (acc.map (·.1)) (acc.map (·.2))) ρ3 ps2 := by
  unfold eDc bindE
  rw [h1]
  show (if _ then _ else _) = _
  rw [if_pos h2, h3]
  show Out.ok _ (backE ρ1 own ρ2) ps2 = _
  rw [h4]
theorem blsOf_true : ∀ (n : Nat), blsOf (List.replicate n (.bl true)) = some (List.replicate n true)
  | 0 => rfl
  | n + 1 => by rw [List.replicate_succ, List.replicate_succ]; show (blsOf _).map _ = _; rw [blsOf_true n]; rfl
theorem all_true (n : Nat) : allD [.lst (List.replicate n (.bl true))] = some (.bl true) := by
  show (blsOf _).map _ = _
  rw [blsOf_true]
  show some (D.bl _) = _
  congr 2
  induction n with
  | zero => rfl
  | succ n ih => rw [List.replicate_succ, List.all_cons, ih]; rfl
theorem filterMap_const {α β : Type} (b : β) : ∀ xs : List α, xs.filterMap (fun _ => some b) = List.replicate xs.length b
  | [] => rfl
  | x :: xs => by
    have := filterMap_const b xs
    show b :: xs.filterMap (fun _ => some b) = _
    rw [this]; rfl
theorem lst_len (xs : List D) : lenD [.lst xs] = some (.int xs.length) := rfl
theorem tup_len (xs : List D) : lenD [.tup xs] = some (.int xs.length) := rfl
theorem dStrs_len (xs : List Str) : (dStrs xs).length = xs.length := by unfold dStrs; rw [List.length_map]
theorem inr_nd {xs : List Str} (h : xs.Nodup) : ((dStrs xs).map fun d => (Sum.inr (unS d) : Key)).Nodup := by
  have : (dStrs xs).map (fun d => (Sum.inr (unS d) : Key)) = xs.map Sum.inr := by
    unfold dStrs; rw [List.map_map]; rfl
  rw [this]
  exact List.Pairwise.map _ (fun a b hab z => hab (Sum.inr.inj z)) h
theorem are_names_ok {xs : List Str} (hw : ∀ x ∈ xs, x ∈ WN ∧ nameB x = true) (hnd : xs.Nodup) {k : Nat} (hk : xs.length ≤ k) (hl : xs.length < 900) (ps : Pn) : f_are_names [.lst (dStrs xs), .int k] ps = .ok (.bl true) ps := by
  let ρ : En := [.v (.lst (dStrs xs)), .v (.int k), .un]
  have c1 : compL (tName 2) [2] tYesE (eCall f_is_name (eCons (eVar 2) eNil)) (dStrs xs) [] ρ ps = .ok ([] ++ (dStrs xs).filterMap fun _ => some (.bl true)) ρ ps := by
    refine compL_pure (fun _ => some (.bl true)) (dStrs xs) [] (by rw [dStrs_len]; show 0 + _ < 1000; omega) fun d hd => ?_
    obtain ⟨x, hx, rfl⟩ := List.mem_map.mp hd
    have e := is_name_ok ps x (hw x hx).1
    rw [(hw x hx).2] at e
    exact ⟨_, _, _, rfl, rfl, eCall_ok (eCons_ok (eVar_ok rfl) eNil_ok) e, rfl⟩
  rw [List.nil_append, filterMap_const] at c1
  have b1 : bOr (bNot (eB (eCall f_is_listed (eCons (eVar 0) (eNil))))) (bOr (eB (eOp2 gtD (eOpN lenD (eCons (eVar 0) eNil)) (eVar 1))) (bNot (eB (eOpN allD (eCons (eFz (fComp (iSq (eVar 0)) (tName 2) [2] (tYesE) (eCall f_is_name (eCons (eVar 2) (eNil))))) eNil))))) ρ ps = .ok false ρ ps := by
    refine (bOr_f (bNot_ok (b := true) (eB_ok (eCall_ok (eCons_ok (eVar_ok rfl) eNil_ok) (is_listed_ok rfl ps))))).trans ?_
    refine (bOr_f (eB_ok (b := false) (eOp2_ok (eOpN_ok (eCons_ok (eVar_ok rfl) eNil_ok) (lst_len _)) (eVar_ok rfl) ?_))).trans ?_
    · show some (D.bl (decide ((k : Int) < ((dStrs xs).length : Int)))) = _
      rw [dStrs_len, decide_eq_false (by omega)]
    · exact bNot_ok (b := true) (eB_ok (eOpN_ok (eCons_ok (eFz_ok (fComp_run (iSq_ok (eVar_ok rfl) rfl) rfl c1 rfl)) eNil_ok) (all_true _)))
  have e1 : m_are_names_1 ρ ps = .nx ρ ps := (sIf_f b1).trans rfl
  have c2 : dcL (tName 2) [2] tYesE (eVar 2) (eC (.bl true)) (dStrs xs) [] ρ ps = .ok ([] ++ (dStrs xs).map fun x => (Sum.inr (unS x), .bl true)) ρ ps := by
    refine dcL_pure (fun d => Sum.inr (unS d)) (fun _ => .bl true) (dStrs xs) [] (by rw [dStrs_len]; show 0 + _ < 1000; omega) (by rw [List.map_nil, List.nil_append]; exact inr_nd hnd) fun d hd => ?_
    obtain ⟨x, hx, rfl⟩ := List.mem_map.mp hd
    exact ⟨_, _, _, _, _, rfl, rfl, eVar_ok rfl, rfl, eC_ok, rfl⟩
  have e2 : m_are_names_2 ρ ps = .rt (.bl true) ps := by
    refine sRet_ok (eOp2_ok (eOpN_ok (eCons_ok (eVar_ok rfl) eNil_ok) (lst_len _)) (eOpN_ok (eCons_ok (eDc_run (iSq_ok (eVar_ok rfl) rfl) rfl c2 rfl) eNil_ok) rfl) ?_)
    show eqD (.int _) (.int _) = _
    simp [eqD, scD, eqv]
  exact runB0_rt rfl rfl ((sSeq_nx e1).trans e2)

set_option maxHeartbeats 4000000
theorem flat_strs (xs : List Str) : (dStrs xs).all flatC = true := by
  rw [List.all_eq_true]
  intro d hd
  obtain ⟨x, _, rfl⟩ := List.mem_map.mp hd
  rfl
theorem any_eqv (x : Str) : ∀ xs : List Str, ((dStrs xs).any fun y => eqv y (.str x)) = decide (x ∈ xs)
  | [] => by simp [dStrs]
  | y :: xs => by
    show (eqv (.str y) (.str x) || ((dStrs xs).any fun y => eqv y (.str x))) = _
    rw [any_eqv x xs]
    show ((y == x) || decide (x ∈ xs)) = _
    by_cases h : y = x
    · subst h; simp
    · have : (y == x) = false := by simpa using h
      rw [this, Bool.false_or]
      simp [List.mem_cons, Ne.symm h]
theorem in_lst (x : Str) (xs : List Str) : inD (.str x) (.lst (dStrs xs)) = some (.bl (decide (x ∈ xs))) := by
  show (inB _ _).map D.bl = _
  have : inB (.str x) (.lst (dStrs xs)) = some (decide (x ∈ xs)) := by
    show (if flatC (.str x) = true ∧ (dStrs xs).all flatC = true then some ((dStrs xs).any fun y => eqv y (.str x)) else _) = _
    rw [if_pos ⟨rfl, flat_strs xs⟩, any_eqv]
  rw [this]; rfl
theorem in_tup (x : Str) (xs : List Str) : inD (.str x) (.tup (dStrs xs)) = some (.bl (decide (x ∈ xs))) := by
  show (inB _ _).map D.bl = _
  have : inB (.str x) (.tup (dStrs xs)) = some (decide (x ∈ xs)) := by
    show (if flatC (.str x) = true ∧ (dStrs xs).all flatC = true then some ((dStrs xs).any fun y => eqv y (.str x)) else _) = _
    rw [if_pos ⟨rfl, flat_strs xs⟩, any_eqv]
  rw [this]; rfl
theorem row0 (r : Row) : idxD (dRow r) (.int 0) = some (.str r.1) := rfl
theorem row1 (r : Row) : idxD (dRow r) (.int 1) = some (.tup (dStrs r.2.1)) := rfl
theorem row2 (r : Row) : idxD (dRow r) (.int 2) = some (.str r.2.2) := rfl
theorem is_row_ok (r : Row) (ps : Pn) : f_is_row [dRow r, .int 3] ps = .ok (.bl true) ps := by
  have q : eqD (.int (3 : Nat)) (.int 3) = some (.bl true) := by kernel_rfl
  have e : m_is_row [.v (dRow r), .v (.int 3)] ps = .rt (.bl true) ps := by
    unfold m_is_row m_is_row_0
    exact sRet_ok (eAnd_go (eCall_ok (eCons_ok (eVar_ok rfl) eNil_ok) (is_listed_ok rfl ps)) (eOp2_ok (eOpN_ok (eCons_ok (eVar_ok rfl) eNil_ok) (tup_len _)) (eVar_ok rfl) q))
  exact runB0_rt rfl rfl e
theorem is_symbol_ok {r : Row} {so : List Str} (h1 : r.1 ∈ WN ∧ nameB r.1 = true) (h2 : ∀ a ∈ r.2.1, a ∈ so) (h3 : r.2.2 ∈ so) (h4 : r.2.1.length ≤ 3) (ps : Pn) : f_is_symbol [dRow r, .lst (dStrs so)] ps = .ok (.bl true) ps := by
  let ρ : En := [.v (dRow r), .v (.lst (dStrs so)), .un]
  have nm := is_name_ok ps r.1 h1.1
  rw [h1.2] at nm
  have b1 : bOr (bNot (eB (eCall f_is_row (eCons (eVar 0) (eCons (eC (.int 3)) (eNil)))))) (bOr (bNot (eB (eCall f_is_name (eCons (eIdx (eVar 0) (eC (.int 0))) (eNil))))) (bOr (bNot (eB (eCall f_is_listed (eCons (eIdx (eVar 0) (eC (.int 1))) (eNil))))) (eB (eOp2 gtD (eOpN lenD (eCons (eIdx (eVar 0) (eC (.int 1))) eNil)) (eC (.int 3)))))) ρ ps = .ok false ρ ps := by
    refine (bOr_f (bNot_ok (b := true) (eB_ok (eCall_ok (eCons_ok (eVar_ok rfl) (eCons_ok eC_ok eNil_ok)) (is_row_ok r ps))))).trans ?_
    refine (bOr_f (bNot_ok (b := true) (eB_ok (eCall_ok (eCons_ok (eIdx_ok (eVar_ok rfl) eC_ok (by unfold dRow; simp) (row0 r)) eNil_ok) nm)))).trans ?_
    refine (bOr_f (bNot_ok (b := true) (eB_ok (eCall_ok (eCons_ok (eIdx_ok (eVar_ok rfl) eC_ok (by unfold dRow; simp) (row1 r)) eNil_ok) (is_listed_ok rfl ps))))).trans ?_
    refine eB_ok (eOp2_ok (eOpN_ok (eCons_ok (eIdx_ok (eVar_ok rfl) eC_ok (by unfold dRow; simp) (row1 r)) eNil_ok) (tup_len _)) eC_ok ?_)
    show some (D.bl (decide ((3 : Int) < ((dStrs r.2.1).length : Int)))) = _
    rw [dStrs_len, decide_eq_false (by omega)]
  have e1 : m_is_symbol_1 ρ ps = .nx ρ ps := (sIf_f b1).trans rfl
  have c1 : compL (tName 2) [2] tYesE (eAnd (eOp1 (isiD "str") (eVar 2)) (eOp2 inD (eVar 2) (eVar 1))) (dStrs (r.2.1 ++ [r.2.2])) [] ρ ps = .ok ([] ++ (dStrs (r.2.1 ++ [r.2.2])).filterMap fun _ => some (.bl true)) ρ ps := by
    refine compL_pure (fun _ => some (.bl true)) _ [] (by rw [dStrs_len, List.length_append]; show 0 + (_ + 1) < 1000; omega) fun d hd => ?_
    obtain ⟨x, hx, rfl⟩ := List.mem_map.mp hd
    have hin : x ∈ so := by
      rcases List.mem_append.mp hx with h | h
      · exact h2 x h
      · rw [List.mem_singleton] at h; rw [h]; exact h3
    have e := in_lst x so
    rw [decide_eq_true hin] at e
    exact ⟨_, _, _, rfl, rfl, (eAnd_t (eOp1_ok (eVar_ok rfl) (isi_str (b := false) rfl))).trans (eOp2_ok (eVar_ok rfl) (eVar_ok rfl) e), rfl⟩
  rw [List.nil_append, filterMap_const] at c1
  have hs : eFz (eLst (eStar (eIdx (eVar 0) (eC (.int 1))) (eCons (eIdx (eVar 0) (eC (.int 2))) (eNil)))) ρ ps = .ok (.lst (dStrs (r.2.1 ++ [r.2.2]))) ρ ps := by
    have : dStrs (r.2.1 ++ [r.2.2]) = dStrs r.2.1 ++ [.str r.2.2] := by unfold dStrs; rw [List.map_append]; rfl
    rw [this]
    exact eFz_ok (eLst_ok (eStar_ok (eIdx_ok (eVar_ok rfl) eC_ok (by unfold dRow; simp) (row1 r)) rfl (eCons_ok (eIdx_ok (eVar_ok rfl) eC_ok (by unfold dRow; simp) (row2 r)) eNil_ok)) (szle (by rw [List.length_append, dStrs_len]; show _ + 1 < 1000; omega)))
  have e2 : m_is_symbol_2 ρ ps = .rt (.bl true) ps :=
    sRet_ok (eOpN_ok (eCons_ok (eFz_ok (fComp_run (iSq_ok hs rfl) rfl c1 rfl)) eNil_ok) (all_true _))
  exact runB0_rt rfl rfl ((sSeq_nx e1).trans e2)
structure RowsOk (so : List Str) (rs : List Row) : Prop where
  ok : ∀ r ∈ rs, (r.1 ∈ WN ∧ nameB r.1 = true) ∧ (∀ a ∈ r.2.1, a ∈ so) ∧ r.2.2 ∈ so ∧ r.2.1.length ≤ 3
  nd : (rs.map (·.1)).Nodup
  le : rs.length ≤ 16
  ge : 1 ≤ rs.length
theorem are_symbols_ok {so : List Str} {rs : List Row} (h : RowsOk so rs) (ps : Pn) : f_are_symbols [.lst (rs.map dRow), .lst (dStrs so)] ps = .ok (.bl true) ps := by
  have hle := h.le
  have hge := h.ge
  let ρ : En := [.v (.lst (rs.map dRow)), .v (.lst (dStrs so)), .un]
  have ln : lenD [.lst (rs.map dRow)] = some (.int rs.length) := by show some (D.int (rs.map dRow).length) = _; rw [List.length_map]
  have b1 : bOr (bNot (eB (eCall f_is_listed (eCons (eVar 0) (eNil))))) (bNot (eB (eChain leD leD (eC (.int 1)) (eOpN lenD (eCons (eVar 0) eNil)) (eC (.int 16))))) ρ ps = .ok false ρ ps := by
    refine (bOr_f (bNot_ok (b := true) (eB_ok (eCall_ok (eCons_ok (eVar_ok rfl) eNil_ok) (is_listed_ok rfl ps))))).trans ?_
    refine bNot_ok (b := true) (eB_ok ?_)
    have hl : eOpN lenD (eCons (eVar 0) eNil) ρ ps = .ok (.int rs.length) ρ ps := eOpN_ok (eCons_ok (eVar_ok rfl) eNil_ok) ln
    have l1 : leD (.int 1) (.int rs.length) = some (.bl true) := by show some (D.bl (decide _)) = _; rw [decide_eq_true (by omega)]
    have l2 : leD (.int rs.length) (.int 16) = some (.bl true) := by show some (D.bl (decide _)) = _; rw [decide_eq_true (by omega)]
    exact eChain_ok eC_ok hl l1 eC_ok l2
  have e1 : m_are_symbols_2 ρ ps = .nx ρ ps := (sIf_f b1).trans rfl
  have c1 : compL (tName 2) [2] tYesE (eCall f_is_symbol (eCons (eVar 2) (eCons (eVar 1) (eNil)))) (rs.map dRow) [] ρ ps = .ok ([] ++ (rs.map dRow).filterMap fun _ => some (.bl true)) ρ ps := by
    refine compL_pure (fun _ => some (.bl true)) _ [] (by rw [List.length_map]; show 0 + _ < 1000; omega) fun d hd => ?_
    obtain ⟨r, hr, rfl⟩ := List.mem_map.mp hd
    obtain ⟨h1, h2, h3, h4⟩ := h.ok r hr
    exact ⟨_, _, _, rfl, rfl, eCall_ok (eCons_ok (eVar_ok rfl) (eCons_ok (eVar_ok rfl) eNil_ok)) (is_symbol_ok h1 h2 h3 h4 ps), rfl⟩
  rw [List.nil_append, filterMap_const] at c1
  have e2 : m_are_symbols_3 ρ ps = .nx ρ ps :=
    (sIf_f (bNot_ok (b := true) (eB_ok (eOpN_ok (eCons_ok (eFz_ok (fComp_run (iSq_ok (eVar_ok rfl) rfl) rfl c1 rfl)) eNil_ok) (all_true _))))).trans rfl
  have c2 : compL (tName 2) [2] tYesE (eIdx (eVar 2) (eC (.int 0))) (rs.map dRow) [] ρ ps = .ok ([] ++ (rs.map dRow).filterMap fun d => some (.str (unRow d).1)) ρ ps := by
    refine compL_pure (fun d => some (.str (unRow d).1)) _ [] (by rw [List.length_map]; show 0 + _ < 1000; omega) fun d hd => ?_
    obtain ⟨r, hr, rfl⟩ := List.mem_map.mp hd
    refine ⟨_, _, _, rfl, rfl, eIdx_ok (eVar_ok rfl) eC_ok (by unfold dRow; simp) (by rw [unRow_row]; exact row0 r), rfl⟩
  have hnames : (rs.map dRow).filterMap (fun d => some (D.str (unRow d).1)) = dStrs (rs.map (·.1)) := by
    rw [List.filterMap_eq_map' (f := fun d => D.str (unRow d).1)]
    unfold dStrs
    rw [List.map_map, List.map_map]
    refine List.map_congr_left fun r _ => ?_
    show D.str (unRow (dRow r)).1 = _
    rw [unRow_row]; rfl
  rw [List.nil_append, hnames] at c2
  have e3 : m_are_symbols_4 ρ ps = .rt (.bl true) ps := by
    refine sRet_ok (eCall_ok (eCons_ok (eFz_ok (fComp_run (iSq_ok (eVar_ok rfl) rfl) rfl c2 rfl)) (eCons_ok eC_ok eNil_ok)) (are_names_ok (k := 16) (fun x hx => ?_) h.nd (by rw [List.length_map]; exact hle) (by rw [List.length_map]; omega) ps))
    obtain ⟨r, hr, rfl⟩ := List.mem_map.mp hx
    exact (h.ok r hr).1
  exact runB0_rt rfl rfl ((sSeq_nx e1).trans ((sSeq_nx e2).trans e3))

set_option maxHeartbeats 4000000
abbrev fixS : FM → FM := fun rec => runB0 1 2 (m_fixed rec)
theorem fix_str (rec : FM) (x : Str) (ps : Pn) : fixS rec [.str x] ps = .ok (.str x) ps := by
  have e1 : m_fixed_1 rec [.v (.str x), .un] ps = .nx [.v (.str x), .un] ps := sIf_F (eB_ok (eOp1_ok (eVar_ok rfl) (isi2_ls (b := false) rfl))) rfl
  have e2 : m_fixed_2 rec [.v (.str x), .un] ps = .rt (.str x) ps := sRet_ok (eVar_ok rfl)
  exact runB0_rt rfl rfl (sSeq_go e1 e2)
/-- a list or a tuple: each part fixed -/
theorem fix_seq {rec : FM} {d : D} {xs ys : List D} {ps : Pn} (hs : seqO d = some xs) (hb : lsB d = some true) (hl : xs.length < 900) (h : xs.length = ys.length) (hr : ∀ (i : Nat) x y, xs[i]? = some x → ys[i]? = some y → rec [x] ps = .ok y ps) : fixS rec [d] ps = .ok (.tup ys) ps := by
  let ρ : En := [.v d, .un]
  have c1 : ∀ (xs ys acc : List D), acc.length + xs.length < 1000 → xs.length = ys.length → (∀ (i : Nat) x y, xs[i]? = some x → ys[i]? = some y → rec [x] ps = .ok y ps) → compL (tName 1) [1] tYesE (eCall rec (eCons (eVar 1) eNil)) xs acc ρ ps = .ok (acc ++ ys) ρ ps := by
    intro xs
    induction xs with
    | nil => intro ys acc _ h _; cases ys with | nil => simp [compL, pureE] | cons => cases h
    | cons x xs ih =>
      intro ys acc ha h hr
      cases ys with
      | nil => cases h
      | cons y ys =>
        have e := hr 0 x y rfl rfl
        have t1 : tName 1 x ρ = some [.v d, .v x] := rfl
        have t2 : eCall rec (eCons (eVar 1) eNil) [.v d, .v x] ps = .ok y [.v d, .v x] ps := eCall_ok (eCons_ok (eVar_ok rfl) eNil_ok) e
        rw [List.length_cons] at ha
        have t3 : tYesE [Slot.v d, .v x] ps = .ok true [.v d, .v x] ps := rfl
        have t4 : wipeE [Slot.v d, .v x] [1] = ρ := rfl
        refine (compL_t t1 t3 t2 (by omega)).trans ?_
        rw [t4, ih ys (acc ++ [y]) (by rw [List.length_append, List.length_singleton]; omega) (by simpa using h) fun i a b ha hb => hr (i + 1) a b (by simpa using ha) (by simpa using hb), List.append_assoc]
        rfl
  have c2 := c1 xs ys [] (by show 0 + _ < 1000; omega) h hr
  have hi : iSq (eVar 0) ρ ps = .ok xs ρ ps := iSq_ok (eVar_ok rfl) hs
  have e0 : m_fixed_0 rec ρ ps = .rt (.tup ys) ps := sRet_ok (eOpN_ok (eCons_ok (eFz_ok (fComp_run hi rfl c2 rfl)) eNil_ok) rfl)
  have e1 : m_fixed_1 rec ρ ps = .rt (.tup ys) ps := sIf_T (eB_ok (eOp1_ok (eVar_ok rfl) (isi2_ls hb))) e0
  exact runB0_rt rfl rfl (sSeq_rt e1)
theorem get_strs {xs : List Str} {i : Nat} {d : D} (h : (dStrs xs)[i]? = some d) : ∃ x, d = .str x := by
  unfold dStrs at h
  rw [List.getElem?_map] at h
  cases e : xs[i]? with
  | none => rw [e] at h; cases h
  | some x => rw [e] at h; cases h; exact ⟨x, rfl⟩
theorem fix_strs (rec : FM) {d : D} {xs : List Str} (hs : seqO d = some (dStrs xs)) (hb : lsB d = some true) (hl : xs.length < 900) (ps : Pn) : fixS (fixS rec) [d] ps = .ok (.tup (dStrs xs)) ps :=
  fix_seq hs hb (by rw [dStrs_len]; exact hl) rfl fun i x y h1 h2 => by
    rw [h1] at h2; cases h2
    obtain ⟨x, rfl⟩ := get_strs h1
    exact fix_str rec x ps
theorem fix_row (rec : FM) (r : Row) (hl : r.2.1.length < 900) (ps : Pn) : fixS (fixS (fixS rec)) [dRow r] ps = .ok (dRow r) ps :=
  fix_seq (xs := [.str r.1, .tup (dStrs r.2.1), .str r.2.2]) rfl rfl (by show 3 < 900; decide) rfl fun i x y h1 h2 => by
    rw [h1] at h2; cases h2
    match i, h1 with
    | 0, h1 => cases h1; exact fix_str _ _ ps
    | 1, h1 => cases h1; exact fix_strs rec rfl rfl hl ps
    | 2, h1 => cases h1; exact fix_str _ _ ps
theorem fixed_eq : f_fixed = fixS (fixS (fixS (fixS (iterF fixS 4)))) := rfl
theorem fixed_strs {xs : List Str} (hl : xs.length < 900) (ps : Pn) : f_fixed [.lst (dStrs xs)] ps = .ok (.tup (dStrs xs)) ps := by
  rw [fixed_eq]; exact fix_strs _ rfl rfl hl ps
theorem fixed_rows {rs : List Row} (hl : rs.length < 900) (hr : ∀ r ∈ rs, r.2.1.length < 900) (ps : Pn) : f_fixed [.lst (rs.map dRow)] ps = .ok (.tup (rs.map dRow)) ps := by
  rw [fixed_eq]
  refine fix_seq rfl rfl (by rw [List.length_map]; exact hl) rfl fun i x y h1 h2 => ?_
  rw [h1] at h2; cases h2
  rw [List.getElem?_map] at h1
  cases e : rs[i]? with
  | none => rw [e] at h1; cases h1
  | some r =>
    rw [e] at h1; cases h1
    exact fix_row _ r (hr r (List.mem_of_getElem? e)) ps
/-! ## Signs(..) -/
theorem WN_so {x : Str} (h : x ∈ SO) : x ∈ WN ∧ nameB x = true := ⟨List.mem_append_left _ h, rfl⟩
theorem WN_na {x : Str} (h : x ∈ NA) : x ∈ WN ∧ nameB x = true := ⟨List.mem_append_right _ (List.mem_append_left _ h), rfl⟩
/-- signs that are let -/
structure SgG (s : Sg) : Prop where
  so : ∀ x ∈ s.sorts, x ∈ SO
  snd : s.sorts.Nodup
  sne : s.sorts ≠ []
  slen : s.sorts.length ≤ 6
  rows : RowsOk s.sorts s.syms
theorem rowsOk {s : Sg} (h : SgOk SO NA s) : RowsOk s.sorts s.syms := by
  refine ⟨fun r hr => ?_, h.nnd, h.nlen, ?_⟩
  · obtain ⟨a, b, c, d⟩ := h.nm r hr
    exact ⟨WN_na a, b, c, d⟩
  · obtain ⟨r, hr, _⟩ := h.loop
    exact List.length_pos_iff.mpr (List.ne_nil_of_mem hr)
theorem sgG {s : Sg} (h : SgOk SO NA s) : SgG s := ⟨h.so, h.snd, h.sne, by have := h.slen; omega, rowsOk h⟩
theorem made_ok {s : Sg} (h : SgG s) (ps : Pn) : f__law_made [dSg s] ps = .ok (dMade s) ps := by
  have hr := h.rows
  have hsl := h.slen
  have hnl := h.rows.le
  let ρ0 : En := [.oi "Signs" [] [], .v (.lst (dStrs s.sorts)), .v (.lst (s.syms.map dRow)), .un]
  have b1 : bOr (bNot (eB (eCall f_are_names (eCons (eVar 1) (eCons (eC (.int 6)) (eNil)))))) (eB (eOp2 eqD (eOpN lenD (eCons (eVar 1) eNil)) (eC (.int 0)))) ρ0 ps = .ok false ρ0 ps := by
    refine bOr_go (bNot_ok (b := true) (eB_ok (eCall_ok (eCons_ok (eVar_ok rfl) (eCons_ok eC_ok eNil_ok)) (are_names_ok (k := 6) (fun x hx => WN_so (h.so x hx)) h.snd hsl (by omega) ps)))) ?_
    refine eB_ok (eOp2_ok (eOpN_ok (eCons_ok (eVar_ok rfl) eNil_ok) (lst_len _)) eC_ok ?_)
    have hne : ((dStrs s.sorts).length : Int) ≠ 0 := by
      rw [dStrs_len]
      have := List.length_pos_iff.mpr h.sne
      omega
    show eqD (.int _) (.int 0) = _
    simp [eqD, scD, eqv, hne]
    intro z
    exact hne (by rw [z]; rfl)
  have e2 : m_Signs___init___2 ρ0 ps = .nx ρ0 ps := sIf_F b1 rfl
  have e3 : m_Signs___init___3 ρ0 ps = .nx ρ0 ps := sIf_F (bNot_ok (b := true) (eB_ok (eCall_ok (eCons_ok (eVar_ok rfl) (eCons_ok (eVar_ok rfl) eNil_ok)) (are_symbols_ok hr ps)))) rfl
  let ρ1 : En := [.oi "Signs" ["sorts"] [.tup (dStrs s.sorts)], .v (.lst (dStrs s.sorts)), .v (.lst (s.syms.map dRow)), .un]
  have e4 : m_Signs___init___4 ρ0 ps = .nx ρ1 ps := sFldS_ok (ρ1 := ρ0) (ns := []) (xs := []) (eCall_ok (eCons_ok (eVar_ok rfl) eNil_ok) (fixed_strs (by omega) ps)) rfl (by decide)
  let ρ2 : En := [.oi "Signs" ["sorts", "symbols"] [.tup (dStrs s.sorts), .tup (s.syms.map dRow)], .v (.lst (dStrs s.sorts)), .v (.lst (s.syms.map dRow)), .un]
  have e5 : m_Signs___init___5 ρ1 ps = .nx ρ2 ps := by
    refine (sFldS_ok (ρ1 := ρ1) (ns := ["sorts"]) (xs := [.tup (dStrs s.sorts)]) (eCall_ok (eCons_ok (eVar_ok rfl) eNil_ok) (fixed_rows (by omega) (fun r hr => by have := (h.rows.ok r hr).2.2.2; omega) ps)) rfl (by decide)).trans ?_
    kernel_rfl
  let ρ3 : En := [.oi "Signs" ["sorts", "symbols", "known"] [.tup (dStrs s.sorts), .tup (s.syms.map dRow), .dic (s.syms.map fun r => .inr r.1) (s.syms.map dRow)], .v (.lst (dStrs s.sorts)), .v (.lst (s.syms.map dRow)), .un]
  have c2 : dcL (tName 3) [3] tYesE (eIdx (eVar 3) (eC (.int 0))) (eVar 3) (s.syms.map dRow) [] ρ2 ps = .ok ([] ++ (s.syms.map dRow).map fun d => (Sum.inr (unRow d).1, d)) ρ2 ps := by
    refine dcL_pure (fun d => Sum.inr (unRow d).1) (fun d => d) _ [] (by rw [List.length_map]; show 0 + _ < 1000; omega) ?_ fun d hd => ?_
    · rw [List.map_nil, List.nil_append, List.map_map]
      have : ((fun d => (Sum.inr (unRow d).1 : Key)) ∘ dRow) = fun r : Row => Sum.inr r.1 := funext fun r => by show Sum.inr (unRow (dRow r)).1 = _; rw [unRow_row]
      rw [this]
      have h2 : s.syms.map (fun r : Row => (Sum.inr r.1 : Key)) = (s.syms.map (·.1)).map Sum.inr := by rw [List.map_map]; rfl
      rw [h2]
      exact List.Pairwise.map _ (fun a b hab z => hab (Sum.inr.inj z)) h.rows.nd
    · obtain ⟨r, hr, rfl⟩ := List.mem_map.mp hd
      exact ⟨_, _, _, _, _, rfl, rfl, eIdx_ok (eVar_ok rfl) eC_ok (by unfold dRow; simp) (row0 r), by rw [unRow_row]; rfl, eVar_ok rfl, rfl⟩
  have hk : (s.syms.map dRow).map (fun d => ((Sum.inr (unRow d).1 : Key), d)) = s.syms.map fun r => ((Sum.inr r.1 : Key), dRow r) := by
    rw [List.map_map]
    refine List.map_congr_left fun r _ => ?_
    show ((Sum.inr (unRow (dRow r)).1 : Key), dRow r) = _
    rw [unRow_row]
  rw [List.nil_append, hk] at c2
  have hd : eDc (iSq (eOfld 0 "Signs" "symbols")) (tName 3) [3] (tYesE) (eIdx (eVar 3) (eC (.int 0))) (eVar 3) ρ2 ps = .ok (.dic (s.syms.map fun r => .inr r.1) (s.syms.map dRow)) ρ2 ps := by
    have := eDc_run (ρ3 := ρ2) (iSq_ok (eOfld_ok (i := 0) (cn := "Signs") (f := "symbols") (ρ := ρ2) (ps := ps) (d := .tup (s.syms.map dRow)) rfl (by kernel_rfl)) rfl) rfl c2 rfl
    rw [List.map_map, List.map_map] at this
    exact this
  have e6 : m_Signs___init___6 ρ2 ps = .nx ρ3 ps := by
    refine (sFldS_ok (ρ1 := ρ2) (ns := ["sorts", "symbols"]) (xs := [.tup (dStrs s.sorts), .tup (s.syms.map dRow)]) hd rfl (by decide)).trans ?_
    kernel_rfl
  have hi : i_Signs [.lst (dStrs s.sorts), .lst (s.syms.map dRow)] ps = .ok ["sorts", "symbols", "known"] [.tup (dStrs s.sorts), .tup (s.syms.map dRow), .dic (s.syms.map fun r => .inr r.1) (s.syms.map dRow)] ps :=
    runI0_nx (ρ := ρ0) (ρ' := ρ3) rfl rfl (sSeq_go e2 (sSeq_go e3 (sSeq_go e4 (sSeq_go e5 e6)))) rfl
  have em : m__law_made [.v (dSg s)] ps = .rt (dMade s) ps := by
    unfold m__law_made m__law_made_0
    exact sRet_ok (eMake_ok (eCons_ok (eIdx_ok (eVar_ok rfl) eC_ok (by unfold dSg; simp) rfl) (eCons_ok (eIdx_ok (eVar_ok rfl) eC_ok (by unfold dSg; simp) rfl) eNil_ok)) hi)
  exact runB0_rt rfl rfl em

set_option maxHeartbeats 4000000
/-! signs, looked up -/
theorem look_rows (x : Str) : ∀ rs : List Row, lookD (rs.map fun r => (Sum.inr r.1 : Key)) (rs.map dRow) (.inr x) = (rs.find? fun r => r.1 == x).map dRow
  | [] => rfl
  | r :: rs => by
    show (if (Sum.inr r.1 : Key) = Sum.inr x then some (dRow r) else lookD (rs.map fun r => (Sum.inr r.1 : Key)) (rs.map dRow) (.inr x)) = _
    by_cases h : r.1 = x
    · rw [if_pos (by rw [h]), List.find?_cons_of_pos (by simpa using h)]; rfl
    · rw [if_neg (fun z => h (Sum.inr.inj z)), List.find?_cons_of_neg (by simpa using h)]
      exact look_rows x rs
def rowOf (s : Sg) (x : Str) : Option Row := s.syms.find? fun r => r.1 == x
def dKnown (s : Sg) : D := .dic (s.syms.map fun r => .inr r.1) (s.syms.map dRow)
theorem fld_known (s : Sg) : fldD "Signs" "known" (dMade s) = some (dKnown s) := by kernel_rfl
theorem fld_sorts (s : Sg) : fldD "Signs" "sorts" (dMade s) = some (.tup (dStrs s.sorts)) := by kernel_rfl
theorem din_known (s : Sg) (x : Str) (neg : Bool) : dinD neg (.str x) (dKnown s) = some (.bl (if neg = true then !(rowOf s x).isSome else (rowOf s x).isSome)) := by
  show some (D.bl (if neg then !(lookD (s.syms.map fun r => (Sum.inr r.1 : Key)) (s.syms.map dRow) (.inr x)).isSome else (lookD (s.syms.map fun r => (Sum.inr r.1 : Key)) (s.syms.map dRow) (.inr x)).isSome)) = _
  rw [look_rows]
  unfold rowOf
  cases s.syms.find? (fun r => r.1 == x) <;> rfl
theorem dget_known {s : Sg} {x : Str} {r : Row} (h : rowOf s x = some r) : dgetD (dKnown s) (.str x) = some (dRow r) := by
  show lookD (s.syms.map fun r => (Sum.inr r.1 : Key)) (s.syms.map dRow) (.inr x) = _
  rw [look_rows]
  unfold rowOf at h
  rw [h]; rfl
theorem idxE_tup {xs : List D} {i : D} : idxE (.tup xs) i = liftO (idxD (.tup xs) i) := rfl
theorem idxE_lst {xs : List D} {i : D} : idxE (.lst xs) i = liftO (idxD (.lst xs) i) := rfl
theorem idxE_row {r : Row} {i : D} : idxE (dRow r) i = liftO (idxD (dRow r) i) := rfl
theorem len_tup {xs : List D} : lenD [.tup xs] = some (.int xs.length) := rfl
theorem len_lst {xs : List D} : lenD [.lst xs] = some (.int xs.length) := rfl
theorem len_strs {xs : List Str} : (dStrs xs).length = xs.length := by unfold dStrs; rw [List.length_map]
theorem is_str {x : Str} : isiD "str" (.str x) = some (.bl true) := rfl
theorem is_str_t {xs : List D} : isiD "str" (.tup xs) = some (.bl false) := rfl
theorem is_str_l {xs : List D} : isiD "str" (.lst xs) = some (.bl false) := rfl
theorem add_int {a b : Int} : addD (.int a) (.int b) = some (.int (a + b)) := rfl
theorem sub_int {a b : Int} : subD (.int a) (.int b) = some (.int (a - b)) := rfl
theorem gt_int {a b : Int} : gtD (.int a) (.int b) = some (.bl (decide (b < a))) := rfl
theorem lt_int {a b : Int} : ltD (.int a) (.int b) = some (.bl (decide (a < b))) := rfl
theorem ge_int {a b : Int} : geD (.int a) (.int b) = some (.bl (decide (b ≤ a))) := rfl
theorem le_int {a b : Int} : leD (.int a) (.int b) = some (.bl (decide (a ≤ b))) := rfl
theorem eq_int {a b : Int} : eqD (.int a) (.int b) = some (.bl (decide (a = b))) := by
  show (if scD (.int a) (.int b) = true then some (D.bl (eqv (.int a) (.int b))) else _) = _
  rw [if_pos (show scD (.int a) (.int b) = true from rfl)]
  show some (D.bl (a == b)) = _
  congr 2
theorem eq_str {a b : Str} : eqD (.str a) (.str b) = some (.bl (a == b)) := by
  show (if scD (.str a) (.str b) = true then some (D.bl (eqv (.str a) (.str b))) else _) = _
  rw [if_pos (show scD (.str a) (.str b) = true from rfl)]; rfl
theorem ne_str {a b : Str} : neD (.str a) (.str b) = some (.bl (!(a == b))) := by
  show (if scD (.str a) (.str b) = true then some (D.bl (!eqv (.str a) (.str b))) else _) = _
  rw [if_pos (show scD (.str a) (.str b) = true from rfl)]; rfl
theorem ix_tup {xs : List D} {i : Nat} {x : D} (h : xs[i]? = some x) : idxD (.tup xs) (.int (i : Int)) = some x := atI_int h
theorem ix_lst {xs : List D} {i : Nat} {x : D} (h : xs[i]? = some x) : idxD (.lst xs) (.int (i : Int)) = some x := atI_int h
theorem cut_from (xs : List D) {k : Nat} (h : k ≤ xs.length) : cutD xs (some (k : Int)) none = xs.drop k := by
  unfold cutD
  rw [HT.sIx_none, HT.sIx_nat, Nat.min_eq_left h]
  exact List.take_of_length_le (by rw [List.length_drop]; exact Nat.le_refl _)
theorem add_tup {xs ys : List D} (h : xs.length + ys.length < 100000) : addD (.tup xs) (.tup ys) = some (.tup (xs ++ ys)) := by
  show (if xs.length + ys.length ≤ sizeLine then _ else _) = _
  rw [if_pos (by rw [sizeLine_eq]; omega)]
theorem szB {n : Nat} (h : n < 100000) : n ≤ sizeLine := by rw [sizeLine_eq]; omega
theorem szBl {n : Nat} (h : n < 100000) : n < sizeLine := by rw [sizeLine_eq]; omega
theorem okDL_of {k : Nat} : ∀ {ds : List D}, (∀ d ∈ ds, okD k d = true) → okDL k ds = true
  | [], _ => rfl
  | d :: ds, h => by rw [okDL, h d (List.mem_cons_self ..), okDL_of fun x hx => h x (List.mem_cons_of_mem _ hx)]; rfl
mutual
theorem eqv_refl : ∀ (k : Nat) (d : D), okD k d = true → eqv d d = true
  | _, .non, _ => rfl
  | _, .bl b, _ => by simp [eqv]
  | _, .int i, _ => by simp [eqv]
  | _, .str s, _ => by simp [eqv]
  | 0, .tup xs, h => by cases h
  | k + 1, .tup xs, h => eqvL_refl k xs h
  | 0, .lst xs, h => by cases h
  | k + 1, .lst xs, h => eqvL_refl k xs h
  | 0, .dic _ _, h => by cases h
  | k + 1, .dic _ _, h => by cases h
  | 0, .ins _ _ _, h => by cases h
  | k + 1, .ins _ _ _, h => by cases h
  | 0, .fn _, h => by cases h
  | k + 1, .fn _, h => by cases h
  | 0, .pen, h => by cases h
  | k + 1, .pen, h => by cases h
theorem eqvL_refl : ∀ (k : Nat) (ds : List D), okDL k ds = true → eqvL ds ds = true
  | _, [], _ => rfl
  | k, d :: ds, h => by
    rw [okDL, Bool.and_eq_true] at h
    rw [eqvL, eqv_refl k d h.1, eqvL_refl k ds h.2]; rfl
end
theorem ne_refl {d : D} (h : okD 60 d = true) : neD d d = some (.bl false) := by
  unfold neD
  rw [eqv_refl 60 d h]
  by_cases z : scD d d = true
  · rw [if_pos z]; rfl
  · rw [if_neg z, if_pos ⟨h, h⟩]; rfl
theorem eq_refl' {d : D} (h : okD 60 d = true) : eqD d d = some (.bl true) := by
  unfold eqD
  rw [eqv_refl 60 d h]
  by_cases z : scD d d = true
  · rw [if_pos z]
  · rw [if_neg z, if_pos ⟨h, h⟩]
theorem ok_tup {xs : List D} (h : ∀ x ∈ xs, okD 59 x = true) : okD 60 (.tup xs) = true := okDL_of h
theorem ok_lst {xs : List D} (h : ∀ x ∈ xs, okD 59 x = true) : okD 60 (.lst xs) = true := okDL_of h

set_option maxHeartbeats 4000000
def dOpt : Option Str → D
  | none => .non
  | some x => .str x
def okSort (h : Option Str) (x : Str) : Bool := match h with
  | none => true
  | some y => x == y
theorem eMeth_ok {cn m : Str} {f : FM} {o : EM D} {ml : EM (List D)} {ρ ρ1 ρ2 : En} {ps ps1 ps2 ps3 : Pn} {ns : List Str} {xs ds : List D} {d : D} (h1 : o ρ ps = .ok (.ins cn ns xs) ρ1 ps1) (hm : m ∉ ns) (h2 : ml ρ1 ps1 = .ok ds ρ2 ps2) (h3 : f (.ins cn ns xs :: ds) ps2 = .ok d ps3) : eMeth cn m f o ml ρ ps = .ok d ρ2 ps3 := by
  unfold eMeth bindE
  rw [h1]; dsimp only; rw [if_pos ⟨rfl, hm⟩, h2]; dsimp only
  unfold callE
  rw [h3]
theorem need_ok {s : Sg} {x : Str} {r : Row} (h : rowOf s x = some r) (ps : Pn) : f_Signs_need_symbol [dMade s, .str x] ps = .ok .non ps := by
  have e : m_Signs_need_symbol [.v (dMade s), .v (.str x)] ps = .nx [.v (dMade s), .v (.str x)] ps := by
    unfold m_Signs_need_symbol m_Signs_need_symbol_1
    refine sIf_F (bOr_go (bNot_ok (b := true) (eB_ok (eOp1_ok (eVar_ok rfl) (isi_str (b := false) rfl)))) (eB_ok (b := false) (eOp2_ok (eVar_ok rfl) (eOp1_ok (eVar_ok rfl) (fld_known s)) ?_))) rfl
    rw [din_known, h]; rfl
  exact runB0_nx rfl rfl e
theorem need_meth {s : Sg} {x : Str} {r : Row} (h : rowOf s x = some r) {ρ : En} {i j : Nat} (hi : ρ[i]? = some (.v (dMade s))) (hj : ρ[j]? = some (.v (.str x))) (ps : Pn) : eMeth "Signs" "need_symbol" f_Signs_need_symbol (eVar i) (eCons (eVar j) eNil) ρ ps = .ok .non ρ ps :=
  eMeth_ok (eVar_ok hi) (by decide +kernel) (eCons_ok (eVar_ok hj) eNil_ok) (need_ok h ps)
theorem sort_of_ok {s : Sg} {x : Str} {r : Row} (h : rowOf s x = some r) (ps : Pn) : f_Signs_sort_of [dMade s, .str x] ps = .ok (.str r.2.2) ps := by
  have e1 : m_Signs_sort_of_0 [.v (dMade s), .v (.str x)] ps = .nx [.v (dMade s), .v (.str x)] ps := sDrop_ok (need_meth h rfl rfl ps)
  have e2 : m_Signs_sort_of_1 [.v (dMade s), .v (.str x)] ps = .rt (.str r.2.2) ps := sRet_ok (eIdx_ok (eOp2_ok (eOp1_ok (eVar_ok rfl) (fld_known s)) (eVar_ok rfl) (dget_known h)) eC_ok (by unfold dRow; simp) (row2 r))
  exact runB0_rt rfl rfl (sSeq_go e1 e2)
theorem arguments_ok {s : Sg} {x : Str} {r : Row} (h : rowOf s x = some r) (ps : Pn) : f_Signs_arguments [dMade s, .str x] ps = .ok (.tup (dStrs r.2.1)) ps := by
  have e1 : m_Signs_arguments_0 [.v (dMade s), .v (.str x)] ps = .nx [.v (dMade s), .v (.str x)] ps := sDrop_ok (need_meth h rfl rfl ps)
  have e2 : m_Signs_arguments_1 [.v (dMade s), .v (.str x)] ps = .rt (.tup (dStrs r.2.1)) ps := sRet_ok (eIdx_ok (eOp2_ok (eOp1_ok (eVar_ok rfl) (fld_known s)) (eVar_ok rfl) (dget_known h)) eC_ok (by unfold dRow; simp) (row1 r))
  exact runB0_rt rfl rfl (sSeq_go e1 e2)
theorem eLoc_ok {i : Nat} {dp : Disp} {ml : EM (List D)} {ρ ρ1 : En} {ps ps1 ps2 : Pn} {f : Str} {fm : FM} {ds : List D} {d : D} (h : ρ[i]? = some (.v (.fn f))) (hd : dp f = some fm) (h1 : ml ρ ps = .ok ds ρ1 ps1) (h2 : fm ds ps1 = .ok d ps2) : eLoc i dp ml ρ ps = .ok d ρ1 ps2 := by
  unfold eLoc
  rw [h]; dsimp only; rw [hd]; dsimp only
  unfold bindE
  rw [h1]; dsimp only
  unfold callE
  rw [h2]
/-- sort is None or its == sort -/
theorem sort_test {ρ : En} {ps : Pn} {e : EM D} {a : Str} {h : Option Str} {i : Nat} (he : e ρ ps = .ok (.str a) ρ ps) (hi : ρ[i]? = some (.v (dOpt h))) : eOr (eOp2 isD (eVar i) (eC .non)) (eOp2 eqD e (eVar i)) ρ ps = .ok (.bl (okSort h a)) ρ ps := by
  cases h with
  | none => exact eOr_t (eOp2_ok (eVar_ok hi) eC_ok rfl)
  | some y => exact eOr_go (eOp2_ok (eVar_ok hi) eC_ok rfl) (eOp2_ok he (eVar_ok hi) (eq_str))
def dSt (st : List (Option Str)) : List D := st.reverse.map dOpt
def stOk (st : List (Option Str)) : Prop := ∀ h ∈ st, ∀ x, h = some x → x ∈ WN
theorem okS_WN : ∀ x ∈ WN, okS x = true := by decide +kernel
theorem ok_dSt {st : List (Option Str)} (h : stOk st) : okD 60 (.lst (dSt st)) = true := by
  show okD (59 + 1) (.lst _) = true
  rw [okD]
  refine okDL_of fun d hd => ?_
  obtain ⟨o, ho, rfl⟩ := List.mem_map.mp hd
  cases o with
  | none => show okD 59 .non = true; simp [okD]
  | some x =>
    have := okS_WN x (h (some x) (List.mem_reverse.mp ho) x rfl)
    show okD 59 (.str x) = true
    simp [okD, this]
theorem eq_empty {xs : List D} (h : okD 60 (.lst xs) = true) : eqD (.lst xs) (.lst []) = some (.bl xs.isEmpty) := by
  have h2 : okD 60 (.lst []) = true := by simp [okD, okDL]
  unfold eqD
  rw [if_neg (show ¬ scD (.lst xs) (.lst []) = true by simp [scD]), if_pos ⟨h, h2⟩]
  cases xs <;> simp [eqv, eqvL]
theorem ne_empty {xs : List D} (h : okD 60 (.lst xs) = true) : neD (.lst xs) (.lst []) = some (.bl (!xs.isEmpty)) := by
  have h2 : okD 60 (.lst []) = true := by simp [okD, okDL]
  unfold neD
  rw [if_neg (show ¬ scD (.lst xs) (.lst []) = true by simp [scD]), if_pos ⟨h, h2⟩]
  cases xs <;> simp [eqv, eqvL]
theorem dSt_cons (h : Option Str) (st : List (Option Str)) : dSt (h :: st) = dSt st ++ [dOpt h] := by
  unfold dSt; rw [List.reverse_cons, List.map_append]; rfl
theorem dSt_app (as : List Str) (st : List (Option Str)) : dSt (as.map some ++ st) = dSt st ++ (dStrs as).reverse := by
  unfold dSt dStrs
  rw [List.reverse_append, List.map_append, ← List.map_reverse, ← List.map_reverse, List.map_map]
  rfl
theorem dSt_len (st : List (Option Str)) : (dSt st).length = st.length := by unfold dSt; rw [List.length_map, List.length_reverse]
theorem dSt_empty (st : List (Option Str)) : (dSt st).isEmpty = st.isEmpty := by
  cases st with
  | nil => rfl
  | cons h st => rw [dSt_cons]; cases dSt st <;> rfl
theorem bView_ok {is : List Nat} {m : EM Bool} {ρ ρ1 : En} {ps ps1 : Pn} {b : Bool} (h1 : (frzL is ρ).all (fun s => !isOwn s) = true) (h2 : m (frzL is ρ) ps = .ok b ρ1 ps1) : bView is m ρ ps = .ok b ρ ps1 := by
  unfold bView; rw [if_pos h1, h2]
theorem eView_ok {is : List Nat} {m : EM D} {ρ ρ1 : En} {ps ps1 : Pn} {b : D} (h1 : (frzL is ρ).all (fun s => !isOwn s) = true) (h2 : m (frzL is ρ) ps = .ok b ρ1 ps1) (hf : flatC b = true) : eView is m ρ ps = .ok b ρ ps1 := by
  unfold eView; rw [if_pos h1, h2]; dsimp only; rw [if_pos hf]
theorem ePop_ok {i : Nat} {ρ : En} {ps : Pn} {xs : List D} {d : D} (h : ρ[i]? = some (.ol (xs ++ [d]))) : ePop i ρ ps = .ok d (ρ.set i (.ol xs)) ps := by
  unfold ePop
  rw [h]; dsimp only
  have e : (xs ++ [d])[(xs ++ [d]).length - 1]? = some d := by simp
  rw [e]; dsimp only
  rw [List.dropLast_concat]
theorem sExt_ok {i : Nat} {m : EM D} {ρ ρ1 : En} {ps ps1 : Pn} {xs0 xs ys : List D} (h0 : ρ[i]? = some (.ol xs0)) (h : m ρ ps = .ok (.lst ys) ρ1 ps1) (h1 : ρ1[i]? = some (.ol xs)) (hz : xs.length + ys.length < 100000) : sExt i m ρ ps = .nx (ρ1.set i (.ol (xs ++ ys))) ps1 := by
  unfold sExt isOl sBind
  rw [h0]; dsimp only; rw [if_pos rfl, h]; dsimp only; rw [h1]; dsimp only; rw [if_pos (szB hz)]
/-! patterns: words, variables; as tuples or as lists -/
inductive PW where
  | w (x : Str) | v (x : Str)
deriving DecidableEq
/-- a list or a tuple -/
def sq (b : Bool) (xs : List D) : D := if b then .lst xs else .tup xs
def dW (b : Bool) : PW → D
  | .w x => .str x
  | .v x => sq b [.str x]
theorem seq_sq (b : Bool) (xs : List D) : seqO (sq b xs) = some xs := by cases b <;> rfl
theorem ls_sq (b : Bool) (xs : List D) : lsB (sq b xs) = some true := by cases b <;> rfl
theorem len_sq (b : Bool) (xs : List D) : lenD [sq b xs] = some (.int xs.length) := by cases b <;> rfl
theorem ix_sq (b : Bool) {xs : List D} {i : Nat} {d : D} (h : xs[i]? = some d) : idxD (sq b xs) (.int (i : Int)) = some d := by cases b <;> exact atI_int h
theorem ix0_sq (b : Bool) {x : D} {xs : List D} : idxD (sq b (x :: xs)) (.int 0) = some x := ix_sq b (i := 0) rfl
theorem ix1_sq (b : Bool) {x y : D} {xs : List D} : idxD (sq b (x :: y :: xs)) (.int 1) = some y := ix_sq b (i := 1) rfl
theorem ix2_sq (b : Bool) {x y z : D} {xs : List D} : idxD (sq b (x :: y :: z :: xs)) (.int 2) = some z := ix_sq b (i := 2) rfl
theorem sq_pen (b : Bool) (xs : List D) : sq b xs ≠ .pen := by cases b <;> (intro z; cases z)
theorem str_sq (b : Bool) (xs : List D) : isiD "str" (sq b xs) = some (.bl false) := by cases b <;> rfl
theorem idxE_sq (b : Bool) {xs : List D} {i : D} : idxE (sq b xs) i = liftO (idxD (sq b xs) i) := by cases b <;> rfl
theorem is_listed_sq (b : Bool) (xs : List D) (ps : Pn) : f_is_listed [sq b xs] ps = .ok (.bl true) ps := is_listed_ok (ls_sq b xs) ps
theorem is_variable_ok (b : Bool) {x : Str} (h : x ∈ WN) (ps : Pn) : f_is_variable [sq b [.str x]] ps = .ok (.bl true) ps := by
  refine runB0_rt rfl rfl ?_
  refine sRet_ok (eAnd_go (eCall_ok (eCons_ok (eVar_ok rfl) eNil_ok) (is_listed_sq b _ ps)) (eAnd_go (eOp2_ok (eOpN_ok (eCons_ok (eVar_ok rfl) eNil_ok) (len_sq b _)) eC_ok ?_) (eCall_ok (eCons_ok (eIdx_ok (eVar_ok rfl) eC_ok (sq_pen b _) (ix0_sq b)) eNil_ok) (is_name_ok ps x h))))
  show eqD (.int 1) (.int 1) = _
  rw [eq_int]; rfl
theorem fits_w {s : Sg} {x : Str} {r : Row} (hr : rowOf s x = some r) (h : Option Str) (ps : Pn) : f_fits [dMade s, .str x, dOpt h, .fn "is_variable"] ps = .ok (.bl (okSort h r.2.2)) ps := by
  let ρ : En := [.v (dMade s), .v (.str x), .v (dOpt h), .v (.fn "is_variable")]
  suffices hh : m_fits ρ ps = .rt (.bl (okSort h r.2.2)) ps from runB0_rt rfl rfl hh
  have e0 : m_fits_0 ρ ps = .rt (.bl (okSort h r.2.2)) ps := by
    refine sRet_ok (eAnd_go (eOp2_ok (eVar_ok rfl) (eOp1_ok (eVar_ok rfl) (fld_known s)) (by rw [din_known, hr]; rfl)) (sort_test ?_ rfl))
    exact eMeth_ok (eVar_ok rfl) (by decide +kernel) (eCons_ok (eVar_ok rfl) eNil_ok) (sort_of_ok hr ps)
  exact sSeq_rt (sIf_T (eB_ok (eOp1_ok (eVar_ok rfl) is_str)) e0)
theorem fits_v {s : Sg} {x : Str} (hx : x ∈ WN) (b : Bool) (d : D) (ps : Pn) : f_fits [dMade s, sq b [.str x], d, .fn "is_variable"] ps = .ok (.bl true) ps := by
  let ρ : En := [.v (dMade s), .v (sq b [.str x]), .v d, .v (.fn "is_variable")]
  suffices hh : m_fits ρ ps = .rt (.bl true) ps from runB0_rt rfl rfl hh
  have e2 : m_fits_2 ρ ps = .nx ρ ps := sIf_F (eB_ok (eOp1_ok (eVar_ok rfl) (str_sq b _))) rfl
  have e3 : m_fits_3 ρ ps = .nx ρ ps := sIf_F (bNot_ok (b := true) (eB_ok (eLoc_ok (f := "is_variable") rfl rfl (eCons_ok (eVar_ok rfl) eNil_ok) (is_variable_ok b hx ps)))) rfl
  refine sSeq_go e2 (sSeq_go e3 (sRet_ok (eOr_t (eOp2_ok (eOpN_ok (eCons_ok (eVar_ok rfl) eNil_ok) (len_sq b _)) eC_ok ?_))))
  show eqD (.int 1) (.int 1) = _
  rw [eq_int]; rfl
/-- the words are one whole pattern for what is wanted -/
def gd (s : Sg) : List PW → List (Option Str) → Prop
  | [], st => st = []
  | .w x :: ws, h :: st => ∃ r, rowOf s x = some r ∧ okSort h r.2.2 = true ∧ gd s ws (r.2.1.map some ++ st)
  | .v x :: ws, _ :: st => x ∈ WN ∧ gd s ws st
  | _ :: _, [] => False
theorem gd_len {s : Sg} : ∀ {ws : List PW} {st : List (Option Str)}, gd s ws st → st.length ≤ ws.length
  | [], st, h => by rw [show st = [] from h]; exact Nat.le_refl _
  | .w x :: ws, h :: st, ⟨r, _, _, g⟩ => by
    have := gd_len g
    rw [List.length_append, List.length_map] at this
    rw [List.length_cons, List.length_cons]; omega
  | .v x :: ws, h :: st, ⟨_, g⟩ => by
    have := gd_len g
    rw [List.length_cons, List.length_cons]; omega
theorem row_ok {s : Sg} (hs : SgG s) {x : Str} {r : Row} (hr : rowOf s x = some r) : r.1 = x ∧ r.1 ∈ WN ∧ (∀ a ∈ r.2.1, a ∈ s.sorts) ∧ r.2.2 ∈ s.sorts ∧ r.2.1.length ≤ 3 := by
  have hm := List.mem_of_find?_eq_some hr
  have hx := List.find?_some hr
  obtain ⟨a, b, c, d⟩ := hs.rows.ok r hm
  exact ⟨by simpa using hx, a.1, b, c, d⟩
theorem so_WN {s : Sg} (hs : SgG s) {x : Str} (h : x ∈ s.sorts) : x ∈ WN := (WN_so (hs.so x h)).1
theorem stOk_step {s : Sg} (hs : SgG s) {x : Str} {r : Row} (hr : rowOf s x = some r) {h : Option Str} {st : List (Option Str)} (k : stOk (h :: st)) : stOk (r.2.1.map some ++ st) := fun o ho x e => by
  rcases List.mem_append.mp ho with ho | ho
  · obtain ⟨a, ha, rfl⟩ := List.mem_map.mp ho
    cases e
    exact so_WN hs ((row_ok hs hr).2.2.1 _ ha)
  · exact k o (List.mem_cons_of_mem _ ho) x e
theorem empty_view {ρ : En} {i : Nat} {st : List (Option Str)} {ps : Pn} (hk : stOk st) (h0 : frzL [i] ρ = ρ.set i (.v (.lst (dSt st)))) (h1 : (frzL [i] ρ).all (fun s => !isOwn s) = true) (hi : (ρ.set i (.v (.lst (dSt st))))[i]? = some (.v (.lst (dSt st)))) : bView [i] (eB (eOp2 eqD (eVar i) (eFz (eLst (eNil))))) ρ ps = .ok st.isEmpty ρ ps := by
  refine bView_ok h1 (ρ1 := frzL [i] ρ) (eB_ok (eOp2_ok (eVar_ok (by rw [h0]; exact hi)) (eFz_ok (eLst_ok eNil_ok (Nat.zero_le _))) ?_))
  rw [eq_empty (ok_dSt hk), dSt_empty]
abbrev T6 (s : Sg) (v so : D) (st : List (Option Str)) (w : Slot) : En := [.v (dMade s), .v v, .v so, .v (.fn "is_variable"), .ol (dSt st), w]
theorem told_loop {s : Sg} (hs : SgG s) (b : Bool) {v so : D} : ∀ (ws : List PW) (st : List (Option Str)) (w0 : Slot) (ps : Pn), isOwn w0 = false → stOk st → gd s ws st → ws.length < 90000 →
    ∃ w', isOwn w' = false ∧ forL (tName 5) (sSeq m_is_told_3 m_is_told_4) (ws.map (dW b)) (T6 s v so st w0) ps = .nx (T6 s v so [] w') ps
  | [], st, w0, ps, h0, hk, g, _ => by rw [show st = [] from g]; exact ⟨w0, h0, rfl⟩
  | .w x :: ws, h :: st, w0, ps, h0, hk, ⟨r, hr, ho, g⟩, hl => by
    rw [List.length_cons] at hl
    have hv : bView [4] (eB (eOp2 eqD (eVar 4) (eFz (eLst (eNil))))) (T6 s v so (h :: st) (.v (.str x))) ps = .ok false (T6 s v so (h :: st) (.v (.str x))) ps := empty_view (st := h :: st) hk rfl (by simp [frzL, frzS]) rfl
    have hp : ePop 4 (T6 s v so (h :: st) (.v (.str x))) ps = .ok (dOpt h) (T6 s v so st (.v (.str x))) ps := ePop_ok (i := 4) (ρ := T6 s v so (h :: st) (.v (.str x))) (by show some (PL.Slot.ol (dSt (h :: st))) = _; rw [dSt_cons])
    have hf : eCall f_fits (eCons (eVar 0) (eCons (eVar 5) (eCons (ePop 4) (eCons (eVar 3) (eNil))))) (T6 s v so (h :: st) (.v (.str x))) ps = .ok (.bl true) (T6 s v so st (.v (.str x))) ps := by
      have := fits_w hr h ps
      rw [ho] at this
      exact eCall_ok (eCons_ok (eVar_ok rfl) (eCons_ok (eVar_ok rfl) (eCons_ok hp (eCons_ok (eVar_ok rfl) eNil_ok)))) this
    have e3 : m_is_told_3 (T6 s v so (h :: st) (.v (.str x))) ps = .nx (T6 s v so st (.v (.str x))) ps := sIf_F (bOr_go hv (bNot_ok (b := true) (eB_ok hf))) rfl
    have hm : eMeth "Signs" "arguments" f_Signs_arguments (eVar 0) (eCons (eVar 5) (eNil)) (T6 s v so st (.v (.str x))) ps = .ok (.tup (dStrs r.2.1)) (T6 s v so st (.v (.str x))) ps :=
      eMeth_ok (eVar_ok rfl) (by decide +kernel) (eCons_ok (eVar_ok rfl) eNil_ok) (arguments_ok hr ps)
    have hg := gd_len g
    rw [List.length_append, List.length_map] at hg
    have e4 : m_is_told_4 (T6 s v so st (.v (.str x))) ps = .nx (T6 s v so (r.2.1.map some ++ st) (.v (.str x))) ps := by
      refine sIf_T (eB_ok (eOp1_ok (eVar_ok rfl) is_str)) ?_
      refine (sExt_ok (i := 4) (ρ1 := T6 s v so st (.v (.str x))) (xs0 := dSt st) (xs := dSt st) (ys := (dStrs r.2.1).reverse) rfl (eFz_ok (fRev_ok (eFz_ok (fList_ok hm rfl)))) rfl ?_).trans ?_
      · rw [dSt_len, List.length_reverse, dStrs_len]; omega
      · rw [← dSt_app]; rfl
    obtain ⟨w', h1, e5⟩ := told_loop hs b (v := v) (so := so) ws (r.2.1.map some ++ st) (.v (.str x)) ps rfl (stOk_step hs hr hk) g (by omega)
    exact ⟨w', h1, (forL_nx (t := tName 5) (x := dW b (.w x)) rfl (sSeq_go e3 e4)).trans e5⟩
  | .v x :: ws, h :: st, w0, ps, h0, hk, ⟨hx, g⟩, hl => by
    rw [List.length_cons] at hl
    have hv : bView [4] (eB (eOp2 eqD (eVar 4) (eFz (eLst (eNil))))) (T6 s v so (h :: st) (.v (sq b [.str x]))) ps = .ok false (T6 s v so (h :: st) (.v (sq b [.str x]))) ps := empty_view (st := h :: st) hk rfl (by simp [frzL, frzS]) rfl
    have hp : ePop 4 (T6 s v so (h :: st) (.v (sq b [.str x]))) ps = .ok (dOpt h) (T6 s v so st (.v (sq b [.str x]))) ps := ePop_ok (i := 4) (ρ := T6 s v so (h :: st) (.v (sq b [.str x]))) (by show some (PL.Slot.ol (dSt (h :: st))) = _; rw [dSt_cons])
    have hf : eCall f_fits (eCons (eVar 0) (eCons (eVar 5) (eCons (ePop 4) (eCons (eVar 3) (eNil))))) (T6 s v so (h :: st) (.v (sq b [.str x]))) ps = .ok (.bl true) (T6 s v so st (.v (sq b [.str x]))) ps :=
      eCall_ok (eCons_ok (eVar_ok rfl) (eCons_ok (eVar_ok rfl) (eCons_ok hp (eCons_ok (eVar_ok rfl) eNil_ok)))) (fits_v hx b (dOpt h) ps)
    have e3 : m_is_told_3 (T6 s v so (h :: st) (.v (sq b [.str x]))) ps = .nx (T6 s v so st (.v (sq b [.str x]))) ps := sIf_F (bOr_go hv (bNot_ok (b := true) (eB_ok hf))) rfl
    have e4 : m_is_told_4 (T6 s v so st (.v (sq b [.str x]))) ps = .nx (T6 s v so st (.v (sq b [.str x]))) ps := sIf_F (eB_ok (eOp1_ok (eVar_ok rfl) (str_sq b _))) rfl
    obtain ⟨w', h1, e5⟩ := told_loop hs b (v := v) (so := so) ws st (.v (sq b [.str x])) ps rfl (fun o ho => hk o (List.mem_cons_of_mem _ ho)) g (by omega)
    exact ⟨w', h1, (forL_nx (t := tName 5) (x := dW b (.v x)) rfl (sSeq_go e3 e4)).trans e5⟩
def dP (b : Bool) (p : List PW) : D := sq b (p.map (dW b))
theorem pattern_ok {s : Sg} (hs : SgG s) (b : Bool) {p : List PW} (g : gd s p [none]) (hl : p.length < 2000) (ps : Pn) : f_is_pattern [dMade s, dP b p] ps = .ok (.bl true) ps := by
  have told : f_is_told [dMade s, dP b p, .non, .fn "is_variable"] ps = .ok (.bl true) ps := by
    let ρ0 : En := [.v (dMade s), .v (dP b p), .v .non, .v (.fn "is_variable"), .un, .un]
    have e5 : m_is_told_5 ρ0 ps = .nx ρ0 ps := sIf_F (bNot_ok (b := true) (eB_ok (eCall_ok (eCons_ok (eVar_ok rfl) eNil_ok) (is_listed_sq b _ ps)))) rfl
    have e6 : m_is_told_6 ρ0 ps = .nx (T6 s (dP b p) .non [none] .un) ps := sOwnS_ok (ρ1 := ρ0) (ds := [dOpt none]) (eLst_ok (eCons_ok (eVar_ok rfl) eNil_ok) (szB (by show 1 < _; decide))) (by show 4 < 6; decide)
    have hi : iSq (eVar 1) (T6 s (dP b p) .non [none] .un) ps = .ok (p.map (dW b)) (T6 s (dP b p) .non [none] .un) ps := iSq_ok (eVar_ok rfl) (seq_sq b _)
    obtain ⟨w', h1, e⟩ := told_loop hs b (v := dP b p) (so := .non) p [none] .un ps rfl (fun o ho x e => by rw [List.mem_singleton] at ho; subst ho; cases e) g (by omega)
    have e7 : m_is_told_7 (T6 s (dP b p) .non [none] .un) ps = .nx (T6 s (dP b p) .non [] w') ps := (sFor_ok hi).trans e
    have hne : 0 < p.length := gd_len g
    have hv : eView [4] (eOp2 eqD (eVar 4) (eFz (eLst (eNil)))) (T6 s (dP b p) .non [] w') ps = .ok (.bl true) (T6 s (dP b p) .non [] w') ps := by
      refine eView_ok (by simp [frzL, frzS, h1]) (ρ1 := frzL [4] (T6 s (dP b p) .non [] w')) (eOp2_ok (x := .lst (dSt [])) (eVar_ok rfl) (eFz_ok (eLst_ok eNil_ok (Nat.zero_le _))) ?_) rfl
      rw [eq_empty (ok_dSt (fun _ h => by cases h))]; rfl
    refine runB0_rt (ρ := ρ0) rfl rfl (sSeq_go e5 (sSeq_go e6 (sSeq_go e7 (sRet_ok (eAnd_go hv (eOp2_ok (eOpN_ok (eCons_ok (eVar_ok rfl) eNil_ok) (len_sq b _)) eC_ok ?_))))))
    show some (D.bl (decide _)) = _
    rw [decide_eq_true (by rw [List.length_map]; omega)]
  exact runB0_rt rfl rfl (sRet_ok (eCall_ok (eCons_ok (eVar_ok rfl) (eCons_ok (eVar_ok rfl) (eCons_ok eC_ok (eCons_ok eC_ok eNil_ok)))) told))

set_option maxHeartbeats 4000000
theorem compL_map {α : Type} {t : TM} {own : List Nat} {test : EM Bool} {elt : EM D} {ρ0 : En} {ps : Pn} (g : α → D) (f : α → Option D) :
    ∀ (zs : List α) (acc : List D), acc.length + zs.length < 1000 → (∀ z ∈ zs, StepC t own test elt ρ0 ps (g z) (f z)) → compL t own test elt (zs.map g) acc ρ0 ps = .ok (acc ++ zs.filterMap f) ρ0 ps
  | [], acc, _, _ => by simp [compL, pureE]
  | x :: items, acc, ha, h => by
    rw [List.length_cons] at ha
    have hx := h x (List.mem_cons_self ..)
    have hr : ∀ y ∈ items, StepC t own test elt ρ0 ps (g y) (f y) := fun y hy => h y (List.mem_cons_of_mem _ hy)
    show (match t (g x) ρ0 with | none => Out.stuck | some ρ1 => _) = _
    cases e : f x with
    | none =>
      rw [e] at hx
      obtain ⟨ρ1, ρ2, e1, e2, e3⟩ := hx
      rw [e1]; dsimp only; rw [e2]; dsimp only
      rw [e3, compL_map g f items acc (by omega) hr, List.filterMap_cons_none e]
    | some d =>
      rw [e] at hx
      obtain ⟨ρ1, ρ2, ρ3, e1, e2, e3, e4⟩ := hx
      rw [e1]; dsimp only; rw [e2]; dsimp only; rw [e3]; dsimp only
      rw [if_pos (szl (by omega)), e4, compL_map g f items (acc ++ [d]) (by rw [List.length_append, List.length_singleton]; omega) hr, List.filterMap_cons_some e, List.append_assoc]
      rfl
/-- a block in which nothing is drawn, run -/
theorem fComp_map {α : Type} {mi : EM (List D)} {t : TM} {own : List Nat} {test : EM Bool} {elt : EM D} {ρ ρ3 : En} {ps : Pn} (g : α → D) (f : α → Option D) (zs : List α) (hz : zs.length < 1000) (h1 : mi ρ ps = .ok (zs.map g) ρ ps) (h2 : own.all (fun i => decide (i < ρ.length) && !isOwn (ρ.getD i .un)) = true)
    (h : ∀ z ∈ zs, StepC t own test elt (wipeE ρ own) ps (g z) (f z)) (h4 : backE ρ own (wipeE ρ own) = ρ3) : fComp mi t own test elt ρ ps = .ok (zs.filterMap f) ρ3 ps := by
  have := compL_map g f zs [] (by simpa using hz) h
  rw [List.nil_append] at this
  exact fComp_run h1 h2 this h4
def varN : PW → Option Str
  | .w _ => none
  | .v x => some x
/-- its variables -/
def vars (p : List PW) : List Str := p.filterMap varN
theorem map_filterMap {α β γ : Type} (f : α → Option β) (g : β → γ) : ∀ xs : List α, (xs.filterMap f).map g = xs.filterMap fun x => (f x).map g
  | [] => rfl
  | x :: xs => by
    cases e : f x with
    | none => rw [List.filterMap_cons_none e, List.filterMap_cons_none (by rw [e]; rfl), map_filterMap f g xs]
    | some y => rw [List.filterMap_cons_some e, List.filterMap_cons_some (b := g y) (by rw [e]; rfl), List.map_cons, map_filterMap f g xs]
theorem variables_ok (b : Bool) {p : List PW} (hl : p.length < 900) (ps : Pn) : f_variables_of [dP b p] ps = .ok (.lst (dStrs (vars p))) ps := by
  refine runB0_rt (ρ := [.v (dP b p), .un]) rfl rfl (sRet_ok (ρ1 := [.v (dP b p), .un]) (eFz_ok ?_))
  have e : dStrs (vars p) = p.filterMap fun w => (varN w).map D.str := map_filterMap _ _ _
  rw [e]
  refine fComp_map (dW b) _ p (by omega) (iSq_ok (eVar_ok rfl) (seq_sq b _)) (by rfl) (fun w hw => ?_) rfl
  cases w with
  | w x => exact ⟨_, _, rfl, bNot_ok (b := true) (eB_ok (eOp1_ok (eVar_ok rfl) is_str)), rfl⟩
  | v x => exact ⟨_, _, _, rfl, bNot_ok (b := false) (eB_ok (eOp1_ok (eVar_ok rfl) (str_sq b _))), eIdx_ok (eVar_ok rfl) eC_ok (sq_pen b _) (ix0_sq b), rfl⟩
/-- the sorts of its variables, as they stand -/
def ss (s : Sg) : List PW → List (Option Str) → List (Str × Option Str)
  | .w x :: ws, _ :: st => match rowOf s x with
    | some r => ss s ws (r.2.1.map some ++ st)
    | none => []
  | .v x :: ws, h :: st => (x, h) :: ss s ws st
  | _, _ => []
theorem ss_vars {s : Sg} : ∀ {p : List PW} {st : List (Option Str)}, gd s p st → (ss s p st).map (·.1) = vars p
  | [], st, _ => rfl
  | .w x :: ws, h :: st, ⟨r, hr, _, g⟩ => by
    have : ss s (.w x :: ws) (h :: st) = ss s ws (r.2.1.map some ++ st) := by
      show (match rowOf s x with | some r => ss s ws (r.2.1.map some ++ st) | none => []) = _
      rw [hr]
    rw [this]
    exact ss_vars g
  | .v x :: ws, h :: st, ⟨_, g⟩ => by
    show x :: (ss s ws st).map (·.1) = _
    rw [ss_vars g]; rfl
abbrev Acc := List (Str × Option Str)
def kAcc (l : Acc) : List Key := l.map fun q => .inr q.1
def xAcc (l : Acc) : List D := l.map fun q => dOpt q.2
theorem zipA (l : Acc) : (kAcc l).zip (xAcc l) = l.map fun q => ((Sum.inr q.1 : Key), dOpt q.2) := by
  induction l with
  | nil => rfl
  | cons a r ih => exact congrArg (((Sum.inr a.1 : Key), dOpt a.2) :: ·) ih
theorem putA {l : Acc} {x : Str} {h : Option Str} (hx : x ∉ l.map (·.1)) : putP ((kAcc l).zip (xAcc l)) (.inr x) (dOpt h) = (l ++ [(x, h)]).map fun q => ((Sum.inr q.1 : Key), dOpt q.2) := by
  rw [zipA, keys_put, List.map_append]
  · rfl
  · intro p hp z
    obtain ⟨q, hq, rfl⟩ := List.mem_map.mp hp
    exact hx (List.mem_map.mpr ⟨q, hq, Sum.inr.inj z⟩)
theorem keyA (l : Acc) : (l.map fun q => ((Sum.inr q.1 : Key), dOpt q.2)).map (·.1) = kAcc l := by unfold kAcc; rw [List.map_map]; rfl
theorem valA (l : Acc) : (l.map fun q => ((Sum.inr q.1 : Key), dOpt q.2)).map (·.2) = xAcc l := by unfold xAcc; rw [List.map_map]; rfl
abbrev U6 (s : Sg) (v : D) (acc : Acc) (st : List (Option Str)) (w k : Slot) : En := [.v (dMade s), .v v, .od (kAcc acc) (xAcc acc), .ol (dSt st), w, k]
theorem sorts_loop {s : Sg} (hs : SgG s) (b : Bool) {v : D} : ∀ (ws : List PW) (st : List (Option Str)) (acc : Acc) (w0 k0 : Slot) (ps : Pn), gd s ws st → (acc.map (·.1) ++ vars ws).Nodup → acc.length + ws.length < 900 →
    ∃ w' k', forL (tName 4) (sSeq m_sorts_in_2 m_sorts_in_3) (ws.map (dW b)) (U6 s v acc st w0 k0) ps = .nx (U6 s v (acc ++ ss s ws st) [] w' k') ps
  | [], st, acc, w0, k0, ps, g, _, _ => by rw [show st = [] from g]; exact ⟨w0, k0, by show PL.SOut.nx _ _ = .nx (U6 s v (acc ++ []) [] w0 k0) ps; rw [List.append_nil]⟩
  | .w x :: ws, h :: st, acc, w0, k0, ps, ⟨r, hr, ho, g⟩, hn, hl => by
    rw [List.length_cons] at hl
    have hg := gd_len g
    rw [List.length_append, List.length_map] at hg
    have hp : ePop 3 (U6 s v acc (h :: st) (.v (.str x)) k0) ps = .ok (dOpt h) (U6 s v acc st (.v (.str x)) k0) ps := ePop_ok (i := 3) (ρ := U6 s v acc (h :: st) (.v (.str x)) k0) (by show some (PL.Slot.ol (dSt (h :: st))) = _; rw [dSt_cons])
    have e2 : m_sorts_in_2 (U6 s v acc (h :: st) (.v (.str x)) k0) ps = .nx (U6 s v acc st (.v (.str x)) (.v (dOpt h))) ps := sAsg_ok hp rfl
    have hm : eMeth "Signs" "arguments" f_Signs_arguments (eVar 0) (eCons (eVar 4) (eNil)) (U6 s v acc st (.v (.str x)) (.v (dOpt h))) ps = .ok (.tup (dStrs r.2.1)) (U6 s v acc st (.v (.str x)) (.v (dOpt h))) ps :=
      eMeth_ok (eVar_ok rfl) (by decide +kernel) (eCons_ok (eVar_ok rfl) eNil_ok) (arguments_ok hr ps)
    have e3 : m_sorts_in_3 (U6 s v acc st (.v (.str x)) (.v (dOpt h))) ps = .nx (U6 s v acc (r.2.1.map some ++ st) (.v (.str x)) (.v (dOpt h))) ps := by
      refine sIf_T (eB_ok (eOp1_ok (eVar_ok rfl) is_str)) ?_
      refine (sExt_ok (i := 3) (ρ1 := U6 s v acc st (.v (.str x)) (.v (dOpt h))) (xs0 := dSt st) (xs := dSt st) (ys := (dStrs r.2.1).reverse) rfl (eFz_ok (fRev_ok (eFz_ok (fList_ok hm rfl)))) rfl ?_).trans ?_
      · rw [dSt_len, List.length_reverse, dStrs_len]; omega
      · rw [← dSt_app]; rfl
    obtain ⟨w', k', e5⟩ := sorts_loop hs b (v := v) ws (r.2.1.map some ++ st) acc (.v (.str x)) (.v (dOpt h)) ps g hn (by omega)
    refine ⟨w', k', ((forL_nx (t := tName 4) (x := dW b (.w x)) rfl (sSeq_go e2 e3)).trans e5).trans ?_⟩
    have : ss s (.w x :: ws) (h :: st) = ss s ws (r.2.1.map some ++ st) := by
      show (match rowOf s x with | some r => ss s ws (r.2.1.map some ++ st) | none => []) = _
      rw [hr]
    rw [this]
  | .v x :: ws, h :: st, acc, w0, k0, ps, ⟨hx, g⟩, hn, hl => by
    rw [List.length_cons] at hl
    have hn' : (acc.map (·.1) ++ x :: vars ws).Nodup := hn
    have hp : ePop 3 (U6 s v acc (h :: st) (.v (sq b [.str x])) k0) ps = .ok (dOpt h) (U6 s v acc st (.v (sq b [.str x])) k0) ps := ePop_ok (i := 3) (ρ := U6 s v acc (h :: st) (.v (sq b [.str x])) k0) (by show some (PL.Slot.ol (dSt (h :: st))) = _; rw [dSt_cons])
    have e2 : m_sorts_in_2 (U6 s v acc (h :: st) (.v (sq b [.str x])) k0) ps = .nx (U6 s v acc st (.v (sq b [.str x])) (.v (dOpt h))) ps := sAsg_ok hp rfl
    have hx' : x ∉ acc.map (·.1) := fun z => (List.nodup_append.mp hn').2.2 x z x (List.mem_cons_self ..) rfl
    have e3 : m_sorts_in_3 (U6 s v acc st (.v (sq b [.str x])) (.v (dOpt h))) ps = .nx (U6 s v (acc ++ [(x, h)]) st (.v (sq b [.str x])) (.v (dOpt h))) ps := by
      refine sIf_F (eB_ok (eOp1_ok (eVar_ok rfl) (str_sq b _))) ?_
      have kk : eIdx (eVar 4) (eC (.int 0)) (U6 s v acc st (.v (sq b [.str x])) (.v (dOpt h))) ps = .ok (.str x) (U6 s v acc st (.v (sq b [.str x])) (.v (dOpt h))) ps := eIdx_ok (eVar_ok rfl) eC_ok (sq_pen b _) (ix0_sq b)
      have vv : eVar 5 (U6 s v acc st (.v (sq b [.str x])) (.v (dOpt h))) ps = .ok (dOpt h) (U6 s v acc st (.v (sq b [.str x])) (.v (dOpt h))) ps := eVar_ok rfl
      unfold m_sorts_in_1 sPut
      rw [if_pos (by rfl)]
      unfold sPutD sBind
      rw [vv]; dsimp only; rw [kk]; dsimp only
      show (if (kAcc acc).length < 100000 ∧ (kAcc acc).length = (xAcc acc).length then _ else _) = _
      rw [if_pos ⟨by unfold kAcc; rw [List.length_map]; omega, by unfold kAcc xAcc; rw [List.length_map, List.length_map]⟩, putA hx', keyA, valA]
      rfl
    obtain ⟨w', k', e5⟩ := sorts_loop hs b (v := v) ws st (acc ++ [(x, h)]) (.v (sq b [.str x])) (.v (dOpt h)) ps g (by rw [List.map_append, List.append_assoc]; exact hn') (by rw [List.length_append]; show _ + 1 + _ < _; omega)
    refine ⟨w', k', ((forL_nx (t := tName 4) (x := dW b (.v x)) rfl (sSeq_go e2 e3)).trans e5).trans ?_⟩
    rw [List.append_assoc]; rfl
def dAcc (l : Acc) : D := .dic (kAcc l) (xAcc l)
theorem sorts_ok {s : Sg} (hs : SgG s) (b : Bool) {p : List PW} (g : gd s p [none]) (hn : (vars p).Nodup) (hl : p.length < 800) (ps : Pn) : f_sorts_in [dMade s, dP b p] ps = .ok (dAcc (ss s p [none])) ps := by
  let ρ0 : En := [.v (dMade s), .v (dP b p), .un, .un, .un, .un]
  have e4 : m_sorts_in_4 ρ0 ps = .nx (U6 s (dP b p) [] [none] .un .un) ps := by rfl
  obtain ⟨w', k', e⟩ := sorts_loop hs b (v := dP b p) p [none] [] .un .un ps g hn (by show 0 + _ < _; omega)
  have e5 : m_sorts_in_5 (U6 s (dP b p) [] [none] .un .un) ps = .nx (U6 s (dP b p) (ss s p [none]) [] w' k') ps := (sFor_ok (iSq_ok (eVar_ok rfl) (seq_sq b _))).trans e
  exact runB0_rt (ρ := ρ0) rfl rfl (sSeq_go e4 (sSeq_go e5 (sSeq_go (ρ' := [.v (dMade s), .v (dP b p), .v (dAcc (ss s p [none])), .ol (dSt []), w', k']) rfl (sRet_ok (eVar_ok rfl)))))
theorem look_acc {x : Str} {h : Option Str} : ∀ {l : Acc}, (l.map (·.1)).Nodup → (x, h) ∈ l → lookD (kAcc l) (xAcc l) (.inr x) = some (dOpt h)
  | [], _, hm => by cases hm
  | q :: l, hn, hm => by
    rw [List.map_cons, List.nodup_cons] at hn
    show (if (Sum.inr q.1 : Key) = .inr x then some (dOpt q.2) else lookD (kAcc l) (xAcc l) (.inr x)) = _
    rcases List.mem_cons.mp hm with rfl | hm
    · rw [if_pos rfl]
    · rw [if_neg (fun z => hn.1 (List.mem_map.mpr ⟨(x, h), hm, (Sum.inr.inj z).symm⟩))]
      exact look_acc hn.2 hm

set_option maxHeartbeats 4000000
/-! a rule's parts -/
structure Rul where
  name : Str
  left : List PW
  right : List PW
deriving DecidableEq
def dR (b : Bool) (r : Rul) : D := sq b [.str r.name, dP b r.left, dP b r.right]
theorem nin_lst (x : Str) (xs : List Str) : ninD (.str x) (.lst (dStrs xs)) = some (.bl (!decide (x ∈ xs))) := by
  have h := in_lst x xs
  unfold inD at h
  unfold ninD
  cases e : inB (.str x) (.lst (dStrs xs)) with
  | none => rw [e] at h; cases h
  | some q =>
    rw [e] at h
    have : q = decide (x ∈ xs) := by
      have := Option.some.inj h
      injection this
    rw [this]; rfl
/-! flat -/
def flatW (s : Sg) : PW → Prop
  | .w x => ∃ r, rowOf s x = some r ∧ r.2.1 = []
  | .v _ => True
theorem arity_flat {s : Sg} (b : Bool) {w : PW} (h : flatW s w) (ps : Pn) : f_arity [dMade s, dW b w] ps = .ok (.int 0) ps := by
  cases w with
  | w x =>
    obtain ⟨r, hr, ha⟩ := h
    refine runB0_rt (ρ := [.v (dMade s), .v (.str x)]) rfl rfl (sRet_ok (eIf_T (eB_ok (eOp1_ok (eVar_ok rfl) is_str)) (eOpN_ok (eCons_ok (eIdx_ok (eOp2_ok (eOp1_ok (eVar_ok rfl) (fld_known s)) (eVar_ok rfl) (dget_known hr)) eC_ok (by unfold dRow; simp) (row1 r)) eNil_ok) ?_)))
    rw [ha]; rfl
  | v x => exact runB0_rt (ρ := [.v (dMade s), .v (sq b [.str x])]) rfl rfl (sRet_ok (eIf_F (eB_ok (eOp1_ok (eVar_ok rfl) (str_sq b _))) eC_ok))
theorem is_flat_ok {s : Sg} (b : Bool) {w : PW} {ws : List PW} (h : ∀ w ∈ ws, flatW s w) (hl : ws.length < 900) (ps : Pn) : f_is_flat [dMade s, dP b (w :: ws)] ps = .ok (.bl true) ps := by
  let ρ : En := [.v (dMade s), .v (dP b (w :: ws)), .un]
  have hs : eSl (eVar 1) (oSome (eC (.int 1))) oNone ρ ps = .ok (sq b (ws.map (dW b))) ρ ps := by
    have c : cutD ((w :: ws).map (dW b)) (some ((1 : Nat) : Int)) none = ws.map (dW b) := cut_from _ (by rw [List.length_map, List.length_cons]; omega)
    unfold eSl bindE
    rw [eVar_ok (d := dP b (w :: ws)) rfl]; dsimp only
    rw [show oSome (eC (.int 1)) ρ ps = .ok (some ((1 : Nat) : Int)) ρ ps from rfl]
    show liftO (slD (some ((1 : Nat) : Int)) none (sq b ((w :: ws).map (dW b)))) ρ ps = _
    cases b <;> (show liftO (some _) ρ ps = _; rw [c]; rfl)
  have hc : fComp (iSq (eSl (eVar 1) (oSome (eC (.int 1))) oNone)) (tName 2) [2] tYesE (eOp2 eqD (eCall f_arity (eCons (eVar 0) (eCons (eVar 2) (eNil)))) (eC (.int 0))) ρ ps = .ok (ws.filterMap fun _ => some (.bl true)) ρ ps := by
    refine fComp_map (dW b) _ ws (by omega) (iSq_ok hs (seq_sq b _)) (by rfl) (fun w hw => ?_) rfl
    refine ⟨_, _, _, rfl, rfl, eOp2_ok (eCall_ok (eCons_ok (eVar_ok rfl) (eCons_ok (eVar_ok rfl) eNil_ok)) (arity_flat b (h w hw) ps)) eC_ok (z := .bl true) ?_, rfl⟩
    rw [eq_int]; rfl
  rw [filterMap_const] at hc
  exact runB0_rt (ρ := ρ) rfl rfl (sRet_ok (eOpN_ok (eCons_ok (eFz_ok hc) eNil_ok) (all_true _)))
/-! sorts -/
theorem ss_some {s : Sg} : ∀ {ws : List PW} {st : List (Option Str)}, (∀ h ∈ st, ∃ x, h = some x) → ∀ q ∈ ss s ws st, ∃ x, q.2 = some x
  | [], st, _, q, hq => by cases hq
  | .w x :: ws, [], _, q, hq => by cases hq
  | .v x :: ws, [], _, q, hq => by cases hq
  | .w x :: ws, h :: st, hs, q, hq => by
    have hq' : q ∈ (match rowOf s x with | some r => ss s ws (r.2.1.map some ++ st) | none => []) := hq
    cases hr : rowOf s x with
    | none => rw [hr] at hq'; cases hq'
    | some r =>
      rw [hr] at hq'
      refine ss_some (fun h' hh => ?_) q hq'
      rcases List.mem_append.mp hh with hh | hh
      · obtain ⟨a, _, rfl⟩ := List.mem_map.mp hh; exact ⟨a, rfl⟩
      · exact hs h' (List.mem_cons_of_mem _ hh)
  | .v x :: ws, h :: st, hs, q, hq => by
    rcases List.mem_cons.mp hq with rfl | hq
    · exact hs h (List.mem_cons_self ..)
    · exact ss_some (fun h' hh => hs h' (List.mem_cons_of_mem _ hh)) q hq
/-- a pattern that begins with a symbol: the rest behind its arguments -/
theorem gd_head {s : Sg} {f : Str} {ws : List PW} (g : gd s (.w f :: ws) [none]) : ∃ r, rowOf s f = some r ∧ gd s ws (r.2.1.map some) ∧ ss s (.w f :: ws) [none] = ss s ws (r.2.1.map some) := by
  obtain ⟨r, hr, _, g⟩ := g
  rw [List.append_nil] at g
  refine ⟨r, hr, g, ?_⟩
  show (match rowOf s f with | some r => ss s ws (r.2.1.map some ++ []) | none => []) = _
  rw [hr]
  show ss s ws (r.2.1.map some ++ []) = _
  rw [List.append_nil]
def sortP (s : Sg) (l r : List PW) : Prop := match l, r with
  | .w f :: _, .w g :: _ => (∃ rf rg, rowOf s f = some rf ∧ rowOf s g = some rg ∧ rg.2.2 = rf.2.2) ∧ ∀ q ∈ ss s r [none], q ∈ ss s l [none]
  | .w f :: _, .v x :: _ => ∃ rf, rowOf s f = some rf ∧ (x, some rf.2.2) ∈ ss s l [none]
  | _, _ => False
theorem dEq_all {ka : List Key} {xa : List D} {kb : List Key} {xb : List D} : ∀ {ks : List Key}, (∀ k ∈ ks, ∃ a, lookD ka xa k = some (.str a) ∧ lookD kb xb k = some (.str a)) → dEq ka xa kb xb ks = some (List.replicate ks.length true)
  | [], _ => rfl
  | k :: ks, h => by
    obtain ⟨a, h1, h2⟩ := h k (List.mem_cons_self ..)
    simp only [dEq, h1, h2, isSt, Bool.and_self, if_true]
    rw [dEq_all fun k hk => h k (List.mem_cons_of_mem _ hk)]
    simp [eqv, List.replicate_succ]
theorem sort_reason_ok {s : Sg} (hs : SgG s) (b : Bool) {l r : List PW} (gl : gd s l [none]) (gr : gd s r [none]) (nl : (vars l).Nodup) (nr : (vars r).Nodup) (hl : l.length < 800) (hr : r.length < 800) (hp : sortP s l r) (ps : Pn) :
    f_sort_reason [dMade s, dP b l, dP b r] ps = .ok (.bl true) ps := by
  match l, r, gl, gr, nl, nr, hl, hr, hp with
  | .w f :: l, .v x :: r, gl, gr, nl, nr, hl, hr, ⟨rf, hf, hx⟩ =>
    let ρ0 : En := [.v (dMade s), .v (dP b (.w f :: l)), .v (dP b (.v x :: r)), .un, .un, .un]
    let ρ1 : En := [.v (dMade s), .v (dP b (.w f :: l)), .v (dP b (.v x :: r)), .v (dAcc (ss s (.w f :: l) [none])), .un, .un]
    let ρ2 : En := [.v (dMade s), .v (dP b (.w f :: l)), .v (dP b (.v x :: r)), .v (dAcc (ss s (.w f :: l) [none])), .v (dAcc (ss s (.v x :: r) [none])), .un]
    have e2 : m_sort_reason_2 ρ0 ps = .nx ρ1 ps := sAsg_ok (eCall_ok (eCons_ok (eVar_ok rfl) (eCons_ok (eVar_ok rfl) eNil_ok)) (sorts_ok hs b gl nl hl ps)) rfl
    have e3 : m_sort_reason_3 ρ1 ps = .nx ρ2 ps := sAsg_ok (eCall_ok (eCons_ok (eVar_ok rfl) (eCons_ok (eVar_ok rfl) eNil_ok)) (sorts_ok hs b gr nr hr ps)) rfl
    refine runB0_rt (ρ := ρ0) rfl rfl (sSeq_go e2 (sSeq_go e3 ?_))
    have lk := look_acc (by rw [ss_vars gl]; exact nl) hx
    have w0 : eIdx (eVar 2) (eC (.int 0)) ρ2 ps = .ok (sq b [.str x]) ρ2 ps := eIdx_ok (eVar_ok rfl) eC_ok (sq_pen b _) (ix0_sq b)
    have so : eMeth "Signs" "sort_of" f_Signs_sort_of (eVar 0) (eCons (eIdx (eVar 1) (eC (.int 0))) (eNil)) ρ2 ps = .ok (.str rf.2.2) ρ2 ps :=
      eMeth_ok (eVar_ok rfl) (by decide +kernel) (eCons_ok (eIdx_ok (eVar_ok rfl) eC_ok (sq_pen b _) (ix0_sq b)) eNil_ok) (sort_of_ok hf ps)
    refine sSeq_rt (sIf_T (bNot_ok (b := false) (eB_ok (eOp1_ok w0 (str_sq b _)))) (sRet_ok (eOp2_ok (eOp2_ok (eVar_ok rfl) (eIdx_ok w0 eC_ok (sq_pen b _) (ix0_sq b)) (z := .str rf.2.2) lk) so ?_)))
    rw [eq_str, beq_self_eq_true]
  | .w f :: l, .w g :: r, gl, gr, nl, nr, hl, hr, ⟨⟨rf, rg, hf, hg, hs2⟩, hq⟩ =>
    let ρ0 : En := [.v (dMade s), .v (dP b (.w f :: l)), .v (dP b (.w g :: r)), .un, .un, .un]
    let ρ1 : En := [.v (dMade s), .v (dP b (.w f :: l)), .v (dP b (.w g :: r)), .v (dAcc (ss s (.w f :: l) [none])), .un, .un]
    let ρ2 : En := [.v (dMade s), .v (dP b (.w f :: l)), .v (dP b (.w g :: r)), .v (dAcc (ss s (.w f :: l) [none])), .v (dAcc (ss s (.w g :: r) [none])), .un]
    have e2 : m_sort_reason_2 ρ0 ps = .nx ρ1 ps := sAsg_ok (eCall_ok (eCons_ok (eVar_ok rfl) (eCons_ok (eVar_ok rfl) eNil_ok)) (sorts_ok hs b gl nl hl ps)) rfl
    have e3 : m_sort_reason_3 ρ1 ps = .nx ρ2 ps := sAsg_ok (eCall_ok (eCons_ok (eVar_ok rfl) (eCons_ok (eVar_ok rfl) eNil_ok)) (sorts_ok hs b gr nr hr ps)) rfl
    refine runB0_rt (ρ := ρ0) rfl rfl (sSeq_go e2 (sSeq_go e3 ?_))
    have w0 : eIdx (eVar 2) (eC (.int 0)) ρ2 ps = .ok (.str g) ρ2 ps := eIdx_ok (eVar_ok rfl) eC_ok (sq_pen b _) (ix0_sq b)
    have so : eMeth "Signs" "sort_of" f_Signs_sort_of (eVar 0) (eCons (eIdx (eVar 1) (eC (.int 0))) (eNil)) ρ2 ps = .ok (.str rf.2.2) ρ2 ps :=
      eMeth_ok (eVar_ok rfl) (by decide +kernel) (eCons_ok (eIdx_ok (eVar_ok rfl) eC_ok (sq_pen b _) (ix0_sq b)) eNil_ok) (sort_of_ok hf ps)
    have so2 : eMeth "Signs" "sort_of" f_Signs_sort_of (eVar 0) (eCons (eIdx (eVar 2) (eC (.int 0))) (eNil)) ρ2 ps = .ok (.str rg.2.2) ρ2 ps :=
      eMeth_ok (eVar_ok rfl) (by decide +kernel) (eCons_ok w0 eNil_ok) (sort_of_ok hg ps)
    have e4 : m_sort_reason_4 ρ2 ps = .nx ρ2 ps := sIf_F (bNot_ok (b := true) (eB_ok (eOp1_ok w0 is_str))) rfl
    have e5 : m_sort_reason_5 ρ2 ps = .nx ρ2 ps := sIf_F (eB_ok (eOp2_ok so2 so (by rw [ne_str, hs2, beq_self_eq_true]; rfl))) rfl
    obtain ⟨rg', hg', gg, eg⟩ := gd_head gr
    have hd : fDictEq 3 4 5 ρ2 ps = .ok (List.replicate (kAcc (ss s (.w g :: r) [none])).length (.bl true)) ρ2 ps := by
      have hk : (kAcc (ss s (.w g :: r) [none])).length < 1000 := by
        unfold kAcc
        rw [List.length_map]
        have := congrArg List.length (ss_vars gr)
        rw [List.length_map] at this
        rw [this]
        exact Nat.lt_of_le_of_lt (List.length_filterMap_le _ _) (by omega)
      have hde : dEq (kAcc (ss s (.w f :: l) [none])) (xAcc (ss s (.w f :: l) [none])) (kAcc (ss s (.w g :: r) [none])) (xAcc (ss s (.w g :: r) [none])) (kAcc (ss s (.w g :: r) [none])) = some (List.replicate (kAcc (ss s (.w g :: r) [none])).length true) := dEq_all fun k hk => by
        obtain ⟨q, hm, rfl⟩ := List.mem_map.mp hk
        obtain ⟨a, ha⟩ : ∃ x, q.2 = some x := by
          rw [eg] at hm
          exact ss_some (fun h hh => by obtain ⟨a, _, rfl⟩ := List.mem_map.mp hh; exact ⟨a, rfl⟩) q hm
        have h1 := look_acc (x := q.1) (h := q.2) (by rw [ss_vars gl]; exact nl) (hq q hm)
        have h2 := look_acc (x := q.1) (h := q.2) (by rw [ss_vars gr]; exact nr) hm
        rw [ha] at h1 h2
        exact ⟨a, h1, h2⟩
      show (if 5 < 6 ∧ 3 ≠ 5 ∧ 4 ≠ 5 ∧ (kAcc (ss s (.w g :: r) [none])).length < 1000 then (match dEq (kAcc (ss s (.w f :: l) [none])) (xAcc (ss s (.w f :: l) [none])) (kAcc (ss s (.w g :: r) [none])) (xAcc (ss s (.w g :: r) [none])) (kAcc (ss s (.w g :: r) [none])) with | some bs => Out.ok (bs.map D.bl) ρ2 ps | none => .stuck) else .stuck) = _
      rw [if_pos ⟨by decide, by decide, by decide, hk⟩, hde]
      show Out.ok ((List.replicate _ true).map D.bl) ρ2 ps = _
      rw [List.map_replicate]
    exact sSeq_go e4 (sSeq_go e5 (sRet_ok (eOpN_ok (eCons_ok (eFz_ok hd) eNil_ok) (all_true _))))

set_option maxHeartbeats 4000000
/-- a rule that is let -/
structure RuleOk (s : Sg) (r : Rul) : Prop where
  nm : r.name ∈ WN
  lw : ∃ f ws, r.left = .w f :: ws
  gl : gd s r.left [none]
  ll : r.left.length ≤ 24
  gr : gd s r.right [none]
  rl : r.right.length ≤ 24
  ndl : (vars r.left).Nodup
  ndr : (vars r.right).Nodup
  sub : ∀ x ∈ vars r.right, x ∈ vars r.left
  srt : sortP s r.left r.right
  flat : ∀ w ∈ r.right.tail, flatW s w
  grow : r.left.length = 1 → ∃ c, r.right = [.w c]
theorem is_row3 (b : Bool) (r : Rul) (ps : Pn) : f_is_row [dR b r, .int 3] ps = .ok (.bl true) ps := by
  refine runB0_rt (ρ := [.v (dR b r), .v (.int 3)]) rfl rfl (sRet_ok (eAnd_go (eCall_ok (eCons_ok (eVar_ok rfl) eNil_ok) (is_listed_sq b _ ps)) (eOp2_ok (eOpN_ok (eCons_ok (eVar_ok rfl) eNil_ok) (len_sq b _)) (eVar_ok rfl) ?_)))
  show eqD (.int 3) (.int 3) = _
  rw [eq_int]; rfl
theorem vars_len (p : List PW) : (vars p).length ≤ p.length := List.length_filterMap_le _ _
abbrev R8 (s : Sg) (b : Bool) (r : Rul) (ns : List Str) (a c d e g : Slot) : En := [.v (dMade s), .v (dR b r), .v (.lst (dStrs ns)), a, c, d, e, g]
section
variable {s : Sg} {b : Bool} {r : Rul} {ns : List Str} {a c d e g : Slot} {ps : Pn}
theorem rx0 : eIdx (eVar 1) (eC (.int 0)) (R8 s b r ns a c d e g) ps = .ok (.str r.name) (R8 s b r ns a c d e g) ps := eIdx_ok (eVar_ok rfl) eC_ok (sq_pen b _) (ix0_sq b)
theorem rx1 : eIdx (eVar 1) (eC (.int 1)) (R8 s b r ns a c d e g) ps = .ok (dP b r.left) (R8 s b r ns a c d e g) ps := eIdx_ok (eVar_ok rfl) eC_ok (sq_pen b _) (ix1_sq b)
theorem rx2 : eIdx (eVar 1) (eC (.int 2)) (R8 s b r ns a c d e g) ps = .ok (dP b r.right) (R8 s b r ns a c d e g) ps := eIdx_ok (eVar_ok rfl) eC_ok (sq_pen b _) (ix2_sq b)
end
theorem dlen {xs : List Str} (hn : xs.Nodup) (hl : xs.length < 900) {s : Sg} {b : Bool} {r : Rul} {ns : List Str} {a c g : Slot} (ps : Pn) :
    eOpN lenD (eCons (eDc (iSq (eVar 6)) (tName 5) [5] (tYesE) (eVar 5) (eC (.bl true))) eNil) (R8 s b r ns a c .un (.v (.lst (dStrs xs))) g) ps = .ok (.int xs.length) (R8 s b r ns a c .un (.v (.lst (dStrs xs))) g) ps := by
  let ρ := R8 s b r ns a c .un (.v (.lst (dStrs xs))) g
  have c2 : dcL (tName 5) [5] tYesE (eVar 5) (eC (.bl true)) (dStrs xs) [] ρ ps = .ok ([] ++ (dStrs xs).map fun x => (Sum.inr (unS x), .bl true)) ρ ps := by
    refine dcL_pure (fun d => Sum.inr (unS d)) (fun _ => .bl true) (dStrs xs) [] (by rw [dStrs_len]; show 0 + _ < 1000; omega) (by rw [List.map_nil, List.nil_append]; exact inr_nd hn) fun d hd => ?_
    obtain ⟨x, hx, rfl⟩ := List.mem_map.mp hd
    exact ⟨_, _, _, _, _, rfl, rfl, eVar_ok rfl, rfl, eC_ok, rfl⟩
  refine eOpN_ok (eCons_ok (eDc_run (ρ := ρ) (ρ1 := ρ) (ρ2 := ρ) (iSq_ok (eVar_ok rfl) rfl) rfl c2 rfl) eNil_ok) ?_
  show some (D.int _) = _
  rw [List.nil_append, List.length_map, List.length_map, dStrs_len]
theorem any_false (n : Nat) : anyD [.lst (List.replicate n (.bl false))] = some (.bl false) := by
  have h : ∀ n, blsOf (List.replicate n (.bl false)) = some (List.replicate n false) := by
    intro n
    induction n with
    | zero => rfl
    | succ n ih => rw [List.replicate_succ, List.replicate_succ]; simp [blsOf, ih]
  show (blsOf _).map _ = _
  rw [h]
  show some (D.bl _) = _
  congr 2
  induction n with
  | zero => rfl
  | succ n ih => rw [List.replicate_succ, List.any_cons, ih]; rfl
theorem rule_ok {s : Sg} (hs : SgG s) (b : Bool) {r : Rul} (h : RuleOk s r) {ns : List Str} (hn : r.name ∉ ns) (ps : Pn) : f_rule_reason [dMade s, dR b r, .lst (dStrs ns)] ps = .ok .non ps := by
  obtain ⟨f, lw, hlw⟩ := h.lw
  have hll := h.ll
  have hrl := h.rl
  have vl := vars_len r.left
  have vr := vars_len r.right
  let ρ0 : En := R8 s b r ns .un .un .un .un .un
  have e8 : m_rule_reason_8 ρ0 ps = .nx ρ0 ps := sIf_F (bOr_go (bNot_ok (b := true) (eB_ok (eCall_ok (eCons_ok (eVar_ok rfl) (eCons_ok eC_ok eNil_ok)) (is_row3 b r ps))))
    (bOr_go (bNot_ok (b := true) (eB_ok (eCall_ok (eCons_ok rx0 eNil_ok) (is_name_ok ps _ h.nm))))
      (bOr_go (bNot_ok (b := true) (eB_ok (eCall_ok (eCons_ok rx1 eNil_ok) (is_listed_sq b _ ps)))) (bNot_ok (b := true) (eB_ok (eCall_ok (eCons_ok rx2 eNil_ok) (is_listed_sq b _ ps))))))) rfl
  have e9 : m_rule_reason_9 ρ0 ps = .nx ρ0 ps := sIf_F (eB_ok (eOp2_ok rx0 (eVar_ok rfl) (by rw [in_lst, decide_eq_false hn]))) rfl
  have l0 : eIdx (eIdx (eVar 1) (eC (.int 1))) (eC (.int 0)) ρ0 ps = .ok (.str f) ρ0 ps := eIdx_ok rx1 eC_ok (sq_pen b _) (by unfold dP; rw [hlw]; exact ix0_sq b)
  have e10 : m_rule_reason_10 ρ0 ps = .nx ρ0 ps := by
    refine sIf_F (bOr_go (bNot_ok (b := true) (eB_ok (eCall_ok (eCons_ok (eVar_ok rfl) (eCons_ok rx1 eNil_ok)) (pattern_ok hs b h.gl (by omega) ps)))) (bOr_go (eB_ok (b := false) (eOp2_ok (eOpN_ok (eCons_ok rx1 eNil_ok) (len_sq b _)) eC_ok ?_)) (bNot_ok (b := true) (eB_ok (eOp1_ok l0 is_str))))) rfl
    rw [gt_int, decide_eq_false (by rw [List.length_map]; omega)]
  have e11 : m_rule_reason_11 ρ0 ps = .nx ρ0 ps := sIf_F (bNot_ok (b := true) (eB_ok (eCall_ok (eCons_ok (eVar_ok rfl) (eCons_ok rx2 eNil_ok)) (pattern_ok hs b h.gr (by omega) ps)))) rfl
  let ρ1 : En := R8 s b r ns (.v (.lst (dStrs (vars r.left)))) (.v (.lst (dStrs (vars r.right)))) .un .un .un
  have e12 : m_rule_reason_12 ρ0 ps = .nx ρ1 ps := by
    have a1 : eCall f_variables_of (eCons (eIdx (eVar 1) (eC (.int 1))) (eNil)) ρ0 ps = .ok (.lst (dStrs (vars r.left))) ρ0 ps := eCall_ok (eCons_ok rx1 eNil_ok) (variables_ok b (by omega) ps)
    have a2 : eCall f_variables_of (eCons (eIdx (eVar 1) (eC (.int 2))) (eNil)) ρ0 ps = .ok (.lst (dStrs (vars r.right))) ρ0 ps := eCall_ok (eCons_ok rx2 eNil_ok) (variables_ok b (by omega) ps)
    unfold m_rule_reason_12 sPar2 sBind iV bindE
    rw [a1]; dsimp only [pureE]; rw [a2]; rfl
  have e13 : m_rule_reason_13 ρ1 ps = .nx ρ1 ps := by
    have hc : fComp (iSq (eTup (eCons (eVar 3) (eCons (eVar 4) (eNil))))) (tName 6) [6] (tYesE) (eOp2 gtD (eOpN lenD (eCons (eVar 6) eNil)) (eOpN lenD (eCons (eDc (iSq (eVar 6)) (tName 5) [5] (tYesE) (eVar 5) (eC (.bl true))) eNil))) ρ1 ps = .ok ([vars r.left, vars r.right].filterMap fun _ => some (.bl false)) ρ1 ps := by
      refine fComp_map (fun xs => D.lst (dStrs xs)) _ [vars r.left, vars r.right] (by show 2 < 1000; decide) (iSq_ok (eTup_ok (eCons_ok (eVar_ok rfl) (eCons_ok (eVar_ok rfl) eNil_ok)) (szle (by show 2 < 1000; decide))) rfl) (by rfl) (fun xs hx => ?_) rfl
      have hx' : xs.Nodup ∧ xs.length < 900 := by
        simp only [List.mem_cons, List.not_mem_nil, or_false] at hx
        rcases hx with rfl | rfl
        · exact ⟨h.ndl, by omega⟩
        · exact ⟨h.ndr, by omega⟩
      refine ⟨_, _, R8 s b r ns (.v (.lst (dStrs (vars r.left)))) (.v (.lst (dStrs (vars r.right)))) .un (.v (.lst (dStrs xs))) .un, rfl, rfl, eOp2_ok (eOpN_ok (eCons_ok (eVar_ok rfl) eNil_ok) len_lst) (dlen hx'.1 hx'.2 ps) ?_, rfl⟩
      rw [gt_int, dStrs_len, decide_eq_false (by omega)]
    rw [filterMap_const] at hc
    exact sIf_F (eB_ok (eOpN_ok (eCons_ok (eFz_ok hc) eNil_ok) (any_false _))) rfl
  have e14 : m_rule_reason_14 ρ1 ps = .nx ρ1 ps := by
    have hc : fComp (iSq (eVar 4)) (tName 5) [5] (tYesE) (eOp2 ninD (eVar 5) (eVar 3)) ρ1 ps = .ok ((vars r.right).filterMap fun _ => some (.bl false)) ρ1 ps := by
      refine fComp_map D.str _ (vars r.right) (by omega) (iSq_ok (eVar_ok rfl) rfl) (by rfl) (fun x hx => ?_) rfl
      refine ⟨_, _, _, rfl, rfl, eOp2_ok (eVar_ok rfl) (eVar_ok rfl) (z := .bl false) ?_, rfl⟩
      rw [nin_lst, decide_eq_true (h.sub x hx)]; rfl
    rw [filterMap_const] at hc
    exact sIf_F (eB_ok (eOpN_ok (eCons_ok (eFz_ok hc) eNil_ok) (any_false _))) rfl
  have e15 : m_rule_reason_15 ρ1 ps = .nx ρ1 ps := sIf_F (bNot_ok (b := true) (eB_ok (eCall_ok (eCons_ok (eVar_ok rfl) (eCons_ok rx1 (eCons_ok rx2 eNil_ok))) (sort_reason_ok hs b h.gl h.gr h.ndl h.ndr (by omega) (by omega) h.srt ps)))) rfl
  have hrne : r.right ≠ [] := fun z => by
    have := gd_len h.gr
    rw [z] at this
    exact absurd this (by decide)
  obtain ⟨w0, wr, hw⟩ := List.exists_cons_of_ne_nil hrne
  have e16 : m_rule_reason_16 ρ1 ps = .nx ρ1 ps := by
    refine sIf_F (bNot_ok (b := true) (eB_ok (eCall_ok (eCons_ok (eVar_ok rfl) (eCons_ok rx2 eNil_ok)) ?_))) rfl
    rw [hw]
    exact is_flat_ok b (by have := h.flat; rw [hw] at this; exact this) (by have := h.rl; rw [hw, List.length_cons] at this; omega) ps
  have e17 : m_rule_reason_17 ρ1 ps = .nx (R8 s b r ns (.v (.lst (dStrs (vars r.left)))) (.v (.lst (dStrs (vars r.right)))) .un .un (.v (.bl false))) ps := by
    refine sAsg_ok (ρ1 := ρ1) (d := .bl false) ?_ rfl
    by_cases h1 : r.left.length = 1
    · obtain ⟨c, hc⟩ := h.grow h1
      refine eAnd_go (eOp2_ok (eOpN_ok (eCons_ok rx1 eNil_ok) (len_sq b _)) eC_ok ?_) (eOr_go (eOp2_ok (eOpN_ok (eCons_ok rx2 eNil_ok) (len_sq b _)) eC_ok ?_) (eNot_ok (b := true) (eOp1_ok (eIdx_ok rx2 eC_ok (sq_pen b _) (x := dP b r.right) (z := .str c) ?_) is_str)))
      · rw [eq_int, List.length_map, h1]; rfl
      · rw [gt_int, List.length_map, hc]; rfl
      · unfold dP; rw [hc]; exact ix0_sq b
    · refine eAnd_f (eOp2_ok (eOpN_ok (eCons_ok rx1 eNil_ok) (len_sq b _)) eC_ok ?_)
      rw [eq_int, List.length_map, decide_eq_false (by omega)]
  have e18 : m_rule_reason_18 (R8 s b r ns (.v (.lst (dStrs (vars r.left)))) (.v (.lst (dStrs (vars r.right)))) .un .un (.v (.bl false))) ps = .rt .non ps := sRet_ok (eIf_F (eB_ok (eVar_ok rfl)) eC_ok)
  exact runB0_rt (ρ := ρ0) rfl rfl (sSeq_go e8 (sSeq_go e9 (sSeq_go e10 (sSeq_go e11 (sSeq_go e12 (sSeq_go e13 (sSeq_go e14 (sSeq_go e15 (sSeq_go e16 (sSeq_go e17 e18))))))))))

set_option maxHeartbeats 4000000
/-! a book is made -/
theorem fix_word (rec : FM) (b : Bool) (w : PW) (ps : Pn) : fixS (fixS rec) [dW b w] ps = .ok (dW false w) ps := by
  cases w with
  | w x => exact fix_str _ x ps
  | v x =>
    refine fix_seq (xs := [.str x]) (ys := [.str x]) (seq_sq b _) (ls_sq b _) (by show 1 < 900; decide) rfl fun i y z h1 h2 => ?_
    rw [h1] at h2; cases h2
    match i, h1 with
    | 0, h1 => cases h1; exact fix_str _ x ps
theorem fix_side (rec : FM) (b : Bool) {p : List PW} (hl : p.length < 900) (ps : Pn) : fixS (fixS (fixS rec)) [dP b p] ps = .ok (dP false p) ps := by
  refine fix_seq (xs := p.map (dW b)) (ys := p.map (dW false)) (seq_sq b _) (ls_sq b _) (by rw [List.length_map]; exact hl) (by rw [List.length_map, List.length_map]) fun i y z h1 h2 => ?_
  rw [List.getElem?_map] at h1 h2
  cases e : p[i]? with
  | none => rw [e] at h1; cases h1
  | some w => rw [e] at h1 h2; cases h1; cases h2; exact fix_word rec b w ps
theorem fix_rule (rec : FM) (b : Bool) {r : Rul} (h1 : r.left.length < 900) (h2 : r.right.length < 900) (ps : Pn) : fixS (fixS (fixS (fixS rec))) [dR b r] ps = .ok (dR false r) ps := by
  refine fix_seq (xs := [.str r.name, dP b r.left, dP b r.right]) (ys := [.str r.name, dP false r.left, dP false r.right]) (seq_sq b _) (ls_sq b _) (by show 3 < 900; decide) rfl fun i y z e1 e2 => ?_
  match i, e1, e2 with
  | 0, e1, e2 => cases e1; cases e2; exact fix_str _ _ ps
  | 1, e1, e2 => cases e1; cases e2; exact fix_side rec b h1 ps
  | 2, e1, e2 => cases e1; cases e2; exact fix_side rec b h2 ps
def dRs (c b : Bool) (rs : List Rul) : D := sq c (rs.map (dR b))
theorem fixed_rules (c b : Bool) {rs : List Rul} (hl : rs.length < 900) (h : ∀ r ∈ rs, r.left.length < 900 ∧ r.right.length < 900) (ps : Pn) : f_fixed [dRs c b rs] ps = .ok (dRs false false rs) ps := by
  show fixS (fixS (fixS (fixS (fixS (iterF fixS 3))))) [dRs c b rs] ps = _
  refine fix_seq (xs := rs.map (dR b)) (ys := rs.map (dR false)) (seq_sq c _) (ls_sq c _) (by rw [List.length_map]; exact hl) (by rw [List.length_map, List.length_map]) fun i y z h1 h2 => ?_
  rw [List.getElem?_map] at h1 h2
  cases e : rs[i]? with
  | none => rw [e] at h1; cases h1
  | some r =>
    rw [e] at h1 h2; cases h1; cases h2
    have := h r (List.mem_of_getElem? e)
    exact fix_rule _ b this.1 this.2 ps
abbrev B7 (s : Sg) (v : D) (ns : List Str) (a4 a5 a6 : Slot) : En := [.oi "Book" [] [], .v (dMade s), .v v, .ol (dStrs ns), a4, a5, a6]
theorem book_loop {s : Sg} (hs : SgG s) (b : Bool) {v : D} (ps : Pn) : ∀ (rs : List Rul) (k : Nat) (ns : List Str) (a4 a5 a6 : Slot), isOwn a6 = false → (∀ r ∈ rs, RuleOk s r) → (ns ++ rs.map (·.name)).Nodup → ns.length + rs.length < 900 →
    ∃ a4' a5' a6', forL (tTupT [tName 4, tName 5]) (sSeq m_Book___init___2 (sSeq m_Book___init___3 m_Book___init___4)) (enumL k (rs.map (dR b))) (B7 s v ns a4 a5 a6) ps = .nx (B7 s v (ns ++ rs.map (·.name)) a4' a5' a6') ps
  | [], k, ns, a4, a5, a6, _, _, _, _ => ⟨a4, a5, a6, by simp only [List.map_nil, List.append_nil, enumL]; rfl⟩
  | r :: rs, k, ns, a4, a5, a6, h6, hr, hn, hl => by
    rw [List.length_cons] at hl
    rw [List.map_cons] at hn
    have hnew : r.name ∉ ns := fun z => (List.nodup_append.mp hn).2.2 _ z _ (List.mem_cons_self ..) rfl
    obtain ⟨a4', a5', a6', ih⟩ := book_loop hs b (v := v) ps rs (k + 1) (ns ++ [r.name]) (.v (.int k)) (.v (dR b r)) (.v .non) rfl (fun x hx => hr x (List.mem_cons_of_mem _ hx)) (by rw [List.append_assoc]; exact hn) (by rw [List.length_append, List.length_singleton]; omega)
    refine ⟨a4', a5', a6', ?_⟩
    have t : tTupT [tName 4, tName 5] (.tup [.int k, dR b r]) (B7 s v ns a4 a5 a6) = some (B7 s v ns (.v (.int k)) (.v (dR b r)) a6) := rfl
    have e2 : m_Book___init___2 (B7 s v ns (.v (.int k)) (.v (dR b r)) a6) ps = .nx (B7 s v ns (.v (.int k)) (.v (dR b r)) (.v .non)) ps := by
      refine sAsg_ok (ρ1 := B7 s v ns (.v (.int k)) (.v (dR b r)) a6) (d := .non) ?_ rfl
      have hc : eCall f_rule_reason (eCons (eVar 1) (eCons (eVar 5) (eCons (eVar 3) (eNil)))) (frzL [3] (B7 s v ns (.v (.int k)) (.v (dR b r)) a6)) ps = .ok .non (frzL [3] (B7 s v ns (.v (.int k)) (.v (dR b r)) a6)) ps :=
        eCall_ok (eCons_ok (eVar_ok rfl) (eCons_ok (eVar_ok rfl) (eCons_ok (eVar_ok rfl) eNil_ok))) (rule_ok hs b (hr r (List.mem_cons_self ..)) hnew ps)
      unfold eViewI
      rw [if_pos (by
        show (oi0 "Book" [Slot.oi "Book" [] [], .v (dMade s), .v v, .v (.lst (dStrs ns)), .v (.int k), .v (dR b r), a6] && [Slot.v (dMade s), .v v, .v (.lst (dStrs ns)), .v (.int k), .v (dR b r), a6].all (fun s => !isOwn s)) = true
        cases a6 <;> first | rfl | cases h6), hc]
      dsimp only
      rw [if_pos (by show (oi0 "Book" [Slot.oi "Book" [] [], .v (dMade s), .v v, .v (.lst (dStrs ns)), .v (.int k), .v (dR b r), a6] && flatC .non) = true; simp [oi0, flatC])]
    have e3 : m_Book___init___3 (B7 s v ns (.v (.int k)) (.v (dR b r)) (.v .non)) ps = .nx (B7 s v ns (.v (.int k)) (.v (dR b r)) (.v .non)) ps := sIf_F (eB_ok (eOp2_ok (eVar_ok rfl) eC_ok rfl)) rfl
    have e4 : m_Book___init___4 (B7 s v ns (.v (.int k)) (.v (dR b r)) (.v .non)) ps = .nx (B7 s v (ns ++ [r.name]) (.v (.int k)) (.v (dR b r)) (.v .non)) ps := by
      refine (sApp_ok (ρ1 := B7 s v ns (.v (.int k)) (.v (dR b r)) (.v .non)) (xs0 := dStrs ns) (xs := dStrs ns) (d := .str r.name) rfl (eIdx_ok (eVar_ok rfl) eC_ok (sq_pen b _) (ix0_sq b)) rfl (by rw [dStrs_len]; omega)).trans ?_
      have : dStrs (ns ++ [r.name]) = dStrs ns ++ [.str r.name] := by unfold dStrs; rw [List.map_append]; rfl
      show PL.SOut.nx [Slot.oi "Book" [] [], .v (dMade s), .v v, .ol (dStrs ns ++ [.str r.name]), .v (.int k), .v (dR b r), .v .non] ps = .nx [Slot.oi "Book" [] [], .v (dMade s), .v v, .ol (dStrs (ns ++ [r.name])), .v (.int k), .v (dR b r), .v .non] ps
      rw [this]
    refine (forL_nx (x := .tup [.int k, dR b r]) t (sSeq_go e2 (sSeq_go e3 e4))).trans (ih.trans ?_)
    rw [List.append_assoc]; rfl
def dBook (s : Sg) (rs : List Rul) : D := .ins "Book" ["signs", "rules", "names"] [dMade s, dRs false false rs, .tup (dStrs (rs.map (·.name)))]
theorem isC_made (s : Sg) : isC "Signs" (dMade s) = some (.bl true) := by unfold isC dMade; dsimp only; rw [if_pos rfl]
structure BookOk (s : Sg) (rs : List Rul) : Prop where
  ok : ∀ r ∈ rs, RuleOk s r
  nd : (rs.map (·.name)).Nodup
  le : rs.length ≤ 20
theorem book_ok {s : Sg} (hs : SgG s) (c b : Bool) {rs : List Rul} (h : BookOk s rs) (ps : Pn) : i_Book [dMade s, dRs c b rs] ps = .ok ["signs", "rules", "names"] [dMade s, dRs false false rs, .tup (dStrs (rs.map (·.name)))] ps := by
  have hle := h.le
  let ρ0 : En := [.oi "Book" [] [], .v (dMade s), .v (dRs c b rs), .un, .un, .un, .un]
  have e5 : m_Book___init___5 ρ0 ps = .nx ρ0 ps := by
    refine sDrop_ok (ρ1 := ρ0) (d := .non) (eCall_ok (eCons_ok (eVar_ok rfl) eNil_ok) ?_)
    have hb : bNot (eB (eOp1 (isC "Signs") (eVar 0))) [.v (dMade s)] ps = .ok false [.v (dMade s)] ps := bNot_ok (b := true) (eB_ok (eOp1_ok (eVar_ok rfl) (isC_made s)))
    exact runB0_nx (ρ := [.v (dMade s)]) (ρ' := [.v (dMade s)]) rfl rfl (show m_need_signs [.v (dMade s)] ps = .nx [.v (dMade s)] ps from sIf_F (a := m_need_signs_0) (b := sNil) hb rfl)
  have e6 : m_Book___init___6 ρ0 ps = .nx ρ0 ps := by
    refine sIf_F (bOr_go (bNot_ok (b := true) (eB_ok (eCall_ok (eCons_ok (eVar_ok rfl) eNil_ok) (is_listed_sq c _ ps)))) (eB_ok (b := false) (eOp2_ok (eOpN_ok (eCons_ok (eVar_ok rfl) eNil_ok) (len_sq c _)) eC_ok ?_))) rfl
    rw [gt_int, List.length_map, decide_eq_false (by omega)]
  have e7 : m_Book___init___7 ρ0 ps = .nx (B7 s (dRs c b rs) [] .un .un .un) ps := sOwnS_ok (ρ1 := ρ0) (ds := []) (eLst_ok eNil_ok (Nat.zero_le _)) (by show 3 < 7; decide)
  obtain ⟨a4, a5, a6, e⟩ := book_loop hs b (v := dRs c b rs) ps rs 0 [] .un .un .un rfl h.ok (by rw [List.nil_append]; exact h.nd) (by show 0 + _ < _; omega)
  have e8 : m_Book___init___8 (B7 s (dRs c b rs) [] .un .un .un) ps = .nx (B7 s (dRs c b rs) (rs.map (·.name)) a4 a5 a6) ps := by
    refine (sFor_ok (items := enumL 0 (rs.map (dR b))) (ρ1 := B7 s (dRs c b rs) [] .un .un .un) (ps1 := ps) ?_).trans e
    unfold iEn2 bindE
    rw [eCons_ok (eVar_ok (d := dRs c b rs) rfl) eNil_ok]
    cases c <;> rfl
  let P1 (ns : List Str) (xs : List D) : En := [.oi "Book" ns xs, .v (dMade s), .v (dRs c b rs), .ol (dStrs (rs.map (·.name))), a4, a5, a6]
  have e9 : m_Book___init___9 (B7 s (dRs c b rs) (rs.map (·.name)) a4 a5 a6) ps = .nx (P1 ["signs"] [dMade s]) ps := by
    refine (sFldS_ok (i := 0) (cn := "Book") (f := "signs") (ρ1 := B7 s (dRs c b rs) (rs.map (·.name)) a4 a5 a6) (ps1 := ps) (d := dMade s) (ns := []) (xs := []) (eVar_ok (i := 1) rfl) rfl (by decide)).trans ?_
    kernel_rfl
  have e10 : m_Book___init___10 (P1 ["signs"] [dMade s]) ps = .nx (P1 ["signs", "rules"] [dMade s, dRs false false rs]) ps := by
    refine (sFldS_ok (ρ1 := P1 ["signs"] [dMade s]) (ns := ["signs"]) (xs := [dMade s]) (eCall_ok (eCons_ok (eVar_ok rfl) eNil_ok) (fixed_rules c b (by omega) (fun r hr => ⟨by have := (h.ok r hr).ll; omega, by have := (h.ok r hr).rl; omega⟩) ps)) rfl (by decide)).trans ?_
    kernel_rfl
  have e11 : m_Book___init___11 (P1 ["signs", "rules"] [dMade s, dRs false false rs]) ps = .nx (P1 ["signs", "rules", "names"] [dMade s, dRs false false rs, .tup (dStrs (rs.map (·.name)))]) ps := by
    refine (sFldS_ok (i := 0) (cn := "Book") (f := "names") (m := eOtup 3) (ρ := P1 ["signs", "rules"] [dMade s, dRs false false rs]) (ps := ps) (ps1 := ps) (ρ1 := P1 ["signs", "rules"] [dMade s, dRs false false rs]) (ns := ["signs", "rules"]) (xs := [dMade s, dRs false false rs]) (d := .tup (dStrs (rs.map (·.name)))) rfl rfl (by decide)).trans ?_
    kernel_rfl
  exact runI0_nx (ρ := ρ0) (ρ' := P1 ["signs", "rules", "names"] [dMade s, dRs false false rs, .tup (dStrs (rs.map (·.name)))]) rfl rfl (sSeq_go e5 (sSeq_go e6 (sSeq_go e7 (sSeq_go e8 (sSeq_go e9 (sSeq_go e10 e11)))))) rfl

set_option maxHeartbeats 4000000
theorem drawN {n : Nat} {ps : Pn} (g : Good n ps) (hn : n ≤ 1000000) {m : Nat} (h1 : 0 < m) (h2 : m < 1000000) : ∃ (k : Nat) (ps' : Pn), f__law_draw [.pen, .int m] ps = .ok (.int k) ps' ∧ k < m ∧ Good (n + 1) ps' := by
  obtain ⟨r, ps', e, r0, r1, g'⟩ := drawOk n ps g hn m (by omega) (by omega)
  obtain ⟨k, rfl⟩ := Int.eq_ofNat_of_zero_le r0
  exact ⟨k, ps', e, by omega, g'⟩
theorem find_mem : ∀ {rs : List Row} {r : Row}, (rs.map (·.1)).Nodup → r ∈ rs → rs.find? (fun q => q.1 == r.1) = some r
  | [], _, _, h => by cases h
  | q :: rs, r, hn, h => by
    rw [List.map_cons, List.nodup_cons] at hn
    rcases List.mem_cons.mp h with rfl | h
    · rw [List.find?_cons_of_pos (by simp)]
    · rw [List.find?_cons_of_neg ?_]
      · exact find_mem hn.2 h
      · intro z
        have z : q.1 = r.1 := by simpa using z
        exact hn.1 (List.mem_map.mpr ⟨r, h, z.symm⟩)
theorem rowOf_mem {s : Sg} (hn : (s.syms.map (·.1)).Nodup) {r : Row} (h : r ∈ s.syms) : rowOf s r.1 = some r := find_mem hn h
theorem filt_head (x : Str) : ∀ rs : List Row, (rs.filterMap fun r => if (r.1 == x) = true then some (dRow r) else none)[0]? = (rs.find? fun r => r.1 == x).map dRow
  | [] => rfl
  | r :: rs => by
    by_cases h : (r.1 == x) = true
    · rw [List.filterMap_cons_some (b := dRow r) (by rw [if_pos h]), List.find?_cons_of_pos (p := fun q : Row => q.1 == x) h]; rfl
    · rw [List.filterMap_cons_none (by rw [if_neg h]), List.find?_cons_of_neg (p := fun q : Row => q.1 == x) h]; exact filt_head x rs
theorem sg1 (s : Sg) : idxD (dSg s) (.int 1) = some (.lst (s.syms.map dRow)) := rfl
theorem sg0 (s : Sg) : idxD (dSg s) (.int 0) = some (.lst (dStrs s.sorts)) := rfl
theorem dSg_pen (s : Sg) : dSg s ≠ .pen := by unfold dSg; intro z; cases z
theorem symbol_ok {s : Sg} (hl : s.syms.length < 900) {x : Str} {r : Row} (hr : rowOf s x = some r) (ps : Pn) : f__law_symbol [dSg s, .str x] ps = .ok (dRow r) ps := by
  let ρ : En := [.v (dSg s), .v (.str x), .un]
  have hc : fComp (iSq (eIdx (eVar 0) (eC (.int 1)))) (tName 2) [2] (eB (eOp2 eqD (eIdx (eVar 2) (eC (.int 0))) (eVar 1))) (eVar 2) ρ ps = .ok (s.syms.filterMap fun r => if (r.1 == x) = true then some (dRow r) else none) ρ ps := by
    refine fComp_map dRow _ s.syms (by omega) (iSq_ok (eIdx_ok (eVar_ok rfl) eC_ok (dSg_pen s) (sg1 s)) rfl) (by rfl) (fun r hr => ?_) rfl
    have ht : eB (eOp2 eqD (eIdx (eVar 2) (eC (.int 0))) (eVar 1)) [.v (dSg s), .v (.str x), .v (dRow r)] ps = .ok (r.1 == x) [.v (dSg s), .v (.str x), .v (dRow r)] ps :=
      eB_ok (eOp2_ok (eIdx_ok (eVar_ok rfl) eC_ok (by unfold dRow; simp) (row0 r)) (eVar_ok rfl) eq_str)
    by_cases h : (r.1 == x) = true
    · rw [if_pos h]
      rw [h] at ht
      exact ⟨_, _, _, rfl, ht, eVar_ok rfl, rfl⟩
    · have h' : (r.1 == x) = false := by simpa using h
      rw [if_neg h]
      rw [h'] at ht
      exact ⟨_, _, rfl, ht, rfl⟩
  have hx : idxD (.lst (s.syms.filterMap fun r => if (r.1 == x) = true then some (dRow r) else none)) (.int 0) = some (dRow r) := by
    refine ix_lst (i := 0) ?_
    rw [filt_head]
    show (rowOf s x).map dRow = _
    rw [hr]; rfl
  exact runB0_rt (ρ := ρ) rfl rfl (sRet_ok (ρ1 := ρ) (eIdx_ok (eFz_ok hc) eC_ok (by intro z; cases z) hx))
/-! a drawn left side -/
def dH (q : Str × Str) : D := .tup [.str q.1, .str q.2]
/-- the names of the symbols of a sort -/
def namesOf (s : Sg) (h : Str) : List Str := s.syms.filterMap fun r => if (r.2.2 == h) = true then some r.1 else none
theorem names_mem {s : Sg} {h x : Str} (hx : x ∈ namesOf s h) : ∃ r ∈ s.syms, r.1 = x ∧ r.2.2 = h := by
  obtain ⟨r, hr, e⟩ := List.mem_filterMap.mp hx
  by_cases z : (r.2.2 == h) = true
  · rw [if_pos z] at e; exact ⟨r, hr, Option.some.inj e, by simpa using z⟩
  · rw [if_neg z] at e; cases e
abbrev L14 (s : Sg) (M : Nat) (fr : D) (row : List PW) (held : List (Str × Str)) (st na : List Str) (t8 t9 t10 : Slot) : En :=
  [.v .pen, .v (dSg s), .v (.int M), .v fr, .ol (row.map (dW false)), .ol (held.map dH), .ol (dStrs st.reverse), vS na, t8, t9, t10, .un, .un, .un]
theorem own_v (d : D) : isOwn (.v d) = false := rfl
theorem own_un : isOwn .un = false := rfl
section
variable {s : Sg} {M : Nat} {fr : D} {row : List PW} {held : List (Str × Str)} {st na : List Str} {t8 t9 t10 : Slot} {ps : Pn}
theorem vw14 (h8 : isOwn t8 = false) (h9 : isOwn t9 = false) (h10 : isOwn t10 = false) : (frzL [4, 5, 6] (L14 s M fr row held st na t8 t9 t10)).all (fun s => !isOwn s) = true := by
  show ([.v .pen, .v (dSg s), .v (.int M), .v fr, .v (.lst (row.map (dW false))), .v (.lst (held.map dH)), .v (.lst (dStrs st.reverse)), vS na, t8, t9, t10, .un, .un, .un] : En).all (fun s => !isOwn s) = true
  simp only [List.all_cons, List.all_nil, own_v, own_un, h8, h9, h10]; rfl
theorem okD_strs {k : Nat} {xs : List Str} (h : ∀ x ∈ xs, x ∈ WN) : okD (k + 2) (.lst (dStrs xs)) = true := by
  show okD (k + 1 + 1) (.lst _) = true
  rw [okD]
  refine okDL_of fun d hd => ?_
  obtain ⟨x, hx, rfl⟩ := List.mem_map.mp hd
  have := okS_WN x (h x hx)
  show okD (k + 1) (.str x) = true
  simp [okD, this]
theorem st_empty (h8 : isOwn t8 = false) (h9 : isOwn t9 = false) (h10 : isOwn t10 = false) (hw : ∀ x ∈ st, x ∈ WN) :
    bView [4, 5, 6] (eB (eOp2 eqD (eVar 6) (eFz (eLst (eNil))))) (L14 s M fr row held st na t8 t9 t10) ps = .ok st.isEmpty (L14 s M fr row held st na t8 t9 t10) ps := by
  refine bView_ok (vw14 h8 h9 h10) (ρ1 := frzL [4, 5, 6] (L14 s M fr row held st na t8 t9 t10)) (eB_ok (eOp2_ok (x := .lst (dStrs st.reverse)) (eVar_ok rfl) (eFz_ok (eLst_ok eNil_ok (Nat.zero_le _))) ?_))
  rw [eq_empty (okD_strs (k := 58) fun x hx => hw x (List.mem_reverse.mp hx))]
  cases st with
  | nil => rfl
  | cons a b => simp [dStrs]
theorem m7_ok {h : Str} (hl : s.syms.length < 900) : m__law_left_7 (L14 s M fr row held st na t8 (.v (.str h)) t10) ps = .nx (L14 s M fr row held st na t8 (.v (.str h)) (vS (namesOf s h))) ps := by
  let ρ := L14 s M fr row held st na t8 (.v (.str h)) t10
  have hc : fComp (iSq (eIdx (eVar 1) (eC (.int 1)))) (tTupT [tName 11, tName 12, tName 13]) [11, 12, 13] (eB (eOp2 eqD (eVar 13) (eVar 9))) (eVar 11) ρ ps = .ok (s.syms.filterMap fun r => (if (r.2.2 == h) = true then some r.1 else none).map D.str) ρ ps := by
    refine fComp_map dRow _ s.syms (by omega) (iSq_ok (eIdx_ok (eVar_ok rfl) eC_ok (dSg_pen s) (sg1 s)) rfl) (by rfl) (fun r hr => ?_) rfl
    let ρr : En := [.v .pen, .v (dSg s), .v (.int M), .v fr, .ol (row.map (dW false)), .ol (held.map dH), .ol (dStrs st.reverse), vS na, t8, .v (.str h), t10, .v (.str r.1), .v (.tup (dStrs r.2.1)), .v (.str r.2.2)]
    have ht : eB (eOp2 eqD (eVar 13) (eVar 9)) ρr ps = .ok (r.2.2 == h) ρr ps := eB_ok (eOp2_ok (eVar_ok rfl) (eVar_ok rfl) eq_str)
    by_cases z : (r.2.2 == h) = true
    · rw [if_pos z]
      rw [z] at ht
      exact ⟨ρr, ρr, ρr, rfl, ht, eVar_ok rfl, rfl⟩
    · have z' : (r.2.2 == h) = false := by simpa using z
      rw [if_neg z]
      rw [z'] at ht
      exact ⟨ρr, ρr, rfl, ht, rfl⟩
  unfold m__law_left_7 sSetC sBind
  rw [hc]; dsimp only
  rw [if_pos (by show 10 < 14; decide), ← map_filterMap]
  rfl
theorem len_view5 (h8 : isOwn t8 = false) (h9 : isOwn t9 = false) (h10 : isOwn t10 = false) : eView [4, 5, 6] (eOpN lenD (eCons (eVar 5) eNil)) (L14 s M fr row held st na t8 t9 t10) ps = .ok (.int held.length) (L14 s M fr row held st na t8 t9 t10) ps := by
  refine eView_ok (vw14 h8 h9 h10) (ρ1 := frzL [4, 5, 6] (L14 s M fr row held st na t8 t9 t10)) (eOpN_ok (x := [.lst (held.map dH)]) (eCons_ok (eVar_ok rfl) eNil_ok) ?_) rfl
  rw [len_lst, List.length_map]
theorem name_ix (h8 : isOwn t8 = false) (h9 : isOwn t9 = false) (h10 : isOwn t10 = false) {x : Str} (hx : na[held.length]? = some x) : eIdx (eVar 7) (eView [4, 5, 6] (eOpN lenD (eCons (eVar 5) eNil))) (L14 s M fr row held st na t8 t9 t10) ps = .ok (.str x) (L14 s M fr row held st na t8 t9 t10) ps := by
  refine eIdx_ok (x := .lst (dStrs na)) (eVar_ok rfl) (len_view5 h8 h9 h10) (by intro z; cases z) (ix_lst ?_)
  unfold dStrs
  rw [List.getElem?_map, hx]; rfl
/-- a variable is put -/
theorem m12_ok (h8 : isOwn t8 = false) (h10 : isOwn t10 = false) {x h : Str} (hx : na[held.length]? = some x) (h1 : row.length < 900) (h2 : held.length < 900) : sSeq m__law_left_1 m__law_left_2 (L14 s M fr row held st na t8 (.v (.str h)) t10) ps = .nx (L14 s M fr (row ++ [PW.v x]) (held ++ [(x, h)]) st na t8 (.v (.str h)) t10) ps := by
  have e1 : m__law_left_1 (L14 s M fr row held st na t8 (.v (.str h)) t10) ps = .nx (L14 s M fr (row ++ [PW.v x]) held st na t8 (.v (.str h)) t10) ps := by
    refine (sApp_ok (ρ1 := L14 s M fr row held st na t8 (.v (.str h)) t10) (xs0 := row.map (dW false)) (xs := row.map (dW false)) (d := .tup [.str x]) rfl (eTup_ok (eCons_ok (name_ix h8 rfl h10 hx) eNil_ok) (szle (by show 1 < 1000; decide))) rfl (by rw [List.length_map]; omega)).trans ?_
    show PL.SOut.nx [.v .pen, .v (dSg s), .v (.int M), .v fr, .ol (row.map (dW false) ++ [.tup [.str x]]), .ol (held.map dH), .ol (dStrs st.reverse), vS na, t8, .v (.str h), t10, .un, .un, .un] ps = .nx [.v .pen, .v (dSg s), .v (.int M), .v fr, .ol ((row ++ [PW.v x]).map (dW false)), .ol (held.map dH), .ol (dStrs st.reverse), vS na, t8, .v (.str h), t10, .un, .un, .un] ps
    rw [List.map_append]; rfl
  refine sSeq_go e1 ?_
  refine (sApp_ok (ρ1 := L14 s M fr (row ++ [PW.v x]) held st na t8 (.v (.str h)) t10) (xs0 := held.map dH) (xs := held.map dH) (d := dH (x, h)) (i := 5) rfl (eTup_ok (eCons_ok (name_ix h8 rfl h10 hx) (eCons_ok (eVar_ok (i := 9) rfl) eNil_ok)) (szle (by show 2 < 1000; decide))) rfl (by rw [List.length_map]; omega)).trans ?_
  show PL.SOut.nx [.v .pen, .v (dSg s), .v (.int M), .v fr, .ol ((row ++ [PW.v x]).map (dW false)), .ol (held.map dH ++ [dH (x, h)]), .ol (dStrs st.reverse), vS na, t8, .v (.str h), t10, .un, .un, .un] ps = .nx [.v .pen, .v (dSg s), .v (.int M), .v fr, .ol ((row ++ [PW.v x]).map (dW false)), .ol ((held ++ [(x, h)]).map dH), .ol (dStrs st.reverse), vS na, t8, .v (.str h), t10, .un, .un, .un] ps
  rw [List.map_append (l₁ := held)]; rfl
/-- a symbol is put -/
theorem m34_ok (hl : s.syms.length < 900) {n : Nat} (g : Good n ps) (hn : n ≤ 1000000) {h : Str} (hne : namesOf s h ≠ []) (h1 : row.length < 900) (h2 : st.length < 900) (ha : ∀ r ∈ s.syms, r.2.1.length ≤ 3) (hnd : (s.syms.map (·.1)).Nodup) :
    ∃ r ∈ s.syms, ∃ ps', r.2.2 = h ∧ sSeq m__law_left_3 m__law_left_4 (L14 s M fr row held st na t8 (.v (.str h)) (vS (namesOf s h))) ps = .nx (L14 s M fr (row ++ [PW.w r.1]) held (r.2.1 ++ st) na t8 (.v (.str h)) (vS (namesOf s h))) ps' ∧ Good (n + 1) ps' := by
  obtain ⟨x, ps', e, hx, g'⟩ := pickS g hn hne (by
    have : (namesOf s h).length ≤ s.syms.length := List.length_filterMap_le _ _
    omega)
  obtain ⟨r, hr, rfl, hs⟩ := names_mem hx
  refine ⟨r, hr, ps', hs, ?_, g'⟩
  have e3 : m__law_left_3 (L14 s M fr row held st na t8 (.v (.str h)) (vS (namesOf s h))) ps = .nx (L14 s M fr (row ++ [PW.w r.1]) held st na t8 (.v (.str h)) (vS (namesOf s h))) ps' := by
    refine (sApp_ok (ρ1 := L14 s M fr row held st na t8 (.v (.str h)) (vS (namesOf s h))) (xs0 := row.map (dW false)) (xs := row.map (dW false)) (d := .str r.1) rfl (eCall_ok (eCons_ok (eVar_ok rfl) (eCons_ok (eVar_ok rfl) eNil_ok)) e) rfl (by rw [List.length_map]; omega)).trans ?_
    show PL.SOut.nx [.v .pen, .v (dSg s), .v (.int M), .v fr, .ol (row.map (dW false) ++ [.str r.1]), .ol (held.map dH), .ol (dStrs st.reverse), vS na, t8, .v (.str h), vS (namesOf s h), .un, .un, .un] ps' = .nx [.v .pen, .v (dSg s), .v (.int M), .v fr, .ol ((row ++ [PW.w r.1]).map (dW false)), .ol (held.map dH), .ol (dStrs st.reverse), vS na, t8, .v (.str h), vS (namesOf s h), .un, .un, .un] ps'
    rw [List.map_append]; rfl
  refine sSeq_go e3 ?_
  let ρf : En := [.v .pen, .v (dSg s), .v (.int M), .v fr, .ol ((row ++ [PW.w r.1]).map (dW false)), .ol (held.map dH), .v (.lst (dStrs st.reverse)), vS na, t8, .v (.str h), vS (namesOf s h), .un, .un, .un]
  have ef : sFrz 6 (L14 s M fr (row ++ [PW.w r.1]) held st na t8 (.v (.str h)) (vS (namesOf s h))) ps' = .nx ρf ps' := rfl
  refine sSeq_go ef ?_
  have last : eOix 4 (eOp1 negD (eC (.int 1))) ρf ps' = .ok (.str r.1) ρf ps' := by
    unfold eOix
    rw [if_pos (by rfl)]
    unfold bindE
    rw [show eOp1 negD (eC (.int 1)) ρf ps' = .ok (.int (-1)) ρf ps' from rfl]
    dsimp only
    show (match atI ((row ++ [PW.w r.1]).map (dW false)) (-1) with | some y => Out.ok y ρf ps' | none => .stuck) = _
    have : atI ((row ++ [PW.w r.1]).map (dW false)) (-1) = some (.str r.1) := by
      rw [List.map_append]
      unfold atI
      have hi : ixN ((row.map (dW false)) ++ ([PW.w r.1].map (dW false))).length (-1) = some row.length := by
        rw [List.length_append, List.length_map]
        show ixN (row.length + 1) (-1) = _
        unfold ixN
        split <;> first | (congr 1; omega) | (exfalso; omega) | (split <;> first | (congr 1; omega) | (exfalso; omega))
      rw [hi]
      show (row.map (dW false) ++ [.str r.1])[row.length]? = _
      rw [List.getElem?_append_right (by rw [List.length_map]; exact Nat.le_refl _), List.length_map, Nat.sub_self]; rfl
    rw [this]
  have sy : eIdx (eCall f__law_symbol (eCons (eVar 1) (eCons (eOix 4 (eOp1 negD (eC (.int 1)))) (eNil)))) (eC (.int 1)) ρf ps' = .ok (.tup (dStrs r.2.1)) ρf ps' :=
    eIdx_ok (eCall_ok (eCons_ok (eVar_ok rfl) (eCons_ok last eNil_ok)) (symbol_ok hl (rowOf_mem hnd hr) ps')) eC_ok (by unfold dRow; simp) (row1 r)
  have hle := ha r hr
  refine (sOwnS_ok (ρ1 := ρf) (ds := dStrs st.reverse ++ (dStrs r.2.1).reverse) (fCat_ok (eVar_ok rfl) (eFz_ok (fRev_ok (eFz_ok (fList_ok sy rfl)))) (szle (by rw [List.length_reverse, dStrs_len, dStrs_len, List.length_reverse]; omega))) (by show 6 < 14; decide)).trans ?_
  have : dStrs (r.2.1 ++ st).reverse = dStrs st.reverse ++ (dStrs r.2.1).reverse := by
    unfold dStrs; rw [List.reverse_append, List.map_append, List.map_reverse (l := r.2.1)]
  show PL.SOut.nx [.v .pen, .v (dSg s), .v (.int M), .v fr, .ol ((row ++ [PW.w r.1]).map (dW false)), .ol (held.map dH), .ol (dStrs st.reverse ++ (dStrs r.2.1).reverse), vS na, t8, .v (.str h), vS (namesOf s h), .un, .un, .un] ps' = .nx [.v .pen, .v (dSg s), .v (.int M), .v fr, .ol ((row ++ [PW.w r.1]).map (dW false)), .ol (held.map dH), .ol (dStrs (r.2.1 ++ st).reverse), vS na, t8, .v (.str h), vS (namesOf s h), .un, .un, .un] ps'
  rw [this]
end

set_option maxHeartbeats 4000000
def someL (l : List (Str × Str)) : List (Str × Option Str) := l.map fun q => (q.1, some q.2)
theorem VN_WN {x : Str} (h : x ∈ VN) : x ∈ WN := List.mem_append_right _ (List.mem_append_right _ (List.mem_cons_of_mem _ (List.mem_append_left _ h)))
theorem VN_nd : VN.Nodup := by decide +kernel
section
variable {s : Sg} {M : Nat} {fr : D} {na : List Str}
theorem names_ne {s : Sg} (hs : SgOk SO NA s) {h : Str} (hh : h ∈ s.sorts) : namesOf s h ≠ [] := fun z => by
  obtain ⟨r, hr, e⟩ := hs.con h hh
  have : r.1 ∈ namesOf s h := List.mem_filterMap.mpr ⟨r, hr, by rw [e]; simp⟩
  rw [z] at this; cases this
theorem so_WN' {s : Sg} (hs : SgOk SO NA s) {x : Str} (h : x ∈ s.sorts) : x ∈ WN := (WN_so (hs.so x h)).1
theorem left_step (hs : SgOk SO NA s) (hna : na.Perm VN) (hM : M ≤ 7) {row : List PW} {held : List (Str × Str)} {h : Str} {st : List Str} {t8 t9 t10 : Slot} {n : Nat} {ps : Pn} (hl : row.length + (st.length + 1) ≤ 10) (hh : held.length < row.length) (hst : ∀ x ∈ h :: st, x ∈ s.sorts)
    (h8 : isOwn t8 = false) (h9 : isOwn t9 = false) (h10 : isOwn t10 = false) (g : Good n ps) (hn : n + 3 ≤ 1000000) :
    ∃ (w : PW) (held1 : List (Str × Str)) (as : List Str) (ps' : Pn) (t9' t10' : Slot), isOwn t9' = false ∧ isOwn t10' = false ∧ sSeq m__law_left_5 (sSeq m__law_left_6 (sSeq m__law_left_7 m__law_left_8)) (L14 s M fr row held (h :: st) na t8 t9 t10) ps = .nx (L14 s M fr (row ++ [w]) (held ++ held1) (as ++ st) na t8 t9' t10') ps' ∧ Good (n + 3) ps' ∧
      ((∃ x, w = .v x ∧ na[held.length]? = some x ∧ held1 = [(x, h)] ∧ as = []) ∨ (∃ r, w = .w r.1 ∧ rowOf s r.1 = some r ∧ r.2.2 = h ∧ held1 = [] ∧ as = r.2.1 ∧ row.length + 1 + (as.length + st.length) ≤ 10)) := by
  have hsl : s.syms.length < 900 := by have := hs.nlen; omega
  have hw : ∀ x ∈ h :: st, x ∈ WN := fun x hx => so_WN' hs (hst x hx)
  have hlna : na.length = 12 := hna.length_eq
  obtain ⟨x, hx⟩ : ∃ x, na[held.length]? = some x := ⟨_, List.getElem?_eq_getElem (by omega)⟩
  have e5 : m__law_left_5 (L14 s M fr row held (h :: st) na t8 t9 t10) ps = .nx (L14 s M fr row held (h :: st) na t8 t9 t10) ps := sIf_F (st_empty h8 h9 h10 hw) rfl
  have ep : ePop 6 (L14 s M fr row held (h :: st) na t8 t9 t10) ps = .ok (.str h) (L14 s M fr row held st na t8 t9 t10) ps := by
    refine ePop_ok (i := 6) (ρ := L14 s M fr row held (h :: st) na t8 t9 t10) ?_
    show some (PL.Slot.ol (dStrs (h :: st).reverse)) = some (PL.Slot.ol (dStrs st.reverse ++ [.str h]))
    unfold dStrs; rw [List.reverse_cons, List.map_append]; rfl
  have e6 : m__law_left_6 (L14 s M fr row held (h :: st) na t8 t9 t10) ps = .nx (L14 s M fr row held st na t8 (.v (.str h)) t10) ps := sAsg_ok ep rfl
  have e7 : m__law_left_7 (L14 s M fr row held st na t8 (.v (.str h)) t10) ps = .nx (L14 s M fr row held st na t8 (.v (.str h)) (vS (namesOf s h))) ps := m7_ok hsl
  let ρ := L14 s M fr row held st na t8 (.v (.str h)) (vS (namesOf s h))
  have hne := names_ne hs (hst h (List.mem_cons_self ..))
  have b1 : eB (eOp2 eqD (eVar 10) (eFz (eLst (eNil)))) ρ ps = .ok false ρ ps := by
    refine eB_ok (eOp2_ok (x := .lst (dStrs (namesOf s h))) (eVar_ok rfl) (eFz_ok (eLst_ok eNil_ok (Nat.zero_le _))) ?_)
    rw [eq_empty (okD_strs (k := 58) fun x hx => by
      obtain ⟨r, hr, rfl, _⟩ := names_mem hx
      exact (WN_na (hs.nm r hr).1).1)]
    cases e : namesOf s h with
    | nil => exact absurd e hne
    | cons a b => rfl
  have b2 : bView [4, 5, 6] (eB (eOp2 geD (eOp2 addD (eOpN lenD (eCons (eVar 4) eNil)) (eOpN lenD (eCons (eVar 6) eNil))) (eVar 2))) ρ ps = .ok (decide (M ≤ row.length + st.length)) ρ ps := by
    refine bView_ok (vw14 h8 rfl rfl) (ρ1 := frzL [4, 5, 6] ρ) (eB_ok (eOp2_ok (x := .int ((row.length : Int) + (st.length : Int))) (y := .int M) (eOp2_ok (x := .int row.length) (y := .int st.length) (eOpN_ok (x := [.lst (row.map (dW false))]) (eCons_ok (eVar_ok rfl) eNil_ok) ?_) (eOpN_ok (x := [.lst (dStrs st.reverse)]) (eCons_ok (eVar_ok rfl) eNil_ok) ?_) rfl) (eVar_ok rfl) ?_))
    · rw [len_lst, List.length_map]
    · rw [len_lst, dStrs_len, List.length_reverse]
    · rw [ge_int]
      congr 2
      by_cases z : M ≤ row.length + st.length
      · rw [decide_eq_true z, decide_eq_true (by omega)]
      · rw [decide_eq_false z, decide_eq_false (by omega)]
  have va : ∀ {ps' : Pn}, Good (n + 3) ps' → bOr (eB (eOp2 eqD (eVar 10) (eFz (eLst (eNil))))) (bOr (bView [4, 5, 6] (eB (eOp2 geD (eOp2 addD (eOpN lenD (eCons (eVar 4) eNil)) (eOpN lenD (eCons (eVar 6) eNil))) (eVar 2)))) (eB (eOp2 eqD (eCall f__law_draw (eCons (eVar 0) (eCons (eC (.int 2)) (eNil)))) (eC (.int 0))))) ρ ps = .ok true ρ ps' →
      ∃ (w : PW) (held1 : List (Str × Str)) (as : List Str) (ps' : Pn) (t9' t10' : Slot), isOwn t9' = false ∧ isOwn t10' = false ∧ sSeq m__law_left_5 (sSeq m__law_left_6 (sSeq m__law_left_7 m__law_left_8)) (L14 s M fr row held (h :: st) na t8 t9 t10) ps = .nx (L14 s M fr (row ++ [w]) (held ++ held1) (as ++ st) na t8 t9' t10') ps' ∧ Good (n + 3) ps' ∧
      ((∃ x, w = .v x ∧ na[held.length]? = some x ∧ held1 = [(x, h)] ∧ as = []) ∨ (∃ r, w = .w r.1 ∧ rowOf s r.1 = some r ∧ r.2.2 = h ∧ held1 = [] ∧ as = r.2.1 ∧ row.length + 1 + (as.length + st.length) ≤ 10)) := fun {ps'} g' hb =>
    ⟨.v x, [(x, h)], [], ps', .v (.str h), vS (namesOf s h), rfl, rfl, sSeq_go e5 (sSeq_go e6 (sSeq_go e7 (sIf_T hb (m12_ok h8 rfl hx (by omega) (by omega))))), g', .inl ⟨x, rfl, hx, rfl, rfl⟩⟩
  by_cases z : M ≤ row.length + st.length
  · rw [decide_eq_true z] at b2
    exact va (g.mono (by omega)) (bOr_go b1 (bOr_t b2))
  · rw [decide_eq_false z] at b2
    obtain ⟨k, ps1, e1, hk, g1⟩ := drawN g (by omega) (m := 2) (by decide) (by decide)
    have b3 : eB (eOp2 eqD (eCall f__law_draw (eCons (eVar 0) (eCons (eC (.int 2)) (eNil)))) (eC (.int 0))) ρ ps = .ok (decide ((k : Int) = 0)) ρ ps1 := eB_ok (eOp2_ok (eCall_ok (eCons_ok (eVar_ok rfl) (eCons_ok eC_ok eNil_ok)) e1) eC_ok eq_int)
    by_cases hk0 : (k : Int) = 0
    · rw [decide_eq_true hk0] at b3
      exact va (g1.mono (by omega)) (bOr_go b1 (bOr_go b2 b3))
    · rw [decide_eq_false hk0] at b3
      obtain ⟨r, hr, ps2, hs2, e8, g2⟩ := m34_ok (s := s) (M := M) (fr := fr) (row := row) (held := held) (st := st) (na := na) (t8 := t8) hsl g1 (by omega) hne (by omega) (by omega) (fun r hr => (hs.nm r hr).2.2.2) hs.nnd
      have hle := (hs.nm r hr).2.2.2
      refine ⟨.w r.1, [], r.2.1, ps2, .v (.str h), vS (namesOf s h), rfl, rfl, sSeq_go e5 (sSeq_go e6 (sSeq_go e7 (sIf_F (bOr_go b1 (bOr_go b2 b3)) ?_))), g2.mono (by omega), .inr ⟨r, rfl, rowOf_mem hs.nnd hr, hs2, rfl, rfl, by omega⟩⟩
      rw [List.append_nil]; exact e8
theorem left_loop (hs : SgOk SO NA s) (hna : na.Perm VN) (hM : M ≤ 7) : ∀ (items : List Int) (row : List PW) (held : List (Str × Str)) (st : List Str) (t8 t9 t10 : Slot) (n : Nat) (ps : Pn), row.length + items.length = 25 → row.length + st.length ≤ 10 → held.length < row.length → (∀ h ∈ st, h ∈ s.sorts) →
    isOwn t8 = false → isOwn t9 = false → isOwn t10 = false → Good n ps → n + 3 * items.length ≤ 999000 →
    ∃ (ws : List PW) (held' : List (Str × Str)) (t8' t9' t10' : Slot) (ps' : Pn), forL (tName 8) (sSeq m__law_left_5 (sSeq m__law_left_6 (sSeq m__law_left_7 m__law_left_8))) (items.map D.int) (L14 s M fr row held st na t8 t9 t10) ps = .nx (L14 s M fr (row ++ ws) (held ++ held') [] na t8' t9' t10') ps' ∧
      gd s ws (st.map some) ∧ ss s ws (st.map some) = someL held' ∧ held'.map (·.1) = (na.drop held.length).take held'.length ∧ (row ++ ws).length ≤ 10 ∧ Good (n + 3 * items.length) ps'
  | [], row, held, st, t8, t9, t10, n, ps, h1, h2, _, _, _, _, _, _, _ => by
    rw [List.length_nil] at h1; omega
  | i :: items, row, held, [], t8, t9, t10, n, ps, h1, h2, _, _, h8, h9, h10, g, hn => by
    have e5 : m__law_left_5 (L14 s M fr row held [] na (.v (.int i)) t9 t10) ps = .bk (L14 s M fr row held [] na (.v (.int i)) t9 t10) ps := sIf_T (st_empty rfl h9 h10 (fun x hx => by cases hx)) rfl
    refine ⟨[], [], .v (.int i), t9, t10, ps, ?_, rfl, rfl, rfl, by rw [List.append_nil]; simpa using h2, g.mono (by omega)⟩
    rw [List.append_nil, List.append_nil]
    exact forL_bk (t := tName 8) (x := .int i) rfl (sSeq_bk e5)
  | i :: items, row, held, h :: st, t8, t9, t10, n, ps, h1, h2, h3, h4, h8, h9, h10, g, hn => by
    rw [List.length_cons] at h1 h2 hn
    obtain ⟨w, held1, as, ps1, t9', t10', o9, o10, e, g1, hc⟩ := left_step (fr := fr) hs hna hM h2 h3 h4 (t8 := .v (.int i)) rfl h9 h10 g (by omega)
    have hlr : (row ++ [w]).length = row.length + 1 := by rw [List.length_append]; rfl
    have st1 : ∀ {o}, forL (tName 8) (sSeq m__law_left_5 (sSeq m__law_left_6 (sSeq m__law_left_7 m__law_left_8))) (items.map D.int) (L14 s M fr (row ++ [w]) (held ++ held1) (as ++ st) na (.v (.int i)) t9' t10') ps1 = o →
        forL (tName 8) (sSeq m__law_left_5 (sSeq m__law_left_6 (sSeq m__law_left_7 m__law_left_8))) ((i :: items).map D.int) (L14 s M fr row held (h :: st) na t8 t9 t10) ps = o := fun ho => (forL_nx (t := tName 8) (x := .int i) rfl e).trans ho
    have e3n : n + 3 + 3 * items.length = n + 3 * (items.length + 1) := by omega
    rcases hc with ⟨x, rfl, hx, rfl, rfl⟩ | ⟨r, rfl, hr, hs2, rfl, rfl, hle⟩
    · obtain ⟨ws, held', t8', t9'', t10'', ps', e', q1, q2, q3, q4, q5⟩ := left_loop hs hna hM items (row ++ [.v x]) (held ++ [(x, h)]) st (.v (.int i)) t9' t10' (n + 3) ps1 (by rw [hlr]; omega) (by rw [hlr]; omega) (by rw [hlr, List.length_append]; show _ + 1 < _; omega) (fun y hy => h4 y (List.mem_cons_of_mem _ hy)) rfl o9 o10 g1 (by omega)
      have hxm : x ∈ VN := hna.mem_iff.mp (List.mem_of_getElem? hx)
      refine ⟨.v x :: ws, (x, h) :: held', t8', t9'', t10'', ps', ?_, ⟨VN_WN hxm, q1⟩, ?_, ?_, ?_, by rw [List.length_cons, ← e3n]; exact q5⟩
      · refine (st1 e').trans ?_
        rw [List.append_assoc, List.append_assoc]; rfl
      · show (x, some h) :: ss s ws (st.map some) = _
        rw [q2]; rfl
      · rw [List.map_cons, q3, List.length_append]
        have hlt : held.length < na.length := (List.getElem?_eq_some_iff.mp hx).1
        have hxx := (List.getElem?_eq_some_iff.mp hx).2
        rw [List.drop_eq_getElem_cons hlt, hxx]
        show x :: List.take held'.length (List.drop (held.length + 1) na) = List.take (held'.length + 1) (x :: List.drop (held.length + 1) na)
        rw [List.take_succ_cons]
      · rw [List.append_assoc] at q4; exact q4
    · rw [List.append_nil] at st1
      obtain ⟨ws, held', t8', t9'', t10'', ps', e', q1, q2, q3, q4, q5⟩ := left_loop hs hna hM items (row ++ [.w r.1]) held (r.2.1 ++ st) (.v (.int i)) t9' t10' (n + 3) ps1 (by rw [hlr]; omega) (by rw [hlr, List.length_append]; omega) (by rw [hlr]; omega) (fun y hy => by
        rcases List.mem_append.mp hy with hy | hy
        · exact (hs.nm r (List.mem_of_find?_eq_some hr)).2.1 y hy
        · exact h4 y (List.mem_cons_of_mem _ hy)) rfl o9 o10 g1 (by omega)
      rw [List.map_append] at q1 q2
      refine ⟨.w r.1 :: ws, held', t8', t9'', t10'', ps', ?_, ⟨r, hr, by show (r.2.2 == h) = true; rw [hs2]; exact beq_self_eq_true _, q1⟩, ?_, q3, ?_, by rw [List.length_cons, ← e3n]; exact q5⟩
      · refine (st1 e').trans ?_
        rw [List.append_assoc]; rfl
      · show (match rowOf s r.1 with | some r => ss s ws (r.2.1.map some ++ st.map some) | none => []) = _
        rw [hr]; exact q2
      · rw [List.append_assoc] at q4; exact q4
end

set_option maxHeartbeats 4000000
/-- a drawn left side, the sorts of its variables -/
structure LeftOk (s : Sg) (p : List PW) (held : List (Str × Str)) : Prop where
  hd : ∃ r ws, r ∈ s.syms ∧ p = .w r.1 :: ws ∧ gd s ws (r.2.1.map some) ∧ ss s ws (r.2.1.map some) = someL held
  nd : (held.map (·.1)).Nodup
  vn : ∀ q ∈ held, q.1 ∈ VN
  len : p.length ≤ 10
theorem gd_cons {s : Sg} {x : Str} {r : Row} {ws : List PW} (hr : rowOf s x = some r) (g : gd s ws (r.2.1.map some)) : gd s (.w x :: ws) [none] := ⟨r, hr, rfl, by rw [List.append_nil]; exact g⟩
theorem ss_cons {s : Sg} {x : Str} {r : Row} {ws : List PW} (hr : rowOf s x = some r) : ss s (.w x :: ws) [none] = ss s ws (r.2.1.map some) := by
  show (match rowOf s x with | some r => ss s ws (r.2.1.map some ++ []) | none => []) = _
  rw [hr]
  show ss s ws (r.2.1.map some ++ []) = _
  rw [List.append_nil]
theorem LeftOk.gd {s : Sg} {p : List PW} {held : List (Str × Str)} (hs : SgOk SO NA s) (h : LeftOk s p held) : gd s p [none] := by
  obtain ⟨r, ws, hr, rfl, g, _⟩ := h.hd
  exact gd_cons (rowOf_mem hs.nnd hr) g
theorem LeftOk.ss {s : Sg} {p : List PW} {held : List (Str × Str)} (hs : SgOk SO NA s) (h : LeftOk s p held) : ss s p [none] = someL held := by
  obtain ⟨r, ws, hr, rfl, g, e⟩ := h.hd
  rw [ss_cons (rowOf_mem hs.nnd hr), e]
theorem LeftOk.vars {s : Sg} {p : List PW} {held : List (Str × Str)} (hs : SgOk SO NA s) (h : LeftOk s p held) : vars p = held.map (·.1) := by
  rw [← ss_vars (h.gd hs), h.ss hs]
  unfold someL
  rw [List.map_map]; rfl
theorem left_ok {s : Sg} (hs : SgOk SO NA s) {M : Nat} (hM : M ≤ 7) {n : Nat} {ps : Pn} (g : Good n ps) (hn : n + 100 ≤ 990000) :
    ∃ (p : List PW) (held : List (Str × Str)) (ps' : Pn), f__law_left [.pen, dSg s, .int M] ps = .ok (.tup [dP false p, .lst (held.map dH)]) ps' ∧ LeftOk s p held ∧ Good (n + 100) ps' := by
  have hsl : s.syms.length < 900 := by have := hs.nlen; omega
  have hsne : s.syms ≠ [] := by
    obtain ⟨r, hr, _⟩ := hs.loop
    exact List.ne_nil_of_mem hr
  obtain ⟨d, ps1, e1, hd, g1⟩ := pickOk g (by omega) (xs := s.syms.map dRow) (by simpa using hsne) (by rw [List.length_map]; omega)
  obtain ⟨r, hr, rfl⟩ := List.mem_map.mp hd
  obtain ⟨ys, ps2, e2, p2, g2⟩ := mixedOk g1 (xs := dStrs VN) (by decide) (by show n + 1 + 12 ≤ _; omega)
  obtain ⟨na, rfl, pna⟩ := perm_inv (f := D.str) (g := unS) (fun _ => rfl) p2
  have g2' : Good (n + 1 + 12) ps2 := g2
  have hle := (hs.nm r hr).2.2.2
  let ρ0 : En := [.v .pen, .v (dSg s), .v (.int M), .un, .un, .un, .un, .un, .un, .un, .un, .un, .un, .un]
  let ρ1 : En := [.v .pen, .v (dSg s), .v (.int M), .v (dRow r), .un, .un, .un, .un, .un, .un, .un, .un, .un, .un]
  let ρ2 : En := [.v .pen, .v (dSg s), .v (.int M), .v (dRow r), .ol [.str r.1], .ol [], .ol (dStrs r.2.1).reverse, .un, .un, .un, .un, .un, .un, .un]
  have e9 : m__law_left_9 ρ0 ps = .nx ρ1 ps1 := sAsg_ok (eCall_ok (eCons_ok (eVar_ok rfl) (eCons_ok (eIdx_ok (eVar_ok rfl) eC_ok (dSg_pen s) (sg1 s)) eNil_ok)) e1) rfl
  have e10 : m__law_left_10 ρ1 ps1 = .nx ρ2 ps1 := by
    have a1 : eLst (eCons (eIdx (eVar 3) (eC (.int 0))) (eNil)) ρ1 ps1 = .ok [.str r.1] ρ1 ps1 := eLst_ok (eCons_ok (eIdx_ok (eVar_ok rfl) eC_ok (by unfold dRow; simp) (row0 r)) eNil_ok) (szle (by show 1 < 1000; decide))
    have a2 : eLst (eNil) ρ1 ps1 = .ok [] ρ1 ps1 := eLst_ok eNil_ok (Nat.zero_le _)
    have a3 : fRev (eFz (fList (eCons (eIdx (eVar 3) (eC (.int 1))) (eNil)))) ρ1 ps1 = .ok (dStrs r.2.1).reverse ρ1 ps1 := fRev_ok (eFz_ok (fList_ok (eIdx_ok (eVar_ok rfl) eC_ok (by unfold dRow; simp) (row1 r)) rfl))
    unfold m__law_left_10 sPar3 sBind iO bindE
    rw [a1]; dsimp only [pureE]; rw [a2]; dsimp only [pureE]; rw [a3]; rfl
  have ea : m__law_left_11 ρ2 ps1 = .nx (L14 s M (dRow r) [.w r.1] [] r.2.1 na .un .un .un) ps2 := by
    refine (sAsg_ok (ρ1 := ρ2) (ρ2 := [.v .pen, .v (dSg s), .v (.int M), .v (dRow r), .ol [.str r.1], .ol [], .ol (dStrs r.2.1).reverse, vS na, .un, .un, .un, .un, .un, .un]) (d := .lst (dStrs na)) (eCall_ok (eCons_ok (eVar_ok rfl) (eCons_ok (eFz_ok (eLst_ok (eCons_ok eC_ok (eCons_ok eC_ok (eCons_ok eC_ok (eCons_ok eC_ok (eCons_ok eC_ok (eCons_ok eC_ok (eCons_ok eC_ok (eCons_ok eC_ok (eCons_ok eC_ok (eCons_ok eC_ok (eCons_ok eC_ok (eCons_ok eC_ok eNil_ok)))))))))))) (szle (by show 12 < 1000; decide)))) eNil_ok)) e2) rfl).trans ?_
    have : (dStrs r.2.1).reverse = dStrs r.2.1.reverse := by unfold dStrs; rw [List.map_reverse]
    rw [this]; rfl
  obtain ⟨ws, held, t8, t9, t10, ps3, e12, q1, q2, q3, q4, q5⟩ := left_loop (fr := dRow r) hs pna hM ((List.range 24).map fun (k : Nat) => (0 : Int) + k) [.w r.1] [] r.2.1 .un .un .un (n + 1 + 12) ps2 (by rw [List.length_map, List.length_range]; rfl) (by show 1 + _ ≤ _; omega) (by show 0 < 1; decide) (fun h hh => (hs.nm r hr).2.1 h hh) rfl rfl rfl g2' (by rw [List.length_map, List.length_range]; omega)
  rw [List.length_map, List.length_range] at q5
  have eb : m__law_left_12 (L14 s M (dRow r) [.w r.1] [] r.2.1 na .un .un .un) ps2 = .nx (L14 s M (dRow r) (.w r.1 :: ws) held [] na t8 t9 t10) ps3 := by
    refine (sFor_ok (iRg1 (eCons_ok eC_ok eNil_ok) (i62_nat (n := 24) (by decide)))).trans ?_
    rw [show ((24 : Nat) : Int).toNat = 24 from rfl, rngL_ints]
    exact e12
  have ec : m__law_left_13 (L14 s M (dRow r) (.w r.1 :: ws) held [] na t8 t9 t10) ps3 = .rt (.tup [dP false (.w r.1 :: ws), .lst (held.map dH)]) ps3 := by
    let ρf : En := [.v .pen, .v (dSg s), .v (.int M), .v (dRow r), .ol ((PW.w r.1 :: ws).map (dW false)), .v (.lst (held.map dH)), .ol (dStrs ([] : List Str).reverse), vS na, t8, t9, t10, .un, .un, .un]
    refine sSeq_go (ρ' := ρf) (ps' := ps3) rfl (sRet_ok (ρ1 := ρf) (eTup_ok (eCons_ok (x := dP false (.w r.1 :: ws)) (ρ1 := ρf) (ps1 := ps3) rfl (eCons_ok (eVar_ok rfl) eNil_ok)) (szle (by show 2 < 1000; decide))))
  refine ⟨.w r.1 :: ws, held, ps3, runB0_rt (ρ := ρ0) rfl rfl (sSeq_go e9 (sSeq_go e10 (sSeq_go ea (sSeq_go eb ec)))), ⟨⟨r, ws, hr, rfl, q1, q2⟩, ?_, ?_, q4⟩, q5.mono (by omega)⟩
  · rw [q3]
    exact ((pna.nodup_iff.mpr VN_nd).sublist (List.drop_sublist ..)).sublist (List.take_sublist ..)
  · intro q hq
    have : q.1 ∈ held.map (·.1) := List.mem_map.mpr ⟨q, hq, rfl⟩
    rw [q3] at this
    exact pna.mem_iff.mp (List.mem_of_mem_drop (List.mem_of_mem_take this))

set_option maxHeartbeats 4000000
/-! a drawn right side: the parts -/
theorem ok_tup0 {k : Nat} {xs : List Str} (h : ∀ x ∈ xs, x ∈ WN) : okD (k + 2) (.tup (dStrs xs)) = true := by
  show okD (k + 1 + 1) (.tup _) = true
  rw [okD]
  refine okDL_of fun d hd => ?_
  obtain ⟨x, hx, rfl⟩ := List.mem_map.mp hd
  have := okS_WN x (h x hx)
  show okD (k + 1) (.str x) = true
  simp [okD, this]
theorem eq_tup0 {xs : List Str} (h : ∀ x ∈ xs, x ∈ WN) : eqD (.tup (dStrs xs)) (.tup []) = some (.bl xs.isEmpty) := by
  have h1 := ok_tup0 (k := 58) h
  have h2 : okD 60 (.tup []) = true := by simp [okD, okDL]
  unfold eqD
  rw [if_neg (show ¬ scD (.tup (dStrs xs)) (.tup []) = true by simp [scD]), if_pos ⟨h1, h2⟩]
  cases xs <;> simp [eqv, eqvL, dStrs]
theorem ne_tup0 {xs : List Str} (h : ∀ x ∈ xs, x ∈ WN) : neD (.tup (dStrs xs)) (.tup []) = some (.bl (!xs.isEmpty)) := by
  have h1 := ok_tup0 (k := 58) h
  have h2 : okD 60 (.tup []) = true := by simp [okD, okDL]
  unfold neD
  rw [if_neg (show ¬ scD (.tup (dStrs xs)) (.tup []) = true by simp [scD]), if_pos ⟨h1, h2⟩]
  cases xs <;> simp [eqv, eqvL, dStrs]
/-- the constants of a sort -/
def constsOf (s : Sg) (h : Str) : List Str := s.syms.filterMap fun r => if ((r.2.2 == h) && r.2.1.isEmpty) = true then some r.1 else none
theorem csMem {s : Sg} {h x : Str} (hx : x ∈ constsOf s h) : ∃ r ∈ s.syms, r.1 = x ∧ r.2.2 = h ∧ r.2.1 = [] := by
  obtain ⟨r, hr, e⟩ := List.mem_filterMap.mp hx
  by_cases z : ((r.2.2 == h) && r.2.1.isEmpty) = true
  · rw [if_pos z] at e
    rw [Bool.and_eq_true] at z
    exact ⟨r, hr, Option.some.inj e, by simpa using z.1, by simpa using z.2⟩
  · rw [if_neg z] at e; cases e
theorem consts_ne {s : Sg} (hs : SgOk SO NA s) {h : Str} (hh : h ∈ s.sorts) : constsOf s h ≠ [] := fun z => by
  obtain ⟨r, hr, e⟩ := hs.con h hh
  have : r.1 ∈ constsOf s h := List.mem_filterMap.mpr ⟨r, hr, by rw [e]; simp⟩
  rw [z] at this; cases this
/-- the variables of a sort that are not used yet -/
def minesOf (held : List (Str × Str)) (used : List Str) (h : Str) : List Str := held.filterMap fun q => if ((q.2 == h) && !decide (q.1 ∈ used)) = true then some q.1 else none
theorem mines_mem {held : List (Str × Str)} {used : List Str} {h x : Str} (hx : x ∈ minesOf held used h) : (x, h) ∈ held ∧ x ∉ used := by
  obtain ⟨q, hq, e⟩ := List.mem_filterMap.mp hx
  by_cases z : ((q.2 == h) && !decide (q.1 ∈ used)) = true
  · rw [if_pos z] at e
    rw [Bool.and_eq_true] at z
    have e2 : q.2 = h := by simpa using z.1
    have e1 : q.1 = x := Option.some.inj e
    subst e1 e2
    exact ⟨hq, by simpa using z.2⟩
  · rw [if_neg z] at e; cases e
abbrev G16 (s : Sg) (lf : D) (held : List (Str × Str)) (so sm : D) (t7 t9 : Slot) (rw : D) (used : List Str) (found : List PW) (t13 t15 : Slot) : En :=
  [.v .pen, .v (dSg s), .v lf, .v (.lst (held.map dH)), .v so, .v sm, .un, t7, .un, t9, .v rw, .ol (dStrs used), .ol (found.map (dW false)), t13, .un, t15]
theorem bool_if {α : Type} {b : Bool} {x y : α} {z : α} (h : b = true → x = z) (h' : b = false → y = z) : (if b = true then x else y) = z := by
  cases b
  · rw [if_neg (by decide)]; exact h' rfl
  · rw [if_pos rfl]; exact h rfl
section
variable {s : Sg} {lf so sm rw : D} {held : List (Str × Str)} {used : List Str} {found : List PW} {t9 t13 t15 : Slot} {ps : Pn} {a : Str}
theorem mine_ok (hl : held.length < 900) (h9 : isOwn t9 = false) (h13 : isOwn t13 = false) (h15 : isOwn t15 = false) :
    m__law_right_7 (G16 s lf held so sm (.v (.str a)) t9 rw used found t13 t15) ps = .nx (G16 s lf held so sm (.v (.str a)) t9 rw used found (vS (minesOf held used a)) t15) ps := by
  let ρ := G16 s lf held so sm (.v (.str a)) t9 rw used found t13 t15
  have hc : fComp (iSq (eVar 3)) (tTupT [tName 6, tName 14]) [6, 14] (bAnd (eB (eOp2 eqD (eVar 14) (eVar 7))) (bView [11, 12] (eB (eOp2 ninD (eVar 6) (eVar 11))))) (eVar 6) ρ ps = .ok (held.filterMap fun q => (if ((q.2 == a) && !decide (q.1 ∈ used)) = true then some q.1 else none).map D.str) ρ ps := by
    refine fComp_map dH _ held (by omega) (iSq_ok (eVar_ok rfl) rfl) (by rfl) (fun q hq => ?_) rfl
    let ρq : En := [.v .pen, .v (dSg s), .v lf, .v (.lst (held.map dH)), .v so, .v sm, .v (.str q.1), .v (.str a), .un, t9, .v rw, .ol (dStrs used), .ol (found.map (dW false)), t13, .v (.str q.2), t15]
    have ht1 : eB (eOp2 eqD (eVar 14) (eVar 7)) ρq ps = .ok (q.2 == a) ρq ps := eB_ok (eOp2_ok (eVar_ok rfl) (eVar_ok rfl) eq_str)
    have ht2 : bView [11, 12] (eB (eOp2 ninD (eVar 6) (eVar 11))) ρq ps = .ok (!decide (q.1 ∈ used)) ρq ps := by
      refine bView_ok ?_ (ρ1 := frzL [11, 12] ρq) (eB_ok (eOp2_ok (x := .str q.1) (y := .lst (dStrs used)) (eVar_ok rfl) (eVar_ok rfl) (nin_lst _ _)))
      show ([.v .pen, .v (dSg s), .v lf, .v (.lst (held.map dH)), .v so, .v sm, .v (.str q.1), .v (.str a), .un, t9, .v rw, .v (.lst (dStrs used)), .v (.lst (found.map (dW false))), t13, .v (.str q.2), t15] : En).all (fun s => !isOwn s) = true
      simp only [List.all_cons, List.all_nil, own_v, own_un, h9, h13, h15]; rfl
    have ht : bAnd (eB (eOp2 eqD (eVar 14) (eVar 7))) (bView [11, 12] (eB (eOp2 ninD (eVar 6) (eVar 11)))) ρq ps = .ok ((q.2 == a) && !decide (q.1 ∈ used)) ρq ps := by
      cases z : (q.2 == a) with
      | false => rw [z] at ht1; exact bAnd_f ht1
      | true => rw [z] at ht1; exact bAnd_go ht1 ht2
    cases z : ((q.2 == a) && !decide (q.1 ∈ used)) with
    | true =>
      rw [z] at ht
      exact ⟨ρq, ρq, ρq, rfl, ht, eVar_ok rfl, rfl⟩
    | false =>
      rw [z] at ht
      exact ⟨ρq, ρq, rfl, ht, rfl⟩
  unfold m__law_right_7 sSetC sBind
  rw [hc]; dsimp only
  rw [if_pos (by show 13 < 16; decide), ← map_filterMap]
  rfl
theorem fixed_ok (hg : SgG s) (hl : s.syms.length < 900) : m__law_right_8 (G16 s lf held so sm (.v (.str a)) t9 rw used found t13 t15) ps = .nx (G16 s lf held so sm (.v (.str a)) t9 rw used found t13 (vS (constsOf s a))) ps := by
  let ρ := G16 s lf held so sm (.v (.str a)) t9 rw used found t13 t15
  have hc : fComp (iSq (eIdx (eVar 1) (eC (.int 1)))) (tTupT [tName 6, tName 8, tName 14]) [6, 8, 14] (bAnd (eB (eOp2 eqD (eVar 14) (eVar 7))) (eB (eOp2 eqD (eVar 8) (eTup (eNil))))) (eVar 6) ρ ps = .ok (s.syms.filterMap fun r => (if ((r.2.2 == a) && r.2.1.isEmpty) = true then some r.1 else none).map D.str) ρ ps := by
    refine fComp_map dRow _ s.syms (by omega) (iSq_ok (eIdx_ok (eVar_ok rfl) eC_ok (dSg_pen s) (sg1 s)) rfl) (by rfl) (fun r hr => ?_) rfl
    let ρq : En := [.v .pen, .v (dSg s), .v lf, .v (.lst (held.map dH)), .v so, .v sm, .v (.str r.1), .v (.str a), .v (.tup (dStrs r.2.1)), t9, .v rw, .ol (dStrs used), .ol (found.map (dW false)), t13, .v (.str r.2.2), t15]
    have ht1 : eB (eOp2 eqD (eVar 14) (eVar 7)) ρq ps = .ok (r.2.2 == a) ρq ps := eB_ok (eOp2_ok (eVar_ok rfl) (eVar_ok rfl) eq_str)
    have ht2 : eB (eOp2 eqD (eVar 8) (eTup (eNil))) ρq ps = .ok r.2.1.isEmpty ρq ps := eB_ok (eOp2_ok (eVar_ok rfl) (eTup_ok eNil_ok (Nat.zero_le _)) (eq_tup0 fun x hx => so_WN hg ((hg.rows.ok r hr).2.1 x hx)))
    have ht : bAnd (eB (eOp2 eqD (eVar 14) (eVar 7))) (eB (eOp2 eqD (eVar 8) (eTup (eNil)))) ρq ps = .ok ((r.2.2 == a) && r.2.1.isEmpty) ρq ps := by
      cases z : (r.2.2 == a) with
      | false => rw [z] at ht1; exact bAnd_f ht1
      | true => rw [z] at ht1; exact bAnd_go ht1 ht2
    cases z : ((r.2.2 == a) && r.2.1.isEmpty) with
    | true =>
      rw [z] at ht
      exact ⟨ρq, ρq, ρq, rfl, ht, eVar_ok rfl, rfl⟩
    | false =>
      rw [z] at ht
      exact ⟨ρq, ρq, rfl, ht, rfl⟩
  unfold m__law_right_8 sSetC sBind
  rw [hc]; dsimp only
  rw [if_pos (by show 15 < 16; decide), ← map_filterMap]
  rfl
end
/-- the words behind a symbol fit its arguments -/
def am (s : Sg) (held : List (Str × Str)) : List Str → List PW → Prop
  | [], ws => ws = []
  | a :: as, .v x :: ws => (x, a) ∈ held ∧ am s held as ws
  | a :: as, .w c :: ws => (∃ r, rowOf s c = some r ∧ r.2.1 = [] ∧ r.2.2 = a) ∧ am s held as ws
  | _ :: _, [] => False
theorem am_gd {s : Sg} {held : List (Str × Str)} (hv : ∀ q ∈ held, q.1 ∈ VN) : ∀ {as : List Str} {ws : List PW}, am s held as ws → gd s ws (as.map some)
  | [], ws, h => by rw [show ws = [] from h]; rfl
  | a :: as, .v x :: ws, ⟨h1, h2⟩ => ⟨VN_WN (hv _ h1), am_gd hv h2⟩
  | a :: as, .w c :: ws, ⟨⟨r, h1, h3, h4⟩, h2⟩ => ⟨r, h1, by show (r.2.2 == a) = true; rw [h4]; exact beq_self_eq_true _, by rw [h3]; exact am_gd hv h2⟩
theorem am_ss {s : Sg} {held : List (Str × Str)} : ∀ {as : List Str} {ws : List PW}, am s held as ws → ∀ q ∈ ss s ws (as.map some), q ∈ someL held
  | [], ws, h, q, hq => by rw [show ws = [] from h] at hq; cases hq
  | a :: as, .v x :: ws, ⟨h1, h2⟩, q, hq => by
    rcases List.mem_cons.mp hq with rfl | hq
    · exact List.mem_map.mpr ⟨(x, a), h1, rfl⟩
    · exact am_ss h2 q hq
  | a :: as, .w c :: ws, ⟨⟨r, h1, h3, h4⟩, h2⟩, q, hq => by
    have e : ss s (.w c :: ws) (some a :: as.map some) = ss s ws (as.map some) := by
      show (match rowOf s c with | some r => ss s ws (r.2.1.map some ++ as.map some) | none => []) = _
      rw [h1]
      show ss s ws (r.2.1.map some ++ as.map some) = _
      rw [h3]; rfl
    have hq' : q ∈ ss s (.w c :: ws) (some a :: as.map some) := hq
    rw [e] at hq'
    exact am_ss h2 q hq'
theorem am_flat {s : Sg} {held : List (Str × Str)} : ∀ {as : List Str} {ws : List PW}, am s held as ws → ∀ w ∈ ws, flatW s w
  | [], ws, h, w, hw => by rw [show ws = [] from h] at hw; cases hw
  | a :: as, .v x :: ws, ⟨h1, h2⟩, w, hw => by
    rcases List.mem_cons.mp hw with rfl | hw
    · trivial
    · exact am_flat h2 w hw
  | a :: as, .w c :: ws, ⟨⟨r, h1, h3, h4⟩, h2⟩, w, hw => by
    rcases List.mem_cons.mp hw with rfl | hw
    · exact ⟨r, h1, h3⟩
    · exact am_flat h2 w hw
theorem am_vars {s : Sg} {held : List (Str × Str)} : ∀ {as : List Str} {ws : List PW}, am s held as ws → ∀ x ∈ vars ws, x ∈ held.map (·.1)
  | [], ws, h, x, hx => by rw [show ws = [] from h] at hx; cases hx
  | a :: as, .v y :: ws, ⟨h1, h2⟩, x, hx => by
    rcases List.mem_cons.mp (show x ∈ y :: vars ws from hx) with rfl | hx
    · exact List.mem_map.mpr ⟨_, h1, rfl⟩
    · exact am_vars h2 x hx
  | a :: as, .w c :: ws, ⟨_, h2⟩, x, hx => am_vars h2 x hx
theorem am_len {s : Sg} {held : List (Str × Str)} : ∀ {as : List Str} {ws : List PW}, am s held as ws → ws.length = as.length
  | [], ws, h => by rw [show ws = [] from h]; rfl
  | a :: as, .v y :: ws, ⟨_, h2⟩ => by rw [List.length_cons, List.length_cons, am_len h2]
  | a :: as, .w c :: ws, ⟨_, h2⟩ => by rw [List.length_cons, List.length_cons, am_len h2]

set_option maxHeartbeats 4000000
theorem atI_last (xs : List D) (y : D) : atI (xs ++ [y]) (-1) = some y := by
  unfold atI
  have hi : ixN (xs ++ [y]).length (-1) = some xs.length := by
    rw [List.length_append]
    show ixN (xs.length + 1) (-1) = _
    unfold ixN
    split <;> first | (congr 1; omega) | (exfalso; omega) | (split <;> first | (congr 1; omega) | (exfalso; omega))
  rw [hi]
  show (xs ++ [y])[xs.length]? = _
  rw [List.getElem?_append_right (Nat.le_refl _), Nat.sub_self]; rfl
section
variable {s : Sg} {lf so sm rw : D} {held : List (Str × Str)}
theorem right_step (hs : SgOk SO NA s) (hv : ∀ q ∈ held, q.1 ∈ VN) (hh : held.length < 900) {used : List Str} {found : List PW} {t7 t9 t13 t15 : Slot} {a : Str} (ha : a ∈ s.sorts) (h9 : isOwn t9 = false) (h13 : isOwn t13 = false) (h15 : isOwn t15 = false)
    (hu : used.length < 900) (hf : found.length < 900) {n : Nat} {ps : Pn} (g : Good n ps) (hn : n + 5 ≤ 1000000) :
    ∃ (w : PW) (us : List Str) (ps' : Pn) (t13' t15' : Slot), isOwn t13' = false ∧ isOwn t15' = false ∧ sSeq m__law_right_7 (sSeq m__law_right_8 m__law_right_9) (G16 s lf held so sm (.v (.str a)) t9 rw used found t13 t15) ps = .nx (G16 s lf held so sm (.v (.str a)) t9 rw (used ++ us) (found ++ [w]) t13' t15') ps' ∧ Good (n + 5) ps' ∧
      ((∃ x, w = .v x ∧ (x, a) ∈ held ∧ x ∉ used ∧ us = [x]) ∨ (∃ r, w = .w r.1 ∧ rowOf s r.1 = some r ∧ r.2.1 = [] ∧ r.2.2 = a ∧ us = [])) := by
  have hg := sgG hs
  have hsl : s.syms.length < 900 := by have := hs.nlen; omega
  let ρ := G16 s lf held so sm (.v (.str a)) t9 rw used found (vS (minesOf held used a)) (vS (constsOf s a))
  have e7 := mine_ok (s := s) (lf := lf) (so := so) (sm := sm) (rw := rw) (held := held) (used := used) (found := found) (t9 := t9) (t13 := t13) (t15 := t15) (ps := ps) (a := a) hh h9 h13 h15
  have e8 := fixed_ok (s := s) (lf := lf) (so := so) (sm := sm) (rw := rw) (held := held) (used := used) (found := found) (t9 := t9) (t13 := vS (minesOf held used a)) (t15 := t15) (ps := ps) (a := a) hg hsl
  have cne := consts_ne hs ha
  have cWN : ∀ x ∈ constsOf s a, x ∈ WN := fun x hx => by
    obtain ⟨r, hr, rfl, _⟩ := csMem hx
    exact (WN_na (hs.nm r hr).1).1
  have mWN : ∀ x ∈ minesOf held used a, x ∈ WN := fun x hx => VN_WN (hv _ (mines_mem hx).1)
  have cl : (constsOf s a).length < 1000 := by
    have : (constsOf s a).length ≤ s.syms.length := List.length_filterMap_le _ _
    omega
  have ml : (minesOf held used a).length < 1000 := by
    have : (minesOf held used a).length ≤ held.length := List.length_filterMap_le _ _
    omega
  have bm : ∀ ps, eB (eOp2 neD (eVar 13) (eFz (eLst (eNil)))) ρ ps = .ok (!(dStrs (minesOf held used a)).isEmpty) ρ ps := fun ps => eB_ok (eOp2_ok (x := .lst (dStrs (minesOf held used a))) (eVar_ok rfl) (eFz_ok (eLst_ok eNil_ok (Nat.zero_le _))) (ne_empty (okD_strs (k := 58) mWN)))
  have ce : (dStrs (constsOf s a)).isEmpty = false := by
    cases e : constsOf s a with
    | nil => exact absurd e cne
    | cons x y => rfl
  have bc : ∀ ps, eB (eOp2 eqD (eVar 15) (eFz (eLst (eNil)))) ρ ps = .ok false ρ ps := fun ps => eB_ok (eOp2_ok (x := .lst (dStrs (constsOf s a))) (eVar_ok rfl) (eFz_ok (eLst_ok eNil_ok (Nat.zero_le _))) (by rw [eq_empty (okD_strs (k := 58) cWN), ce]))
  have bc2 : ∀ ps, eB (eOp2 neD (eVar 15) (eFz (eLst (eNil)))) ρ ps = .ok true ρ ps := fun ps => eB_ok (eOp2_ok (x := .lst (dStrs (constsOf s a))) (eVar_ok rfl) (eFz_ok (eLst_ok eNil_ok (Nat.zero_le _))) (by rw [ne_empty (okD_strs (k := 58) cWN), ce]; rfl))
  -- a constant is put
  have vc : ∀ {k : Nat} {ps1 : Pn}, Good k ps1 → k ≤ n + 1 → bAnd (eB (eOp2 neD (eVar 13) (eFz (eLst (eNil))))) (bOr (eB (eOp2 eqD (eVar 15) (eFz (eLst (eNil))))) (eB (eOp2 gtD (eCall f__law_draw (eCons (eVar 0) (eCons (eC (.int 4)) (eNil)))) (eC (.int 0))))) ρ ps = .ok false ρ ps1 →
      ∃ (w : PW) (us : List Str) (ps' : Pn) (t13' t15' : Slot), isOwn t13' = false ∧ isOwn t15' = false ∧ sSeq m__law_right_7 (sSeq m__law_right_8 m__law_right_9) (G16 s lf held so sm (.v (.str a)) t9 rw used found t13 t15) ps = .nx (G16 s lf held so sm (.v (.str a)) t9 rw (used ++ us) (found ++ [w]) t13' t15') ps' ∧ Good (n + 5) ps' ∧
      ((∃ x, w = .v x ∧ (x, a) ∈ held ∧ x ∉ used ∧ us = [x]) ∨ (∃ r, w = .w r.1 ∧ rowOf s r.1 = some r ∧ r.2.1 = [] ∧ r.2.2 = a ∧ us = [])) := fun {k ps1} gk hk hb => by
    obtain ⟨x, ps2, ex, hx, g2⟩ := pickS gk (by omega) cne cl
    obtain ⟨r, hr, rfl, hr2, hr1⟩ := csMem hx
    refine ⟨.w r.1, [], ps2, vS (minesOf held used a), vS (constsOf s a), rfl, rfl, sSeq_go e7 (sSeq_go e8 (sIf_F hb (sIf_T (bc2 ps1) ?_))), g2.mono (by omega), .inr ⟨r, rfl, rowOf_mem hs.nnd hr, hr1, hr2, rfl⟩⟩
    refine (sApp_ok (i := 12) (ρ1 := ρ) (xs0 := found.map (dW false)) (xs := found.map (dW false)) (d := .str r.1) rfl (eCall_ok (eCons_ok (eVar_ok rfl) (eCons_ok (eVar_ok rfl) eNil_ok)) ex) rfl (by rw [List.length_map]; omega)).trans ?_
    show PL.SOut.nx [.v .pen, .v (dSg s), .v lf, .v (.lst (held.map dH)), .v so, .v sm, .un, .v (.str a), .un, t9, .v rw, .ol (dStrs used), .ol (found.map (dW false) ++ [.str r.1]), vS (minesOf held used a), .un, vS (constsOf s a)] ps2 = .nx [.v .pen, .v (dSg s), .v lf, .v (.lst (held.map dH)), .v so, .v sm, .un, .v (.str a), .un, t9, .v rw, .ol (dStrs (used ++ [])), .ol ((found ++ [PW.w r.1]).map (dW false)), vS (minesOf held used a), .un, vS (constsOf s a)] ps2
    rw [List.map_append, List.append_nil]; rfl
  by_cases hm : minesOf held used a = []
  · have b0 := bm ps
    rw [hm] at b0
    exact vc g (by omega) (bAnd_f b0)
  · have b1 := bm ps
    have me : (dStrs (minesOf held used a)).isEmpty = false := by
      cases e : minesOf held used a with
      | nil => exact absurd e hm
      | cons x y => rfl
    rw [me] at b1
    obtain ⟨k, ps1, e1, hk, g1⟩ := drawN g (by omega) (m := 4) (by decide) (by decide)
    have b3 : eB (eOp2 gtD (eCall f__law_draw (eCons (eVar 0) (eCons (eC (.int 4)) (eNil)))) (eC (.int 0))) ρ ps = .ok (decide ((0 : Int) < k)) ρ ps1 := eB_ok (eOp2_ok (eCall_ok (eCons_ok (eVar_ok rfl) (eCons_ok eC_ok eNil_ok)) e1) eC_ok gt_int)
    by_cases hk0 : (0 : Int) < k
    · rw [decide_eq_true hk0] at b3
      obtain ⟨x, ps2, ex, hx, g2⟩ := pickS g1 (by omega) hm ml
      obtain ⟨hx1, hx2⟩ := mines_mem hx
      refine ⟨.v x, [x], ps2, vS (minesOf held used a), vS (constsOf s a), rfl, rfl, sSeq_go e7 (sSeq_go e8 (sIf_T (bAnd_go b1 (bOr_go (bc ps) b3)) ?_)), g2.mono (by omega), .inl ⟨x, rfl, hx1, hx2, rfl⟩⟩
      let ρ2 : En := [.v .pen, .v (dSg s), .v lf, .v (.lst (held.map dH)), .v so, .v sm, .un, .v (.str a), .un, t9, .v rw, .ol (dStrs used ++ [.str x]), .ol (found.map (dW false)), vS (minesOf held used a), .un, vS (constsOf s a)]
      have e2 : m__law_right_2 ρ ps1 = .nx ρ2 ps2 := sApp_ok (i := 11) (ρ1 := ρ) (xs0 := dStrs used) (xs := dStrs used) (d := .str x) rfl (eCall_ok (eCons_ok (eVar_ok rfl) (eCons_ok (eVar_ok rfl) eNil_ok)) ex) rfl (by rw [dStrs_len]; omega)
      have last : eOix 11 (eOp1 negD (eC (.int 1))) ρ2 ps2 = .ok (.str x) ρ2 ps2 := by
        unfold eOix
        rw [if_pos (by rfl)]
        unfold bindE
        rw [show eOp1 negD (eC (.int 1)) ρ2 ps2 = .ok (.int (-1)) ρ2 ps2 from rfl]
        dsimp only
        show (match atI (dStrs used ++ [.str x]) (-1) with | some y => Out.ok y ρ2 ps2 | none => .stuck) = _
        rw [atI_last]
      refine sSeq_go e2 ?_
      refine (sApp_ok (i := 12) (ρ1 := ρ2) (xs0 := found.map (dW false)) (xs := found.map (dW false)) (d := .tup [.str x]) rfl (eTup_ok (eCons_ok last eNil_ok) (szle (by show 1 < 1000; decide))) rfl (by rw [List.length_map]; omega)).trans ?_
      show PL.SOut.nx [.v .pen, .v (dSg s), .v lf, .v (.lst (held.map dH)), .v so, .v sm, .un, .v (.str a), .un, t9, .v rw, .ol (dStrs used ++ [.str x]), .ol (found.map (dW false) ++ [.tup [.str x]]), vS (minesOf held used a), .un, vS (constsOf s a)] ps2 = .nx [.v .pen, .v (dSg s), .v lf, .v (.lst (held.map dH)), .v so, .v sm, .un, .v (.str a), .un, t9, .v rw, .ol (dStrs (used ++ [x])), .ol ((found ++ [PW.v x]).map (dW false)), vS (minesOf held used a), .un, vS (constsOf s a)] ps2
      have : dStrs (used ++ [x]) = dStrs used ++ [.str x] := by unfold dStrs; rw [List.map_append]; rfl
      rw [List.map_append, this]; rfl
    · rw [decide_eq_false hk0] at b3
      exact vc g1 (Nat.le_refl _) (bAnd_go b1 (bOr_go (bc ps) b3))
theorem right_loop (hs : SgOk SO NA s) (hv : ∀ q ∈ held, q.1 ∈ VN) (hh : held.length < 900) : ∀ (as : List Str) (used : List Str) (found : List PW) (t7 t9 t13 t15 : Slot) (n : Nat) (ps : Pn), (∀ a ∈ as, a ∈ s.sorts) → isOwn t9 = false → isOwn t13 = false → isOwn t15 = false → used.Nodup → used.length + as.length < 900 → found.length + as.length < 900 → Good n ps → n + 5 * as.length + 5 ≤ 1000000 →
    ∃ (ws : List PW) (us : List Str) (t7' t13' t15' : Slot) (ps' : Pn), forL (tName 7) (sSeq m__law_right_7 (sSeq m__law_right_8 m__law_right_9)) (dStrs as) (G16 s lf held so sm t7 t9 rw used found t13 t15) ps = .nx (G16 s lf held so sm t7' t9 rw (used ++ us) (found ++ ws) t13' t15') ps' ∧ am s held as ws ∧ us = vars ws ∧ (used ++ us).Nodup ∧ Good (n + 5 * as.length) ps'
  | [], used, found, t7, t9, t13, t15, n, ps, _, _, _, _, hn, _, _, g, _ => ⟨[], [], t7, t13, t15, ps, by rw [List.append_nil, List.append_nil]; rfl, rfl, rfl, by rw [List.append_nil]; exact hn, g⟩
  | a :: as, used, found, t7, t9, t13, t15, n, ps, ha, h9, h13, h15, hn, hu, hf, g, hz => by
    rw [List.length_cons] at hu hf hz
    obtain ⟨w, us1, ps1, t13', t15', o13, o15, e, g1, hc⟩ := right_step (lf := lf) (so := so) (sm := sm) (rw := rw) (t7 := t7) hs hv hh (used := used) (found := found) (ha a (List.mem_cons_self ..)) h9 h13 h15 (by omega) (by omega) g (by omega)
    have hlu : us1.length ≤ 1 := by rcases hc with ⟨x, _, _, _, rfl⟩ | ⟨r, _, _, _, _, rfl⟩ <;> simp
    have hnd : (used ++ us1).Nodup := by
      rcases hc with ⟨x, _, _, hx, rfl⟩ | ⟨r, _, _, _, _, rfl⟩
      · exact List.nodup_append.mpr ⟨hn, by simp, fun y hy z hz ez => by rw [List.mem_singleton] at hz; exact hx (by rw [← hz, ← ez]; exact hy)⟩
      · rw [List.append_nil]; exact hn
    obtain ⟨ws, us, t7', t13'', t15'', ps', e', q1, q2, q3, q4⟩ := right_loop hs hv hh as (used ++ us1) (found ++ [w]) (.v (.str a)) t9 t13' t15' (n + 5) ps1 (fun x hx => ha x (List.mem_cons_of_mem _ hx)) h9 o13 o15 hnd (by rw [List.length_append]; omega) (by rw [List.length_append]; show _ + 1 + _ < _; omega) g1 (by omega)
    have e3n : n + 5 + 5 * as.length = n + 5 * (as.length + 1) := by omega
    refine ⟨w :: ws, us1 ++ us, t7', t13'', t15'', ps', ?_, ?_, ?_, by rw [← List.append_assoc]; exact q3, by rw [List.length_cons, ← e3n]; exact q4⟩
    · refine (forL_nx (t := tName 7) (x := .str a) rfl e).trans (e'.trans ?_)
      rw [List.append_assoc, List.append_assoc]; rfl
    · rcases hc with ⟨x, rfl, hx, _, _⟩ | ⟨r, rfl, hr, h1, h2, _⟩
      · exact ⟨hx, q1⟩
      · exact ⟨⟨r, hr, h1, h2⟩, q1⟩
    · rcases hc with ⟨x, rfl, _, _, rfl⟩ | ⟨r, rfl, _, _, _, rfl⟩
      · rw [q2]; rfl
      · rw [q2]; rfl
end

set_option maxHeartbeats 4000000
/-- what a drawn right side keeps -/
structure RightOk (s : Sg) (p : List PW) (held : List (Str × Str)) (q : List PW) : Prop where
  gr : gd s q [none]
  rl : q.length ≤ 4
  ndr : (vars q).Nodup
  sub : ∀ x ∈ vars q, x ∈ held.map (·.1)
  srt : sortP s p q
  flat : ∀ w ∈ q.tail, flatW s w
  grow : p.length = 1 → ∃ c, q = [.w c]
section
variable {s : Sg} {p : List PW} {held : List (Str × Str)}
theorem right_const (hs : SgOk SO NA s) (hp : LeftOk s p held) {r : Row} {ws : List PW} (hr : r ∈ s.syms) (he : p = .w r.1 :: ws) {c : Str} (hc : c ∈ constsOf s r.2.2) : RightOk s p held [.w c] := by
  obtain ⟨rc, hrc, rfl, h2, h1⟩ := csMem hc
  have ec := rowOf_mem hs.nnd hrc
  refine ⟨gd_cons ec (by rw [h1]; rfl), by show 1 ≤ 4; decide, by exact List.nodup_nil, fun x hx => (by cases hx), ?_, fun w hw => (by cases hw), fun _ => ⟨_, rfl⟩⟩
  rw [he]
  refine ⟨⟨r, rc, rowOf_mem hs.nnd hr, ec, h2⟩, fun q hq => ?_⟩
  rw [ss_cons ec, h1] at hq
  cases hq
theorem right_var (hs : SgOk SO NA s) (hp : LeftOk s p held) {r : Row} {ws : List PW} (hr : r ∈ s.syms) (he : p = .w r.1 :: ws) {x : Str} (hx : (x, r.2.2) ∈ held) (h1 : p.length ≠ 1) : RightOk s p held [.v x] := by
  refine ⟨⟨VN_WN (hp.vn _ hx), rfl⟩, by show 1 ≤ 4; decide, List.nodup_cons.mpr ⟨fun z => (by cases z), List.nodup_nil⟩, fun y hy => ?_, ?_, fun w hw => (by cases hw), fun z => absurd z h1⟩
  · rw [show vars [.v x] = [x] from rfl, List.mem_singleton] at hy
    exact List.mem_map.mpr ⟨_, hx, hy.symm⟩
  · have hss := hp.ss hs
    rw [he] at hss ⊢
    refine ⟨r, rowOf_mem hs.nnd hr, ?_⟩
    rw [hss]
    exact List.mem_map.mpr ⟨(x, r.2.2), hx, rfl⟩
theorem right_wide (hs : SgOk SO NA s) (hp : LeftOk s p held) {r rw : Row} {ws vs : List PW} (hr : r ∈ s.syms) (he : p = .w r.1 :: ws) (hw : rw ∈ s.syms) (h2 : rw.2.2 = r.2.2) (ha : am s held rw.2.1 vs) (hn : (vars vs).Nodup) (h1 : p.length ≠ 1) : RightOk s p held (.w rw.1 :: vs) := by
  have ec := rowOf_mem hs.nnd hw
  have hl := am_len ha
  have hle := (hs.nm rw hw).2.2.2
  refine ⟨gd_cons ec (am_gd hp.vn ha), by rw [List.length_cons]; omega, hn, fun x hx => am_vars ha x hx, ?_, fun w hw => am_flat ha w hw, fun z => absurd z h1⟩
  have hss := hp.ss hs
  rw [he] at hss ⊢
  refine ⟨⟨r, rw, rowOf_mem hs.nnd hr, ec, h2⟩, fun q hq => ?_⟩
  rw [ss_cons ec] at hq
  rw [hss]
  exact am_ss ha q hq
end
def vhOf (held : List (Str × Str)) (h : Str) : List Str := held.filterMap fun q => if (q.2 == h) = true then some q.1 else none
theorem vh_mem {held : List (Str × Str)} {h x : Str} (hx : x ∈ vhOf held h) : (x, h) ∈ held := by
  obtain ⟨q, hq, e⟩ := List.mem_filterMap.mp hx
  by_cases z : (q.2 == h) = true
  · rw [if_pos z] at e
    have e2 : q.2 = h := by simpa using z
    have e1 : q.1 = x := Option.some.inj e
    subst e1 e2; exact hq
  · rw [if_neg z] at e; cases e
def widesOf (s : Sg) (h : Str) : List Row := s.syms.filter fun r => (r.2.2 == h) && !r.2.1.isEmpty
abbrev Q16 (s : Sg) (lf : D) (held : List (Str × Str)) (h : Str) (t5 t9 : Slot) : En := [.v .pen, .v (dSg s), .v lf, .v (.lst (held.map dH)), .v (.str h), t5, .un, .un, .un, t9, .un, .un, .un, .un, .un, .un]
def somes (s : Sg) (held : List (Str × Str)) (h : Str) : List (List PW) := (vhOf held h).map (fun x => [PW.v x]) ++ (constsOf s h).map (fun c => [PW.w c])
section
variable {s : Sg} {lf : D} {held : List (Str × Str)} {h : Str} {t5 t9 : Slot} {ps : Pn}
theorem held_comp (hl : held.length < 900) : fComp (iSq (eVar 3)) (tTupT [tName 6, tName 7]) [6, 7] (eB (eOp2 eqD (eVar 7) (eVar 4))) (eTup (eCons (eTup (eCons (eVar 6) (eNil))) (eNil))) (Q16 s lf held h t5 t9) ps = .ok ((vhOf held h).map fun x => dP false [.v x]) (Q16 s lf held h t5 t9) ps := by
  unfold vhOf
  rw [map_filterMap]
  refine fComp_map dH _ held (by omega) (iSq_ok (eVar_ok rfl) rfl) (by rfl) (fun q hq => ?_) rfl
  let ρq : En := [.v .pen, .v (dSg s), .v lf, .v (.lst (held.map dH)), .v (.str h), t5, .v (.str q.1), .v (.str q.2), .un, t9, .un, .un, .un, .un, .un, .un]
  have ht : eB (eOp2 eqD (eVar 7) (eVar 4)) ρq ps = .ok (q.2 == h) ρq ps := eB_ok (eOp2_ok (eVar_ok rfl) (eVar_ok rfl) eq_str)
  cases z : (q.2 == h) with
  | true =>
    rw [z] at ht
    exact ⟨ρq, ρq, ρq, rfl, ht, eTup_ok (eCons_ok (eTup_ok (eCons_ok (eVar_ok rfl) eNil_ok) (szle (by show 1 < 1000; decide))) eNil_ok) (szle (by show 1 < 1000; decide)), rfl⟩
  | false =>
    rw [z] at ht
    exact ⟨ρq, ρq, rfl, ht, rfl⟩
theorem const_comp (hg : SgG s) (hl : s.syms.length < 900) : fComp (iSq (eIdx (eVar 1) (eC (.int 1)))) (tTupT [tName 6, tName 8, tName 7]) [6, 8, 7] (bAnd (eB (eOp2 eqD (eVar 7) (eVar 4))) (eB (eOp2 eqD (eVar 8) (eTup (eNil))))) (eTup (eCons (eVar 6) (eNil))) (Q16 s lf held h t5 t9) ps = .ok ((constsOf s h).map fun c => dP false [.w c]) (Q16 s lf held h t5 t9) ps := by
  unfold constsOf
  rw [map_filterMap]
  refine fComp_map dRow _ s.syms (by omega) (iSq_ok (eIdx_ok (eVar_ok rfl) eC_ok (dSg_pen s) (sg1 s)) rfl) (by rfl) (fun r hr => ?_) rfl
  let ρq : En := [.v .pen, .v (dSg s), .v lf, .v (.lst (held.map dH)), .v (.str h), t5, .v (.str r.1), .v (.str r.2.2), .v (.tup (dStrs r.2.1)), t9, .un, .un, .un, .un, .un, .un]
  have ht1 : eB (eOp2 eqD (eVar 7) (eVar 4)) ρq ps = .ok (r.2.2 == h) ρq ps := eB_ok (eOp2_ok (eVar_ok rfl) (eVar_ok rfl) eq_str)
  have ht2 : eB (eOp2 eqD (eVar 8) (eTup (eNil))) ρq ps = .ok r.2.1.isEmpty ρq ps := eB_ok (eOp2_ok (eVar_ok rfl) (eTup_ok eNil_ok (Nat.zero_le _)) (eq_tup0 fun x hx => so_WN hg ((hg.rows.ok r hr).2.1 x hx)))
  have ht : bAnd (eB (eOp2 eqD (eVar 7) (eVar 4))) (eB (eOp2 eqD (eVar 8) (eTup (eNil)))) ρq ps = .ok ((r.2.2 == h) && r.2.1.isEmpty) ρq ps := by
    cases z : (r.2.2 == h) with
    | false => rw [z] at ht1; exact bAnd_f ht1
    | true => rw [z] at ht1; exact bAnd_go ht1 ht2
  cases z : ((r.2.2 == h) && r.2.1.isEmpty) with
  | true =>
    rw [z] at ht
    exact ⟨ρq, ρq, ρq, rfl, ht, eTup_ok (eCons_ok (eVar_ok rfl) eNil_ok) (szle (by show 1 < 1000; decide)), rfl⟩
  | false =>
    rw [z] at ht
    exact ⟨ρq, ρq, rfl, ht, rfl⟩
theorem filt_map {α β : Type} (f : α → Bool) (g : α → β) : ∀ xs : List α, (xs.filter f).map g = xs.filterMap fun x => if f x = true then some (g x) else none
  | [] => rfl
  | x :: xs => by
    by_cases z : f x = true
    · rw [List.filter_cons_of_pos z, List.map_cons, List.filterMap_cons_some (b := g x) (by rw [if_pos z]), filt_map f g xs]
    · rw [List.filter_cons_of_neg z, List.filterMap_cons_none (by rw [if_neg z]), filt_map f g xs]
theorem wide_comp (hg : SgG s) (hl : s.syms.length < 900) : m__law_right_13 (Q16 s lf held h t5 t9) ps = .nx (Q16 s lf held h t5 (.v (.lst ((widesOf s h).map dRow)))) ps := by
  have hc : fComp (iSq (eIdx (eVar 1) (eC (.int 1)))) (tName 10) [10] (bAnd (eB (eOp2 eqD (eIdx (eVar 10) (eC (.int 2))) (eVar 4))) (eB (eOp2 neD (eIdx (eVar 10) (eC (.int 1))) (eTup (eNil))))) (eVar 10) (Q16 s lf held h t5 t9) ps = .ok ((widesOf s h).map dRow) (Q16 s lf held h t5 t9) ps := by
    unfold widesOf
    rw [filt_map]
    refine fComp_map dRow _ s.syms (by omega) (iSq_ok (eIdx_ok (eVar_ok rfl) eC_ok (dSg_pen s) (sg1 s)) rfl) (by rfl) (fun r hr => ?_) rfl
    let ρq : En := [.v .pen, .v (dSg s), .v lf, .v (.lst (held.map dH)), .v (.str h), t5, .un, .un, .un, t9, .v (dRow r), .un, .un, .un, .un, .un]
    have ht1 : eB (eOp2 eqD (eIdx (eVar 10) (eC (.int 2))) (eVar 4)) ρq ps = .ok (r.2.2 == h) ρq ps := eB_ok (eOp2_ok (eIdx_ok (eVar_ok rfl) eC_ok (by unfold dRow; simp) (row2 r)) (eVar_ok rfl) eq_str)
    have ht2 : eB (eOp2 neD (eIdx (eVar 10) (eC (.int 1))) (eTup (eNil))) ρq ps = .ok (!r.2.1.isEmpty) ρq ps := eB_ok (eOp2_ok (eIdx_ok (eVar_ok rfl) eC_ok (by unfold dRow; simp) (row1 r)) (eTup_ok eNil_ok (Nat.zero_le _)) (ne_tup0 fun x hx => so_WN hg ((hg.rows.ok r hr).2.1 x hx)))
    have ht : bAnd (eB (eOp2 eqD (eIdx (eVar 10) (eC (.int 2))) (eVar 4))) (eB (eOp2 neD (eIdx (eVar 10) (eC (.int 1))) (eTup (eNil)))) ρq ps = .ok ((r.2.2 == h) && !r.2.1.isEmpty) ρq ps := by
      cases z : (r.2.2 == h) with
      | false => rw [z] at ht1; exact bAnd_f ht1
      | true => rw [z] at ht1; exact bAnd_go ht1 ht2
    cases z : ((r.2.2 == h) && !r.2.1.isEmpty) with
    | true =>
      rw [z] at ht
      exact ⟨ρq, ρq, ρq, rfl, ht, eVar_ok rfl, rfl⟩
    | false =>
      rw [z] at ht
      exact ⟨ρq, ρq, rfl, ht, rfl⟩
  unfold m__law_right_13 sSetC sBind
  rw [hc]; dsimp only
  rw [if_pos (by show 9 < 16; decide)]
  rfl
end
theorem okD_str {k : Nat} {x : Str} (h : x ∈ WN) : okD (k + 1) (.str x) = true := by
  have := okS_WN x h
  simp [okD, this]
theorem okD_tup {k : Nat} {xs : List D} (h : ∀ x ∈ xs, okD k x = true) : okD (k + 1) (.tup xs) = true := by
  rw [okD]; exact okDL_of h
theorem okD_lst {k : Nat} {xs : List D} (h : ∀ x ∈ xs, okD k x = true) : okD (k + 1) (.lst xs) = true := by
  rw [okD]; exact okDL_of h
theorem okD_row {s : Sg} (hg : SgG s) {r : Row} (hr : r ∈ s.syms) (k : Nat) : okD (k + 3) (dRow r) = true := by
  obtain ⟨h1, h2, h3, _⟩ := hg.rows.ok r hr
  refine okD_tup fun x hx => ?_
  simp only [List.mem_cons, List.not_mem_nil, or_false] at hx
  rcases hx with rfl | rfl | rfl
  · exact okD_str (k := k + 1) h1.1
  · exact ok_tup0 (k := k) fun a ha => so_WN hg (h2 a ha)
  · exact okD_str (k := k + 1) (so_WN hg h3)

set_option maxHeartbeats 4000000
section
variable {s : Sg} {p : List PW} {held : List (Str × Str)}
theorem right_ok (hs : SgOk SO NA s) (hp : LeftOk s p held) {n : Nat} {ps : Pn} (g : Good n ps) (hn : n + 30 ≤ 900000) :
    ∃ (q : List PW) (ps' : Pn), f__law_right [.pen, dSg s, dP false p, .lst (held.map dH)] ps = .ok (dP false q) ps' ∧ RightOk s p held q ∧ Good (n + 30) ps' := by
  have hg := sgG hs
  have hsl : s.syms.length < 900 := by have := hs.nlen; omega
  obtain ⟨r, ws, hr, he, gws, sws⟩ := hp.hd
  have hpl := hp.len
  have hn16 := hs.nlen
  have hh10 : held.length ≤ 10 := by
    have h1 := congrArg List.length (hp.vars hs)
    rw [List.length_map] at h1
    have := vars_len p
    omega
  have hh : held.length < 900 := by omega
  have h := r.2.2
  have hso := (hs.nm r hr).2.2.1
  have cne := consts_ne hs hso
  have cl : (constsOf s r.2.2).length ≤ s.syms.length := List.length_filterMap_le _ _
  have vl : (vhOf held r.2.2).length ≤ held.length := List.length_filterMap_le _ _
  let lf := dP false p
  let ρ0 : En := [.v .pen, .v (dSg s), .v lf, .v (.lst (held.map dH)), .un, .un, .un, .un, .un, .un, .un, .un, .un, .un, .un, .un]
  have l0 : eIdx (eVar 2) (eC (.int 0)) ρ0 ps = .ok (.str r.1) ρ0 ps := eIdx_ok (eVar_ok (d := lf) rfl) eC_ok (sq_pen false _) (by show idxD (dP false p) _ = _; unfold dP; rw [he]; exact ix0_sq false)
  have e10 : m__law_right_10 ρ0 ps = .nx (Q16 s lf held r.2.2 .un .un) ps := sAsg_ok (ρ1 := ρ0) (d := .str r.2.2) (eIdx_ok (eCall_ok (eCons_ok (eVar_ok rfl) (eCons_ok l0 eNil_ok)) (symbol_ok hsl (rowOf_mem hs.nnd hr) ps)) eC_ok (by unfold dRow; simp) (row2 r)) rfl
  let sm : D := .lst ((somes s held r.2.2).map (dP false))
  have smne : (somes s held r.2.2).map (dP false) ≠ [] := fun z => by
    unfold somes at z
    rw [List.map_append, List.append_eq_nil_iff] at z
    have := z.2
    rw [List.map_map, List.map_eq_nil_iff] at this
    exact cne this
  have e11 : m__law_right_11 (Q16 s lf held r.2.2 .un .un) ps = .nx (Q16 s lf held r.2.2 (.v sm) .un) ps := by
    refine sAsg_ok (ρ1 := Q16 s lf held r.2.2 .un .un) (d := sm) ?_ rfl
    have hm : (somes s held r.2.2).map (dP false) = ((vhOf held r.2.2).map fun x => dP false [.v x]) ++ ((constsOf s r.2.2).map fun c => dP false [.w c]) := by
      unfold somes
      rw [List.map_append, List.map_map, List.map_map]; rfl
    show _ = Out.ok (D.lst ((somes s held r.2.2).map (dP false))) _ _
    rw [hm]
    exact eFz_ok (fCat_ok (eFz_ok (held_comp hh)) (eFz_ok (const_comp hg hsl)) (szle (by rw [List.length_map, List.length_map]; omega)))
  let ρ2 := Q16 s lf held r.2.2 (.v sm) .un
  have b12 : eB (eOp2 eqD (eOpN lenD (eCons (eVar 2) eNil)) (eC (.int 1))) ρ2 ps = .ok (decide ((p.length : Int) = 1)) ρ2 ps := eB_ok (eOp2_ok (eOpN_ok (x := [lf]) (eCons_ok (eVar_ok rfl) eNil_ok) (by show lenD [dP false p] = some (.int p.length); unfold dP; rw [len_sq, List.length_map])) eC_ok eq_int)
  by_cases h1 : p.length = 1
  · rw [decide_eq_true (by omega)] at b12
    obtain ⟨d, ps1, ed, hd, g1⟩ := pickOk g (by omega) (xs := (constsOf s r.2.2).map fun c => dP false [.w c]) (by simpa using cne) (by rw [List.length_map]; omega)
    obtain ⟨c, hc, rfl⟩ := List.mem_map.mp hd
    refine ⟨[.w c], ps1, runB0_rt (ρ := ρ0) rfl rfl (sSeq_go e10 (sSeq_go e11 (sSeq_rt (sIf_T b12 (sRet_ok (eCall_ok (eCons_ok (eVar_ok rfl) (eCons_ok (eFz_ok (const_comp hg hsl)) eNil_ok)) ed)))))), right_const hs hp hr he hc, g1.mono (by omega)⟩
  · rw [decide_eq_false (by omega)] at b12
    have e12 : m__law_right_12 ρ2 ps = .nx ρ2 ps := sIf_F b12 rfl
    have e13 : m__law_right_13 ρ2 ps = .nx (Q16 s lf held r.2.2 (.v sm) (.v (.lst ((widesOf s r.2.2).map dRow)))) ps := wide_comp hg hsl
    let ρ3 := Q16 s lf held r.2.2 (.v sm) (.v (.lst ((widesOf s r.2.2).map dRow)))
    have wok : okD 60 (.lst ((widesOf s r.2.2).map dRow)) = true := okD_lst (k := 59) fun d hd => by
      obtain ⟨q, hq, rfl⟩ := List.mem_map.mp hd
      exact okD_row hg (List.mem_filter.mp hq).1 56
    have b1 : eB (eOp2 eqD (eVar 9) (eFz (eLst (eNil)))) ρ3 ps = .ok ((widesOf s r.2.2).map dRow).isEmpty ρ3 ps := eB_ok (eOp2_ok (x := .lst ((widesOf s r.2.2).map dRow)) (eVar_ok rfl) (eFz_ok (eLst_ok eNil_ok (Nat.zero_le _))) (eq_empty wok))
    -- one of some
    have some_case : ∀ {k : Nat} {ps1 : Pn}, Good k ps1 → k ≤ n + 1 → bOr (eB (eOp2 eqD (eVar 9) (eFz (eLst (eNil))))) (bAnd (eB (eOp2 neD (eVar 5) (eFz (eLst (eNil))))) (eB (eOp2 eqD (eCall f__law_draw (eCons (eVar 0) (eCons (eC (.int 3)) (eNil)))) (eC (.int 0))))) ρ3 ps = .ok true ρ3 ps1 →
        ∃ (q : List PW) (ps' : Pn), f__law_right [.pen, dSg s, dP false p, .lst (held.map dH)] ps = .ok (dP false q) ps' ∧ RightOk s p held q ∧ Good (n + 30) ps' := fun {k ps1} gk hk hb => by
      obtain ⟨d, ps2, ed, hd, g2⟩ := pickOk gk (by omega) (xs := (somes s held r.2.2).map (dP false)) smne (by
        unfold somes
        rw [List.length_map, List.length_append, List.length_map, List.length_map]; omega)
      obtain ⟨q, hq, rfl⟩ := List.mem_map.mp hd
      refine ⟨q, ps2, runB0_rt (ρ := ρ0) rfl rfl (sSeq_go e10 (sSeq_go e11 (sSeq_go e12 (sSeq_go e13 (sSeq_rt (sIf_T hb (sRet_ok (eCall_ok (eCons_ok (eVar_ok rfl) (eCons_ok (eVar_ok rfl) eNil_ok)) ed)))))))), ?_, g2.mono (by omega)⟩
      rcases List.mem_append.mp hq with hq | hq
      · obtain ⟨x, hx, rfl⟩ := List.mem_map.mp hq
        exact right_var hs hp hr he (vh_mem hx) h1
      · obtain ⟨c, hc, rfl⟩ := List.mem_map.mp hq
        exact right_const hs hp hr he hc
    -- a wide one
    have wide_case : ∀ {k : Nat} {ps1 : Pn}, Good k ps1 → k ≤ n + 1 → widesOf s r.2.2 ≠ [] → bOr (eB (eOp2 eqD (eVar 9) (eFz (eLst (eNil))))) (bAnd (eB (eOp2 neD (eVar 5) (eFz (eLst (eNil))))) (eB (eOp2 eqD (eCall f__law_draw (eCons (eVar 0) (eCons (eC (.int 3)) (eNil)))) (eC (.int 0))))) ρ3 ps = .ok false ρ3 ps1 →
        ∃ (q : List PW) (ps' : Pn), f__law_right [.pen, dSg s, dP false p, .lst (held.map dH)] ps = .ok (dP false q) ps' ∧ RightOk s p held q ∧ Good (n + 30) ps' := fun {k ps1} gk hk hw hb => by
      have e14 : m__law_right_14 ρ3 ps = .nx ρ3 ps1 := sIf_F hb rfl
      obtain ⟨d, ps2, ed, hd, g2⟩ := pickOk gk (by omega) (xs := (widesOf s r.2.2).map dRow) (by simpa using hw) (by
        rw [List.length_map]
        have : (widesOf s r.2.2).length ≤ s.syms.length := List.length_filter_le _ _
        omega)
      obtain ⟨rw, hrw, rfl⟩ := List.mem_map.mp hd
      obtain ⟨hrm, hrc⟩ := List.mem_filter.mp hrw
      rw [Bool.and_eq_true] at hrc
      have hle := (hs.nm rw hrm).2.2.2
      let wd : D := .lst ((widesOf s r.2.2).map dRow)
      let ρ4 : En := [.v .pen, .v (dSg s), .v lf, .v (.lst (held.map dH)), .v (.str r.2.2), .v sm, .un, .un, .un, .v wd, .v (dRow rw), .ol [], .un, .un, .un, .un]
      have e15 : m__law_right_15 ρ3 ps1 = .nx ρ4 ps2 := by
        have a1 : eCall f__law_pick (eCons (eVar 0) (eCons (eVar 9) (eNil))) ρ3 ps1 = .ok (dRow rw) ρ3 ps2 := eCall_ok (eCons_ok (eVar_ok rfl) (eCons_ok (eVar_ok rfl) eNil_ok)) ed
        have a2 : eLst (eNil) ρ3 ps2 = .ok [] ρ3 ps2 := eLst_ok eNil_ok (Nat.zero_le _)
        unfold m__law_right_15 sPar2 sBind iV iO bindE
        rw [a1]; dsimp only [pureE]; rw [a2]; rfl
      have e16 : m__law_right_16 ρ4 ps2 = .nx (G16 s lf held (.str r.2.2) sm .un (.v wd) (dRow rw) [] [.w rw.1] .un .un) ps2 := by
        exact sOwnS_ok (ρ1 := ρ4) (ds := [.str rw.1]) (eLst_ok (eCons_ok (eIdx_ok (eVar_ok (i := 10) rfl) eC_ok (by unfold dRow; simp) (row0 rw)) eNil_ok) (szle (by show 1 < 1000; decide))) (by show 12 < 16; decide)
      obtain ⟨vs, us, t7, t13, t15, ps3, e17, q1, q2, q3, q4⟩ := right_loop (lf := lf) (so := .str r.2.2) (sm := sm) (rw := dRow rw) hs hp.vn hh rw.2.1 [] [.w rw.1] .un (.v wd) .un .un (k + 1) ps2 (hs.nm rw hrm).2.1 rfl rfl rfl List.nodup_nil (by show 0 + _ < _; omega) (by show 1 + _ < _; omega) g2 (by omega)
      rw [List.nil_append] at q3
      subst q2
      have e17' : m__law_right_17 (G16 s lf held (.str r.2.2) sm .un (.v wd) (dRow rw) [] [.w rw.1] .un .un) ps2 = .nx (G16 s lf held (.str r.2.2) sm t7 (.v wd) (dRow rw) ([] ++ vars vs) ([.w rw.1] ++ vs) t13 t15) ps3 := by
        refine (sFor_ok (items := dStrs rw.2.1) (ρ1 := G16 s lf held (.str r.2.2) sm .un (.v wd) (dRow rw) [] [.w rw.1] .un .un) (ps1 := ps2) (iSq_ok (x := .tup (dStrs rw.2.1)) (eIdx_ok (eVar_ok (i := 10) rfl) eC_ok (by unfold dRow; simp) (row1 rw)) rfl)).trans e17
      refine ⟨.w rw.1 :: vs, ps3, runB0_rt (ρ := ρ0) rfl rfl (sSeq_go e10 (sSeq_go e11 (sSeq_go e12 (sSeq_go e13 (sSeq_go e14 (sSeq_go e15 (sSeq_go e16 (sSeq_go e17' ?_)))))))), right_wide hs hp hr he hrm (by simpa using hrc.1) q1 q3 h1, q4.mono (by omega)⟩
      exact sRet_ok (ρ1 := G16 s lf held (.str r.2.2) sm t7 (.v wd) (dRow rw) ([] ++ vars vs) ([.w rw.1] ++ vs) t13 t15) rfl
    cases hwe : widesOf s r.2.2 with
    | nil =>
      rw [hwe] at b1
      exact some_case g (by omega) (bOr_t b1)
    | cons w0 wr =>
      have hwne : widesOf s r.2.2 ≠ [] := by rw [hwe]; intro z; cases z
      have b1' : eB (eOp2 eqD (eVar 9) (eFz (eLst (eNil)))) ρ3 ps = .ok false ρ3 ps := by
        rw [b1, hwe]; rfl
      have sok : okD 60 sm = true := okD_lst (k := 59) fun d hd => by
        obtain ⟨q, hq, rfl⟩ := List.mem_map.mp hd
        rcases List.mem_append.mp hq with hq | hq
        · obtain ⟨x, hx, rfl⟩ := List.mem_map.mp hq
          refine okD_tup (k := 58) fun y hy => ?_
          rw [show ([PW.v x].map (dW false)) = [.tup [.str x]] from rfl, List.mem_singleton] at hy
          subst hy
          refine okD_tup (k := 57) fun z hz => ?_
          rw [List.mem_singleton] at hz
          subst hz
          exact okD_str (k := 56) (VN_WN (hp.vn _ (vh_mem hx)))
        · obtain ⟨c, hc, rfl⟩ := List.mem_map.mp hq
          refine okD_tup (k := 58) fun y hy => ?_
          rw [show ([PW.w c].map (dW false)) = [.str c] from rfl, List.mem_singleton] at hy
          subst hy
          obtain ⟨rc, hrc, rfl, _⟩ := csMem hc
          exact okD_str (k := 57) (WN_na (hs.nm rc hrc).1).1
      have b2 : eB (eOp2 neD (eVar 5) (eFz (eLst (eNil)))) ρ3 ps = .ok true ρ3 ps := by
        refine eB_ok (eOp2_ok (x := sm) (eVar_ok rfl) (eFz_ok (eLst_ok eNil_ok (Nat.zero_le _))) ?_)
        rw [ne_empty sok]
        cases e : (somes s held r.2.2).map (dP false) with
        | nil => exact absurd e smne
        | cons x y => rfl
      obtain ⟨k, ps1, e1, hk, g1⟩ := drawN g (by omega) (m := 3) (by decide) (by decide)
      have b3 : eB (eOp2 eqD (eCall f__law_draw (eCons (eVar 0) (eCons (eC (.int 3)) (eNil)))) (eC (.int 0))) ρ3 ps = .ok (decide ((k : Int) = 0)) ρ3 ps1 := eB_ok (eOp2_ok (eCall_ok (eCons_ok (eVar_ok rfl) (eCons_ok eC_ok eNil_ok)) e1) eC_ok eq_int)
      by_cases hk0 : (k : Int) = 0
      · rw [decide_eq_true hk0] at b3
        exact some_case g1 (Nat.le_refl _) (bOr_go b1' (bAnd_go b2 b3))
      · rw [decide_eq_false hk0] at b3
        exact wide_case g1 (Nat.le_refl _) hwne (bOr_go b1' (bAnd_go b2 b3))
end

set_option maxHeartbeats 4000000
def baseL : List Str := ["one", "r", "abcdefgh", "t"]
def nameF (b : Str) (k : Nat) : Option D := (slSD none (some 6) (.str b)).bind fun x => (idxD (.str "abcdefgh") (.int k)).bind fun y => addD x y
theorem name_at : ∀ k, k < 5 → ∀ i, i < 4 → nameF (baseL.getD i "") k = some (.str (RN.getD (4 * k + i) "")) := by
  intro k hk i hi
  have h1 : k = 0 ∨ k = 1 ∨ k = 2 ∨ k = 3 ∨ k = 4 := by omega
  have h2 : i = 0 ∨ i = 1 ∨ i = 2 ∨ i = 3 := by omega
  rcases h1 with rfl | rfl | rfl | rfl | rfl <;> rcases h2 with rfl | rfl | rfl | rfl <;> kernel_rfl
theorem name_new : ∀ k, k < 5 → ∀ i, i < 4 → RN.getD (4 * k + i) "" ∉ RN.take (4 * k) ∧ RN.getD (4 * k + i) "" ∈ RN.take (4 * (k + 1)) := by decide +kernel
theorem take_sub : ∀ k, k < 5 → ∀ x ∈ RN.take (4 * k), x ∈ RN.take (4 * (k + 1)) := by decide +kernel
theorem RN_WN {x : Str} (h : x ∈ RN) : x ∈ WN := List.mem_append_right _ (List.mem_append_right _ (List.mem_cons_of_mem _ (List.mem_append_right _ (List.mem_append_right _ h))))
theorem base_ix {b : Str} (h : b ∈ baseL) : ∃ i, i < 4 ∧ b = baseL.getD i "" := by
  simp only [baseL, List.mem_cons, List.not_mem_nil, or_false] at h
  rcases h with rfl | rfl | rfl | rfl
  · exact ⟨0, by decide, rfl⟩
  · exact ⟨1, by decide, rfl⟩
  · exact ⟨2, by decide, rfl⟩
  · exact ⟨3, by decide, rfl⟩
theorem rule_of {s : Sg} (hs : SgOk SO NA s) {p q : List PW} {held : List (Str × Str)} (hp : LeftOk s p held) (hq : RightOk s p held q) {x : Str} (hx : x ∈ WN) : RuleOk s ⟨x, p, q⟩ := by
  obtain ⟨r, ws, hr, he, _⟩ := hp.hd
  have hv := hp.vars hs
  exact ⟨hx, ⟨r.1, ws, he⟩, hp.gd hs, by have := hp.len; show p.length ≤ 24; omega, hq.gr, by have := hq.rl; show q.length ≤ 24; omega, by show (vars p).Nodup; rw [hv]; exact hp.nd, hq.ndr, fun y hy => by show y ∈ vars p; rw [hv]; exact hq.sub y hy, hq.srt, hq.flat, hq.grow⟩
/-- a rule of drawn ones: its left side's variables are of VN -/
structure DrawnR (s : Sg) (r : Rul) : Prop where
  ok : RuleOk s r
  vn : ∀ x ∈ vars r.left, x ∈ VN
  len : r.left.length ≤ 10 ∧ r.right.length ≤ 4
abbrev W9 (s : Sg) (rs : List Rul) (t5 t6 t7 t8 : Slot) : En := [.v .pen, .v (dSg s), .v (.int 5), .v (.int 7), .ol (rs.map (dR false)), t5, t6, t7, t8]
section
variable {s : Sg}
theorem rules_loop (hs : SgOk SO NA s) : ∀ (m k : Nat) (rs : List Rul) (t5 t6 t7 t8 : Slot) (n : Nat) (ps : Pn), k + m = 5 → rs.length = k → (∀ r ∈ rs, DrawnR s r) → (rs.map (·.name)).Nodup → (∀ r ∈ rs, r.name ∈ RN.take (4 * k)) → Good n ps → n + 150 * m ≤ 800000 →
    ∃ (rs' : List Rul) (t5' t6' t7' t8' : Slot) (ps' : Pn), forL (tName 5) (sSeq m__law_rules_1 (sSeq m__law_rules_2 m__law_rules_3)) ((List.range' k m).map fun (j : Nat) => D.int j) (W9 s rs t5 t6 t7 t8) ps = .nx (W9 s rs' t5' t6' t7' t8') ps' ∧
      rs'.length = 5 ∧ (∀ r ∈ rs', DrawnR s r) ∧ (rs'.map (·.name)).Nodup ∧ (∀ r ∈ rs', r.name ∈ RN) ∧ Good (n + 150 * m) ps'
  | 0, k, rs, t5, t6, t7, t8, n, ps, hk, hl, h1, h2, h3, g, hn => ⟨rs, t5, t6, t7, t8, ps, rfl, by omega, h1, h2, fun r hr => List.mem_of_mem_take (h3 r hr), g⟩
  | m + 1, k, rs, t5, t6, t7, t8, n, ps, hk, hl, h1, h2, h3, g, hn => by
    have hk5 : k < 5 := by omega
    let ρ0 := W9 s rs (.v (.int k)) t6 t7 t8
    obtain ⟨j, ps1, e1, hj, g1⟩ := drawN g (by omega) (m := 7) (by decide) (by decide)
    obtain ⟨p, held, ps2, e2, hp, g2⟩ := left_ok hs (M := 1 + j) (by omega) g1 (by omega)
    obtain ⟨q, ps3, e3, hq, g3⟩ := right_ok hs hp g2 (by omega)
    obtain ⟨b, ps4, e4, hb, g4⟩ := pickS g3 (by omega) (xs := baseL) (by decide) (by decide)
    obtain ⟨i, hi, rfl⟩ := base_ix hb
    have hname := name_at k hk5 i hi
    obtain ⟨hnew, hin⟩ := name_new k hk5 i hi
    generalize hx : RN.getD (4 * k + i) "" = x at hname hnew hin
    let ρ1 := W9 s rs (.v (.int k)) (.v (dP false p)) (.v (.lst (held.map dH))) t8
    have a1 : m__law_rules_1 ρ0 ps = .nx ρ1 ps2 := by
      refine sAsg_ok (ρ1 := ρ0) (d := .tup [dP false p, .lst (held.map dH)]) (eCall_ok (eCons_ok (eVar_ok rfl) (eCons_ok (eVar_ok rfl) (eCons_ok (x := .int ((1 + j : Nat) : Int)) (eOp2_ok eC_ok (eCall_ok (eCons_ok (eVar_ok rfl) (eCons_ok (eVar_ok rfl) eNil_ok)) e1) ?_) eNil_ok))) e2) rfl
      rw [add_int]; congr 2
    let ρ2 := W9 s rs (.v (.int k)) (.v (dP false p)) (.v (.lst (held.map dH))) (.v (dP false q))
    have a2 : m__law_rules_2 ρ1 ps2 = .nx ρ2 ps3 := sAsg_ok (ρ1 := ρ1) (d := dP false q) (eCall_ok (eCons_ok (eVar_ok rfl) (eCons_ok (eVar_ok rfl) (eCons_ok (eVar_ok rfl) (eCons_ok (eVar_ok rfl) eNil_ok)))) e3) rfl
    have a3 : m__law_rules_3 ρ2 ps3 = .nx (W9 s (rs ++ [⟨x, p, q⟩]) (.v (.int k)) (.v (dP false p)) (.v (.lst (held.map dH))) (.v (dP false q))) ps4 := by
      refine sIf_T (eB_ok (eOp2_ok (eVar_ok rfl) eC_ok rfl)) ?_
      have hpk : eCall f__law_pick (eCons (eVar 0) (eCons (eFz (eLst (eCons (eC (.str "one")) (eCons (eC (.str "r")) (eCons (eC (.str "abcdefgh")) (eCons (eC (.str "t")) (eNil))))))) (eNil))) ρ2 ps3 = .ok (.str (baseL.getD i "")) ρ2 ps4 :=
        eCall_ok (eCons_ok (eVar_ok rfl) (eCons_ok (eFz_ok (eLst_ok (eCons_ok eC_ok (eCons_ok eC_ok (eCons_ok eC_ok (eCons_ok eC_ok eNil_ok)))) (szle (by show 4 < 1000; decide)))) eNil_ok)) e4
      obtain ⟨y1, hy1, hy2⟩ := Option.bind_eq_some_iff.mp hname
      obtain ⟨y2, hy3, hy4⟩ := Option.bind_eq_some_iff.mp hy2
      have hsl : eSlS (eCall f__law_pick (eCons (eVar 0) (eCons (eFz (eLst (eCons (eC (.str "one")) (eCons (eC (.str "r")) (eCons (eC (.str "abcdefgh")) (eCons (eC (.str "t")) (eNil))))))) (eNil)))) (oNone) (oSome (eC (.int 6))) ρ2 ps3 = .ok y1 ρ2 ps4 := by
        unfold eSlS bindE
        rw [hpk]; dsimp only
        rw [show oNone ρ2 ps4 = .ok none ρ2 ps4 from rfl]; dsimp only
        rw [show oSome (eC (.int 6)) ρ2 ps4 = .ok (some 6) ρ2 ps4 from rfl]; dsimp only
        rw [hy1]; rfl
      refine (sApp_ok (ρ1 := ρ2) (xs0 := rs.map (dR false)) (xs := rs.map (dR false)) (d := dR false ⟨x, p, q⟩) rfl (eTup_ok (eCons_ok (eOp2_ok hsl (eIdx_ok eC_ok (eVar_ok (i := 5) rfl) (by intro z; cases z) hy3) hy4) (eCons_ok (eVar_ok (i := 6) rfl) (eCons_ok (eVar_ok (i := 8) rfl) eNil_ok))) (szle (by show 3 < 1000; decide))) rfl (by rw [List.length_map]; omega)).trans ?_
      show PL.SOut.nx [.v .pen, .v (dSg s), .v (.int 5), .v (.int 7), .ol (rs.map (dR false) ++ [dR false ⟨x, p, q⟩]), .v (.int k), .v (dP false p), .v (.lst (held.map dH)), .v (dP false q)] ps4 = .nx [.v .pen, .v (dSg s), .v (.int 5), .v (.int 7), .ol ((rs ++ [(⟨x, p, q⟩ : Rul)]).map (dR false)), .v (.int k), .v (dP false p), .v (.lst (held.map dH)), .v (dP false q)] ps4
      rw [List.map_append (l₁ := rs)]; rfl
    have hxw : x ∈ WN := RN_WN (List.mem_of_mem_take hin)
    obtain ⟨rs', t5', t6', t7', t8', ps', e, q1, q2, q3, q4, q5⟩ := rules_loop hs m (k + 1) (rs ++ [⟨x, p, q⟩]) (.v (.int k)) (.v (dP false p)) (.v (.lst (held.map dH))) (.v (dP false q)) (n + 150) ps4 (by omega) (by rw [List.length_append, hl]; rfl)
      (fun r hr => by
        rcases List.mem_append.mp hr with hr | hr
        · exact h1 r hr
        · rw [List.mem_singleton] at hr
          subst hr
          refine ⟨rule_of hs hp hq hxw, fun y hy => ?_, hp.len, hq.rl⟩
          have hy' : y ∈ held.map (·.1) := by rw [← hp.vars hs]; exact hy
          obtain ⟨z, hz, rfl⟩ := List.mem_map.mp hy'
          exact hp.vn z hz)
      (by
        rw [List.map_append]
        refine List.nodup_append.mpr ⟨h2, List.nodup_cons.mpr ⟨fun z => (by cases z), List.nodup_nil⟩, fun y hy z hz ez => ?_⟩
        obtain ⟨r, hr, rfl⟩ := List.mem_map.mp hy
        rw [show ([(⟨x, p, q⟩ : Rul)].map (·.name)) = [x] from rfl, List.mem_singleton] at hz
        exact hnew (by rw [← hz, ← ez]; exact h3 r hr))
      (fun r hr => by
        rcases List.mem_append.mp hr with hr | hr
        · exact take_sub k hk5 _ (h3 r hr)
        · rw [List.mem_singleton] at hr
          subst hr
          exact hin)
      (g4.mono (by omega)) (by omega)
    refine ⟨rs', t5', t6', t7', t8', ps', ?_, q1, q2, q3, q4, by rw [show n + 150 * (m + 1) = n + 150 + 150 * m by omega]; exact q5⟩
    rw [List.range'_succ, List.map_cons]
    exact (forL_nx (t := tName 5) (x := .int k) rfl (sSeq_go a1 (sSeq_go a2 a3))).trans e
theorem rules_ok (hs : SgOk SO NA s) {n : Nat} {ps : Pn} (g : Good n ps) (hn : n + 750 ≤ 800000) :
    ∃ (rs : List Rul) (ps' : Pn), f__law_rules [.pen, dSg s, .int 5, .int 7] ps = .ok (.lst (rs.map (dR false))) ps' ∧ rs.length = 5 ∧ (∀ r ∈ rs, DrawnR s r) ∧ (rs.map (·.name)).Nodup ∧ (∀ r ∈ rs, r.name ∈ RN) ∧ Good (n + 750) ps' := by
  let ρ0 : En := [.v .pen, .v (dSg s), .v (.int 5), .v (.int 7), .un, .un, .un, .un, .un]
  have e4 : m__law_rules_4 ρ0 ps = .nx (W9 s [] .un .un .un .un) ps := sOwnS_ok (ρ1 := ρ0) (ds := []) (eLst_ok eNil_ok (Nat.zero_le _)) (by show 4 < 9; decide)
  obtain ⟨rs, t5, t6, t7, t8, ps', e, q1, q2, q3, q4, q5⟩ := rules_loop hs 5 0 [] .un .un .un .un n ps rfl rfl (fun r hr => by cases hr) List.nodup_nil (fun r hr => by cases hr) g (by omega)
  have e5 : m__law_rules_5 (W9 s [] .un .un .un .un) ps = .nx (W9 s rs t5 t6 t7 t8) ps' := by
    refine (sFor_ok (iRg1 (n := ((5 : Nat) : Int)) (eCons_ok (eVar_ok rfl) eNil_ok) (i62_nat (n := 5) (by decide)))).trans ?_
    exact e
  refine ⟨rs, ps', runB0_rt (ρ := ρ0) rfl rfl (sSeq_go e4 (sSeq_go e5 ?_)), q1, q2, q3, q4, q5⟩
  exact sSeq_go (ρ' := [.v .pen, .v (dSg s), .v (.int 5), .v (.int 7), .v (.lst (rs.map (dR false))), t5, t6, t7, t8]) rfl (sRet_ok (eVar_ok rfl))
end

set_option maxHeartbeats 4000000
/-! equal data -/
theorem eqv_str (a b : Str) : eqv (.str a) (.str b) = decide (a = b) := by
  show (a == b) = _
  by_cases h : a = b
  · rw [decide_eq_true h, h]; exact beq_self_eq_true b
  · rw [decide_eq_false h]; exact beq_eq_false_iff_ne.mpr h
theorem eqvL_map {α : Type} [DecidableEq α] (f : α → D) (h : ∀ x y, eqv (f x) (f y) = decide (x = y)) : ∀ xs ys : List α, eqvL (xs.map f) (ys.map f) = decide (xs = ys)
  | [], [] => rfl
  | [], y :: ys => by simp [eqvL]
  | x :: xs, [] => by simp [eqvL]
  | x :: xs, y :: ys => by
    rw [List.map_cons, List.map_cons, eqvL, h, eqvL_map f h xs ys]
    by_cases h1 : x = y
    · subst h1; simp
    · simp [h1]
theorem eqv_strs (xs ys : List Str) : eqvL (dStrs xs) (dStrs ys) = decide (xs = ys) := eqvL_map D.str eqv_str xs ys
theorem eqv_word (w w' : PW) : eqv (dW false w) (dW false w') = decide (w = w') := by
  cases w with
  | w x => cases w' with
    | w y => rw [show eqv (dW false (.w x)) (dW false (.w y)) = eqv (.str x) (.str y) from rfl, eqv_str]; simp
    | v y => rfl
  | v x => cases w' with
    | w y => rfl
    | v y =>
      show eqvL (dStrs [x]) (dStrs [y]) = _
      rw [eqv_strs]; simp
theorem eqv_side (p q : List PW) : eqv (dP false p) (dP false q) = decide (p = q) := eqvL_map (dW false) eqv_word p q
theorem eqv_rule (r r' : Rul) : eqv (dR false r) (dR false r') = decide (r = r') := by
  show (eqv (.str r.name) (.str r'.name) && (eqv (dP false r.left) (dP false r'.left) && (eqv (dP false r.right) (dP false r'.right) && true))) = _
  rw [eqv_str, eqv_side, eqv_side]
  obtain ⟨a, b, c⟩ := r
  obtain ⟨a', b', c'⟩ := r'
  by_cases h1 : a = a' <;> by_cases h2 : b = b' <;> by_cases h3 : c = c' <;> simp [h1, h2, h3]
theorem eqv_rules (rs rs' : List Rul) : eqv (dRs false false rs) (dRs false false rs') = decide (rs = rs') := eqvL_map (dR false) eqv_rule rs rs'
theorem eqv_row (r r' : Row) : eqv (dRow r) (dRow r') = decide (r = r') := by
  show (eqv (.str r.1) (.str r'.1) && (eqvL (dStrs r.2.1) (dStrs r'.2.1) && (eqv (.str r.2.2) (.str r'.2.2) && true))) = _
  rw [eqv_str, eqv_strs, eqv_str]
  obtain ⟨a, b, c⟩ := r
  obtain ⟨a', b', c'⟩ := r'
  by_cases h1 : a = a' <;> by_cases h2 : b = b' <;> by_cases h3 : c = c' <;> simp [h1, h2, h3]
theorem eqv_rows (rs rs' : List Row) : eqv (.tup (rs.map dRow)) (.tup (rs'.map dRow)) = decide (rs = rs') := eqvL_map dRow eqv_row rs rs'
theorem eqD_tup {xs ys : List D} (h1 : okD 60 (.tup xs) = true) (h2 : okD 60 (.tup ys) = true) : eqD (.tup xs) (.tup ys) = some (.bl (eqv (.tup xs) (.tup ys))) := by
  unfold eqD
  rw [if_neg (show ¬ scD (.tup xs) (.tup ys) = true by simp [scD]), if_pos ⟨h1, h2⟩]
/-! what may be laid -/
def wordW : PW → Str
  | .w x => x
  | .v x => x
theorem okD_word (b : Bool) {w : PW} (h : wordW w ∈ WN) (k : Nat) : okD (k + 2) (dW b w) = true := by
  cases w with
  | w x => exact okD_str (k := k + 1) h
  | v x =>
    have hx : ∀ d ∈ [D.str x], okD (k + 1) d = true := fun d hd => by rw [List.mem_singleton] at hd; subst hd; exact okD_str (k := k) h
    cases b
    · exact okD_tup hx
    · exact okD_lst hx
theorem okD_sq (b : Bool) {k : Nat} {xs : List D} (h : ∀ x ∈ xs, okD k x = true) : okD (k + 1) (sq b xs) = true := by
  cases b
  · exact okD_tup h
  · exact okD_lst h
def wordsP (p : List PW) : Prop := ∀ w ∈ p, wordW w ∈ WN
theorem okD_side (b : Bool) {p : List PW} (h : wordsP p) (k : Nat) : okD (k + 3) (dP b p) = true := okD_sq b fun d hd => by
  obtain ⟨w, hw, rfl⟩ := List.mem_map.mp hd
  exact okD_word b (h w hw) k
theorem gd_words {s : Sg} (hg : SgG s) : ∀ {p : List PW} {st : List (Option Str)}, gd s p st → wordsP p
  | [], st, _ => fun w hw => by cases hw
  | .w x :: ws, h :: st, ⟨r, hr, _, g⟩ => fun w hw => by
    rcases List.mem_cons.mp hw with rfl | hw
    · have := row_ok hg hr
      show x ∈ WN
      rw [← this.1]; exact this.2.1
    · exact gd_words hg g w hw
  | .v x :: ws, h :: st, ⟨hx, g⟩ => fun w hw => by
    rcases List.mem_cons.mp hw with rfl | hw
    · exact hx
    · exact gd_words hg g w hw
theorem okD_rule {s : Sg} (hg : SgG s) (b : Bool) {r : Rul} (h : RuleOk s r) (k : Nat) : okD (k + 4) (dR b r) = true := okD_sq b fun d hd => by
  simp only [List.mem_cons, List.not_mem_nil, or_false] at hd
  rcases hd with rfl | rfl | rfl
  · exact okD_str (k := k + 2) h.nm
  · exact okD_side b (gd_words hg h.gl) k
  · exact okD_side b (gd_words hg h.gr) k
theorem okD_rules {s : Sg} (hg : SgG s) (c b : Bool) {rs : List Rul} (h : ∀ r ∈ rs, RuleOk s r) (k : Nat) : okD (k + 5) (dRs c b rs) = true := okD_sq c fun d hd => by
  obtain ⟨r, hr, rfl⟩ := List.mem_map.mp hd
  exact okD_rule hg b (h r hr) k
/-! == of signs, of books -/
theorem isT_made (s : Sg) : isT "Signs" (dMade s) = some (.bl true) := by unfold isT dMade; dsimp only; rw [if_pos rfl]
theorem isT_book (s : Sg) (rs : List Rul) : isT "Book" (dBook s rs) = some (.bl true) := by unfold isT dBook; dsimp only; rw [if_pos rfl]
theorem fld_syms (s : Sg) : fldD "Signs" "symbols" (dMade s) = some (.tup (s.syms.map dRow)) := by kernel_rfl
theorem okD_rows {s : Sg} (hg : SgG s) : okD 60 (.tup (s.syms.map dRow)) = true := okD_tup (k := 59) fun d hd => by
  obtain ⟨q, hq, rfl⟩ := List.mem_map.mp hd
  exact okD_row hg hq 56
theorem signs_eq {s s' : Sg} (hg : SgG s) (hg' : SgG s') (ps : Pn) : f_Signs___eq__ [dMade s, dMade s'] ps = .ok (.bl (decide (s.sorts = s'.sorts) && decide (s.syms = s'.syms))) ps := by
  let ρ : En := [.v (dMade s), .v (dMade s')]
  have b1 : bNot (eB (eOp1 (isT "Signs") (eVar 1))) ρ ps = .ok false ρ ps := bNot_ok (b := true) (eB_ok (eOp1_ok (eVar_ok rfl) (isT_made s')))
  have e1 : m_Signs___eq___1 ρ ps = .nx ρ ps := sIf_F (a := m_Signs___eq___0) (b := sNil) b1 rfl
  have h1 : eOp2 eqD (eOp1 (fldD "Signs" "sorts") (eVar 0)) (eOp1 (fldD "Signs" "sorts") (eVar 1)) ρ ps = .ok (.bl (decide (s.sorts = s'.sorts))) ρ ps := by
    refine eOp2_ok (eOp1_ok (eVar_ok rfl) (fld_sorts s)) (eOp1_ok (eVar_ok rfl) (fld_sorts s')) ?_
    rw [eqD_tup (ok_tup0 (k := 58) fun x hx => so_WN hg hx) (ok_tup0 (k := 58) fun x hx => so_WN hg' hx)]
    show some (D.bl (eqvL (dStrs s.sorts) (dStrs s'.sorts))) = _
    rw [eqv_strs]
  have h2 : eOp2 eqD (eOp1 (fldD "Signs" "symbols") (eVar 0)) (eOp1 (fldD "Signs" "symbols") (eVar 1)) ρ ps = .ok (.bl (decide (s.syms = s'.syms))) ρ ps := by
    refine eOp2_ok (eOp1_ok (eVar_ok rfl) (fld_syms s)) (eOp1_ok (eVar_ok rfl) (fld_syms s')) ?_
    rw [eqD_tup (okD_rows hg) (okD_rows hg'), eqv_rows]
  have h3 : eAnd (eOp2 eqD (eOp1 (fldD "Signs" "sorts") (eVar 0)) (eOp1 (fldD "Signs" "sorts") (eVar 1))) (eOp2 eqD (eOp1 (fldD "Signs" "symbols") (eVar 0)) (eOp1 (fldD "Signs" "symbols") (eVar 1))) ρ ps = .ok (.bl (decide (s.sorts = s'.sorts) && decide (s.syms = s'.syms))) ρ ps := by
    cases z : decide (s.sorts = s'.sorts) with
    | false => rw [z] at h1; exact eAnd_f h1
    | true => rw [z] at h1; exact eAnd_go h1 h2
  exact runB0_rt (ρ := ρ) rfl rfl (sSeq_go e1 (sRet_ok (eOpN_ok (eCons_ok h3 eNil_ok) rfl)))
theorem eEqI_ok {cn : Str} {f : FM} {neg : Bool} {ma mb : EM D} {ρ ρ1 ρ2 : En} {ps ps1 ps2 ps3 : Pn} {ns : List Str} {xs : List D} {y : D} {b : Bool} (h1 : ma ρ ps = .ok (.ins cn ns xs) ρ1 ps1) (h2 : mb ρ1 ps1 = .ok y ρ2 ps2) (hy : eqR cn y = true) (h3 : f [.ins cn ns xs, y] ps2 = .ok (.bl b) ps3) :
    eEqI cn f neg ma mb ρ ps = .ok (.bl (if neg = true then !b else b)) ρ2 ps3 := by
  unfold eEqI bindE
  rw [h1]; dsimp only; rw [h2]; dsimp only
  unfold eqI
  dsimp only
  rw [if_pos ⟨rfl, hy⟩]
  unfold bindE callE
  rw [h3]; rfl
theorem fld_bsigns (s : Sg) (rs : List Rul) : fldD "Book" "signs" (dBook s rs) = some (dMade s) := by kernel_rfl
theorem fld_brules (s : Sg) (rs : List Rul) : fldD "Book" "rules" (dBook s rs) = some (dRs false false rs) := by kernel_rfl
theorem fld_bnames (s : Sg) (rs : List Rul) : fldD "Book" "names" (dBook s rs) = some (.tup (dStrs (rs.map (·.name)))) := by kernel_rfl
theorem eqR_made (s : Sg) : eqR "Signs" (dMade s) = true := by kernel_rfl
theorem eqR_book (s : Sg) (rs : List Rul) : eqR "Book" (dBook s rs) = true := by kernel_rfl
theorem book_eq {s s' : Sg} (hg : SgG s) (hg' : SgG s') {rs rs' : List Rul} (h : ∀ r ∈ rs, RuleOk s r) (h' : ∀ r ∈ rs', RuleOk s' r) (ps : Pn) : f_Book___eq__ [dBook s rs, dBook s' rs'] ps = .ok (.bl ((decide (s.sorts = s'.sorts) && decide (s.syms = s'.syms)) && decide (rs = rs'))) ps := by
  let ρ : En := [.v (dBook s rs), .v (dBook s' rs')]
  have b1 : bNot (eB (eOp1 (isT "Book") (eVar 1))) ρ ps = .ok false ρ ps := bNot_ok (b := true) (eB_ok (eOp1_ok (eVar_ok rfl) (isT_book s' rs')))
  have e1 : m_Book___eq___1 ρ ps = .nx ρ ps := sIf_F (a := m_Book___eq___0) (b := sNil) b1 rfl
  have h1 : eEqI "Signs" f_Signs___eq__ false (eOp1 (fldD "Book" "signs") (eVar 0)) (eOp1 (fldD "Book" "signs") (eVar 1)) ρ ps = .ok (.bl (decide (s.sorts = s'.sorts) && decide (s.syms = s'.syms))) ρ ps :=
    eEqI_ok (eOp1_ok (eVar_ok rfl) (fld_bsigns s rs)) (eOp1_ok (eVar_ok rfl) (fld_bsigns s' rs')) (eqR_made s') (signs_eq hg hg' ps)
  have h2 : eOp2 eqD (eOp1 (fldD "Book" "rules") (eVar 0)) (eOp1 (fldD "Book" "rules") (eVar 1)) ρ ps = .ok (.bl (decide (rs = rs'))) ρ ps := by
    refine eOp2_ok (eOp1_ok (eVar_ok rfl) (fld_brules s rs)) (eOp1_ok (eVar_ok rfl) (fld_brules s' rs')) ?_
    rw [show dRs false false rs = .tup (rs.map (dR false)) from rfl, show dRs false false rs' = .tup (rs'.map (dR false)) from rfl, eqD_tup (okD_rules hg false false h 55) (okD_rules hg' false false h' 55)]
    show some (D.bl (eqv (dRs false false rs) (dRs false false rs'))) = _
    rw [eqv_rules]
  have h3 : eAnd (eEqI "Signs" f_Signs___eq__ false (eOp1 (fldD "Book" "signs") (eVar 0)) (eOp1 (fldD "Book" "signs") (eVar 1))) (eOp2 eqD (eOp1 (fldD "Book" "rules") (eVar 0)) (eOp1 (fldD "Book" "rules") (eVar 1))) ρ ps = .ok (.bl ((decide (s.sorts = s'.sorts) && decide (s.syms = s'.syms)) && decide (rs = rs'))) ρ ps := by
    cases z : (decide (s.sorts = s'.sorts) && decide (s.syms = s'.syms)) with
    | false => rw [z] at h1; exact eAnd_f h1
    | true => rw [z] at h1; exact eAnd_go h1 h2
  exact runB0_rt (ρ := ρ) rfl rfl (sSeq_go e1 (sRet_ok (eOpN_ok (eCons_ok h3 eNil_ok) rfl)))
theorem book_eq_tup (s : Sg) (rs : List Rul) (xs : List D) (ps : Pn) : f_Book___eq__ [dBook s rs, .tup xs] ps = .ok (.bl false) ps := by
  let ρ : En := [.v (dBook s rs), .v (.tup xs)]
  have b1 : bNot (eB (eOp1 (isT "Book") (eVar 1))) ρ ps = .ok true ρ ps := bNot_ok (b := false) (eB_ok (eOp1_ok (eVar_ok rfl) rfl))
  exact runB0_rt (ρ := ρ) rfl rfl (sSeq_rt (sIf_T (a := m_Book___eq___0) (b := sNil) b1 (sRet_ok eC_ok)))

set_option maxHeartbeats 4000000
/-! texts -/
structure Wt (n k : Nat) (d : D) : Prop where
  l : (toPy d).leavesShort 40 = true
  w : (toPy d).weight ≤ n
  s : shwD d = true
  o : okD k d = true
theorem wt_leaves {n k : Nat} : ∀ {xs : List D}, (∀ x ∈ xs, Wt n k x) → PyData.leavesShortAll 40 (toPyL xs) = true
  | [], _ => rfl
  | x :: xs, h => by
    show (PyData.leavesShort 40 (toPy x) && PyData.leavesShortAll 40 (toPyL xs)) = true
    rw [(h x (List.mem_cons_self ..)).l, wt_leaves fun y hy => h y (List.mem_cons_of_mem _ hy)]; rfl
theorem wt_weight {n k : Nat} : ∀ {xs : List D}, (∀ x ∈ xs, Wt n k x) → PyData.weightAll (toPyL xs) ≤ (n + 1) * xs.length
  | [], _ => Nat.zero_le _
  | x :: xs, h => by
    show PyData.weight (toPy x) + 1 + PyData.weightAll (toPyL xs) ≤ _
    have h1 := (h x (List.mem_cons_self ..)).w
    have h2 := wt_weight fun y hy => h y (List.mem_cons_of_mem _ hy)
    rw [List.length_cons, Nat.mul_add]; omega
theorem wt_shw {n k : Nat} : ∀ {xs : List D}, (∀ x ∈ xs, Wt n k x) → shwL xs = true
  | [], _ => rfl
  | x :: xs, h => by
    show (shwD x && shwL xs) = true
    rw [(h x (List.mem_cons_self ..)).s, wt_shw fun y hy => h y (List.mem_cons_of_mem _ hy)]; rfl
theorem wt_tup {n k m : Nat} {xs : List D} (h : ∀ x ∈ xs, Wt n k x) (hl : xs.length ≤ m) : Wt ((n + 1) * m) (k + 1) (.tup xs) :=
  ⟨wt_leaves h, Nat.le_trans (wt_weight h) (Nat.mul_le_mul (Nat.le_refl _) hl), wt_shw h, okD_tup fun x hx => (h x hx).o⟩
theorem wt_mono {n m k : Nat} {d : D} (h : Wt n k d) (hn : n ≤ m) : Wt m k d := ⟨h.l, Nat.le_trans h.w hn, h.s, h.o⟩
theorem wt_str {x : Str} (h : x ∈ WN) (k : Nat) : Wt 8 (k + 1) (.str x) :=
  ⟨(by decide +kernel : ∀ x ∈ WN, (toPy (.str x)).leavesShort 40 = true) x h, (by decide +kernel : ∀ x ∈ WN, (toPy (.str x)).weight ≤ 8) x h, (by decide +kernel : ∀ x ∈ WN, shwD (.str x) = true) x h, okD_str h⟩
theorem wt_word {w : PW} (h : wordW w ∈ WN) (k : Nat) : Wt 9 (k + 2) (dW false w) := by
  cases w with
  | w x => exact wt_mono (wt_str (x := x) h (k + 1)) (by decide)
  | v x => exact wt_tup (n := 8) (m := 1) (fun d hd => by rw [List.mem_singleton] at hd; subst hd; exact wt_str h k) (Nat.le_refl _)
theorem wt_side {p : List PW} (h : wordsP p) (hl : p.length ≤ 24) (k : Nat) : Wt 240 (k + 3) (dP false p) :=
  wt_tup (n := 9) (m := 24) (fun d hd => by
    obtain ⟨w, hw, rfl⟩ := List.mem_map.mp hd
    exact wt_word (h w hw) k) (by rw [List.length_map]; exact hl)
theorem wt_rule {s : Sg} (hg : SgG s) {r : Rul} (h : RuleOk s r) (k : Nat) : Wt 723 (k + 4) (dR false r) :=
  wt_tup (n := 240) (m := 3) (fun d hd => by
    simp only [List.mem_cons, List.not_mem_nil, or_false] at hd
    rcases hd with rfl | rfl | rfl
    · exact wt_mono (wt_str h.nm (k + 2)) (by decide)
    · exact wt_side (gd_words hg h.gl) h.ll k
    · exact wt_side (gd_words hg h.gr) h.rl k) (Nat.le_refl _)
theorem wt_rules {s : Sg} (hg : SgG s) {rs : List Rul} (h : ∀ r ∈ rs, RuleOk s r) (hl : rs.length ≤ 6) (k : Nat) : Wt 4344 (k + 5) (dRs false false rs) :=
  wt_tup (n := 723) (m := 6) (fun d hd => by
    obtain ⟨r, hr, rfl⟩ := List.mem_map.mp hd
    exact wt_rule hg (h r hr) k) (by rw [List.length_map]; exact hl)
theorem wt_names {s : Sg} {rs : List Rul} (h : ∀ r ∈ rs, RuleOk s r) (hl : rs.length ≤ 6) (k : Nat) : Wt 54 (k + 2) (.tup (dStrs (rs.map (·.name)))) :=
  wt_tup (n := 8) (m := 6) (fun d hd => by
    obtain ⟨x, hx, rfl⟩ := List.mem_map.mp hd
    obtain ⟨r, hr, rfl⟩ := List.mem_map.mp hx
    exact wt_str (h r hr).nm k) (by rw [dStrs_len, List.length_map]; exact hl)
theorem repr_ok {n : Nat} {xs : List D} (h : Wt n 60 (.tup xs)) (hn : n ≤ 15500) : ∃ r, reprL [.tup xs] = some (.str r) := by
  have h2 := PyData.shown_le 40 (by decide) (toPy (.tup xs)) h.l
  have h4 : (toPy (.tup xs)).shown.length ≤ sizeLine := by
    rw [sizeLine_eq]
    have hw := h.w
    have : (40 + 2) * PyData.weight (toPy (.tup xs)) ≤ 42 * 15500 := Nat.mul_le_mul (Nat.le_refl _) (by omega)
    omega
  refine ⟨(toPy (.tup xs)).shown, ?_⟩
  show (if isSq (.tup xs) = true ∧ shwD (.tup xs) = true ∧ okD 60 (.tup xs) = true ∧ (toPy (.tup xs)).shown.length ≤ sizeLine then some (D.str (toPy (.tup xs)).shown) else none) = _
  exact if_pos ⟨rfl, h.s, h.o, h4⟩
theorem ne_self_str (r : Str) : neD (.str r) (.str r) = some (.bl false) := by rw [ne_str, beq_self_eq_true]; rfl
/-! lists in the place of tuples -/
abbrev lisS : FM → FM := fun rec => runB0 1 2 (m__law_lists rec)
theorem lis_str (rec : FM) (x : Str) (ps : Pn) : lisS rec [.str x] ps = .ok (.str x) ps := by
  have hb : eB (eOp1 (isi2D "list" "tuple") (eVar 0)) [.v (.str x), .un] ps = .ok false [.v (.str x), .un] ps := eB_ok (eOp1_ok (eVar_ok rfl) (isi2_ls (b := false) rfl))
  have hv : eVar 0 [.v (.str x), .un] ps = .ok (.str x) [.v (.str x), .un] ps := eVar_ok rfl
  exact runB0_rt (ρ := [.v (.str x), .un]) rfl rfl (show m__law_lists rec [.v (.str x), .un] ps = .rt (.str x) ps from sRet_ok (eIf_F (a := eFz (fComp (iSq (eVar 0)) (tName 1) [1] (tYesE) (eCall rec (eCons (eVar 1) (eNil))))) hb hv))
theorem lis_seq {rec : FM} {d : D} {xs ys : List D} {ps : Pn} (hs : seqO d = some xs) (hb : lsB d = some true) (hl : xs.length < 900) (h : xs.length = ys.length) (hr : ∀ (i : Nat) x y, xs[i]? = some x → ys[i]? = some y → rec [x] ps = .ok y ps) : lisS rec [d] ps = .ok (.lst ys) ps := by
  let ρ : En := [.v d, .un]
  have c1 : ∀ (xs ys acc : List D), acc.length + xs.length < 1000 → xs.length = ys.length → (∀ (i : Nat) x y, xs[i]? = some x → ys[i]? = some y → rec [x] ps = .ok y ps) → compL (tName 1) [1] tYesE (eCall rec (eCons (eVar 1) eNil)) xs acc ρ ps = .ok (acc ++ ys) ρ ps := by
    intro xs
    induction xs with
    | nil => intro ys acc _ h _; cases ys with | nil => simp [compL, pureE] | cons => cases h
    | cons x xs ih =>
      intro ys acc ha h hr
      cases ys with
      | nil => cases h
      | cons y ys =>
        have e := hr 0 x y rfl rfl
        have t1 : tName 1 x ρ = some [.v d, .v x] := rfl
        have t2 : eCall rec (eCons (eVar 1) eNil) [.v d, .v x] ps = .ok y [.v d, .v x] ps := eCall_ok (eCons_ok (eVar_ok rfl) eNil_ok) e
        rw [List.length_cons] at ha
        have t3 : tYesE [Slot.v d, .v x] ps = .ok true [.v d, .v x] ps := rfl
        have t4 : wipeE [Slot.v d, .v x] [1] = ρ := rfl
        refine (compL_t t1 t3 t2 (by omega)).trans ?_
        rw [t4, ih ys (acc ++ [y]) (by rw [List.length_append, List.length_singleton]; omega) (by simpa using h) fun i a b ha hb => hr (i + 1) a b (by simpa using ha) (by simpa using hb), List.append_assoc]
        rfl
  have c2 := c1 xs ys [] (by show 0 + _ < 1000; omega) h hr
  have hi : iSq (eVar 0) ρ ps = .ok xs ρ ps := iSq_ok (eVar_ok rfl) hs
  exact runB0_rt (ρ := ρ) rfl rfl (sRet_ok (ρ1 := ρ) (eIf_T (eB_ok (eOp1_ok (eVar_ok rfl) (isi2_ls hb))) (eFz_ok (fComp_run hi rfl c2 rfl))))
theorem lis_word (rec : FM) (w : PW) (ps : Pn) : lisS (lisS rec) [dW false w] ps = .ok (dW true w) ps := by
  cases w with
  | w x => exact lis_str _ x ps
  | v x =>
    refine lis_seq (xs := [.str x]) (ys := [.str x]) rfl rfl (by show 1 < 900; decide) rfl fun i y z h1 h2 => ?_
    rw [h1] at h2; cases h2
    match i, h1 with
    | 0, h1 => cases h1; exact lis_str _ x ps
theorem lis_side (rec : FM) {p : List PW} (hl : p.length < 900) (ps : Pn) : lisS (lisS (lisS rec)) [dP false p] ps = .ok (dP true p) ps := by
  refine lis_seq (xs := p.map (dW false)) (ys := p.map (dW true)) rfl rfl (by rw [List.length_map]; exact hl) (by rw [List.length_map, List.length_map]) fun i y z h1 h2 => ?_
  rw [List.getElem?_map] at h1 h2
  cases e : p[i]? with
  | none => rw [e] at h1; cases h1
  | some w => rw [e] at h1 h2; cases h1; cases h2; exact lis_word rec w ps
theorem lis_rule (rec : FM) {r : Rul} (h1 : r.left.length < 900) (h2 : r.right.length < 900) (ps : Pn) : lisS (lisS (lisS (lisS rec))) [dR false r] ps = .ok (dR true r) ps := by
  refine lis_seq (xs := [.str r.name, dP false r.left, dP false r.right]) (ys := [.str r.name, dP true r.left, dP true r.right]) rfl rfl (by show 3 < 900; decide) rfl fun i y z e1 e2 => ?_
  match i, e1, e2 with
  | 0, e1, e2 => cases e1; cases e2; exact lis_str _ _ ps
  | 1, e1, e2 => cases e1; cases e2; exact lis_side rec h1 ps
  | 2, e1, e2 => cases e1; cases e2; exact lis_side rec h2 ps
theorem lists_ok {rs : List Rul} (hl : rs.length < 900) (h : ∀ r ∈ rs, r.left.length < 900 ∧ r.right.length < 900) (ps : Pn) : f__law_lists [dRs true false rs] ps = .ok (dRs true true rs) ps := by
  show lisS (lisS (lisS (lisS (lisS (iterF lisS 3))))) [dRs true false rs] ps = _
  refine lis_seq (xs := rs.map (dR false)) (ys := rs.map (dR true)) rfl rfl (by rw [List.length_map]; exact hl) (by rw [List.length_map, List.length_map]) fun i y z h1 h2 => ?_
  rw [List.getElem?_map] at h1 h2
  cases e : rs[i]? with
  | none => rw [e] at h1; cases h1
  | some r =>
    rw [e] at h1 h2; cases h1; cases h2
    have := h r (List.mem_of_getElem? e)
    exact lis_rule _ this.1 this.2 ps
/-! left, right of a book -/
theorem bleft_ok {s : Sg} {rs : List Rul} {i : Nat} {r : Rul} (h : rs[i]? = some r) (ps : Pn) : f_Book_left [dBook s rs, .int i] ps = .ok (dP false r.left) ps := by
  have hx : idxD (dRs false false rs) (.int i) = some (dR false r) := ix_sq false (by rw [List.getElem?_map, h]; rfl)
  exact runB0_rt (ρ := [.v (dBook s rs), .v (.int i)]) rfl rfl (sRet_ok (eIdx_ok (eIdx_ok (eOp1_ok (eVar_ok rfl) (fld_brules s rs)) (eVar_ok rfl) (sq_pen false _) hx) eC_ok (sq_pen false _) (ix1_sq false)))
theorem bright_ok {s : Sg} {rs : List Rul} {i : Nat} {r : Rul} (h : rs[i]? = some r) (ps : Pn) : f_Book_right [dBook s rs, .int i] ps = .ok (dP false r.right) ps := by
  have hx : idxD (dRs false false rs) (.int i) = some (dR false r) := ix_sq false (by rw [List.getElem?_map, h]; rfl)
  exact runB0_rt (ρ := [.v (dBook s rs), .v (.int i)]) rfl rfl (sRet_ok (eIdx_ok (eIdx_ok (eOp1_ok (eVar_ok rfl) (fld_brules s rs)) (eVar_ok rfl) (sq_pen false _) hx) eC_ok (sq_pen false _) (ix2_sq false)))
theorem eMethK_ok {cn m : Str} {f : FM} {idx : List Nat} {o : EM D} {mk : EM (List D)} {ρ ρ1 ρ2 : En} {ps ps1 ps2 ps3 : Pn} {ns : List Str} {xs es : List D} {d : D} (h1 : o ρ ps = .ok (.ins cn ns xs) ρ1 ps1) (hm : m ∉ ns) (h2 : mk ρ1 ps1 = .ok es ρ2 ps2) (h3 : f (.ins cn ns xs :: pick idx es) ps2 = .ok d ps3) : eMethK cn m f idx o mk ρ ps = .ok d ρ2 ps3 := by
  unfold eMethK bindE
  rw [h1]; dsimp only; rw [if_pos ⟨rfl, hm⟩, h2]; dsimp only
  unfold callE
  rw [h3]
theorem eMakeK_ok {cn : Str} {f : IM} {idx : List Nat} {mk : EM (List D)} {ρ ρ1 : En} {ps ps1 ps2 : Pn} {es xs : List D} {ns : List Str} (h : mk ρ ps = .ok es ρ1 ps1) (h2 : f (pick idx es) ps1 = .ok ns xs ps2) : eMakeK cn f idx mk ρ ps = .ok (.ins cn ns xs) ρ1 ps2 := by
  unfold eMakeK bindE makeE
  rw [h]; dsimp only; rw [h2]

set_option maxHeartbeats 4000000
/-! variables called otherwise -/
def qS (x : Str) : Str := ("q" : Str) ++ x
theorem q_add : ∀ x ∈ VN, addD (.str "q") (.str x) = some (.str (qS x)) := map_mem (by kernel_rfl)
theorem q_len : ∀ x ∈ VN, lenD [.str x] = some (.int x.length) := map_mem (by kernel_rfl)
theorem q_in : ∀ x ∈ VN, x.length ≤ 7 → qS x ∈ QN := by decide +kernel
theorem q_inj : ∀ x ∈ VN, ∀ y ∈ VN, qS x = qS y → x = y := by decide +kernel
theorem q_ne : ∀ x ∈ VN, qS x ≠ x := by decide +kernel
theorem QN_WN {x : Str} (h : x ∈ QN) : x ∈ WN := List.mem_append_right _ (List.mem_append_right _ (List.mem_cons_of_mem _ (List.mem_append_right _ (List.mem_append_left _ h))))
theorem zz_WN : ("zz" : Str) ∈ WN := List.mem_append_right _ (List.mem_append_right _ (List.mem_cons_self ..))
theorem zz_RN : ("zz" : Str) ∉ RN := by decide +kernel
def qv : PW → PW
  | .w x => .w x
  | .v x => .v (qS x)
theorem vars_q (p : List PW) : vars (p.map qv) = (vars p).map qS := by
  induction p with
  | nil => rfl
  | cons w p ih => cases w with
    | w x => exact ih
    | v x => exact congrArg (qS x :: ·) ih
theorem gd_q {s : Sg} : ∀ {p : List PW} {st : List (Option Str)}, (∀ x ∈ vars p, x ∈ VN ∧ x.length ≤ 7) → gd s p st → gd s (p.map qv) st
  | [], st, _, g => g
  | .w x :: ws, h :: st, hv, ⟨r, hr, ho, g⟩ => ⟨r, hr, ho, gd_q hv g⟩
  | .v x :: ws, h :: st, hv, ⟨hx, g⟩ => ⟨QN_WN (q_in x (hv x (List.mem_cons_self ..)).1 (hv x (List.mem_cons_self ..)).2), gd_q (fun y hy => hv y (List.mem_cons_of_mem _ hy)) g⟩
theorem ss_q {s : Sg} : ∀ {p : List PW} {st : List (Option Str)}, ss s (p.map qv) st = (ss s p st).map fun q => (qS q.1, q.2)
  | [], st => rfl
  | .w x :: ws, [] => rfl
  | .v x :: ws, [] => rfl
  | .w x :: ws, h :: st => by
    show (match rowOf s x with | some r => ss s (ws.map qv) (r.2.1.map some ++ st) | none => []) = List.map (fun q => (qS q.1, q.2)) (match rowOf s x with | some r => ss s ws (r.2.1.map some ++ st) | none => [])
    cases rowOf s x with
    | none => rfl
    | some r => exact ss_q
  | .v x :: ws, h :: st => by
    show (qS x, h) :: ss s (ws.map qv) st = (qS x, h) :: (ss s ws st).map _
    rw [ss_q]
theorem flat_q {s : Sg} {w : PW} (h : flatW s w) : flatW s (qv w) := by cases w <;> exact h
theorem sort_q {s : Sg} : ∀ {l r : List PW}, sortP s l r → sortP s (l.map qv) (r.map qv)
  | .w f :: l, .w g :: r, ⟨h1, h2⟩ => ⟨h1, fun q hq => by
      have e1 : ss s ((PW.w g :: r).map qv) [none] = (ss s (.w g :: r) [none]).map fun q => (qS q.1, q.2) := ss_q
      have e2 : ss s ((PW.w f :: l).map qv) [none] = (ss s (.w f :: l) [none]).map fun q => (qS q.1, q.2) := ss_q
      have hq' : q ∈ ss s ((PW.w g :: r).map qv) [none] := hq
      rw [e1] at hq'
      obtain ⟨z, hz, rfl⟩ := List.mem_map.mp hq'
      show _ ∈ ss s ((PW.w f :: l).map qv) [none]
      rw [e2]
      exact List.mem_map.mpr ⟨z, h2 z hz, rfl⟩⟩
  | .w f :: l, .v x :: r, ⟨rf, h1, h2⟩ => ⟨rf, h1, by
      have e2 : ss s ((PW.w f :: l).map qv) [none] = (ss s (.w f :: l) [none]).map fun q => (qS q.1, q.2) := ss_q
      show _ ∈ ss s ((PW.w f :: l).map qv) [none]
      rw [e2]
      exact List.mem_map.mpr ⟨_, h2, rfl⟩⟩
def renR (r : Rul) : Rul := ⟨r.name, r.left.map qv, r.right.map qv⟩
theorem nodup_map {xs : List Str} (hn : xs.Nodup) (hv : ∀ x ∈ xs, x ∈ VN) : (xs.map qS).Nodup := by
  induction xs with
  | nil => exact List.nodup_nil
  | cons x xs ih =>
    rw [List.nodup_cons] at hn
    rw [List.map_cons, List.nodup_cons]
    refine ⟨fun z => ?_, ih hn.2 fun y hy => hv y (List.mem_cons_of_mem _ hy)⟩
    obtain ⟨y, hy, e⟩ := List.mem_map.mp z
    have := q_inj y (hv y (List.mem_cons_of_mem _ hy)) x (hv x (List.mem_cons_self ..)) e
    exact hn.1 (this ▸ hy)
theorem RuleOk.ren {s : Sg} {r : Rul} (h : RuleOk s r) (hv : ∀ x ∈ vars r.left, x ∈ VN ∧ x.length ≤ 7) : RuleOk s (renR r) := by
  have hv2 : ∀ x ∈ vars r.right, x ∈ VN ∧ x.length ≤ 7 := fun x hx => hv x (h.sub x hx)
  obtain ⟨f, ws, hlw⟩ := h.lw
  refine ⟨h.nm, ⟨f, ws.map qv, by show r.left.map qv = _; rw [hlw]; rfl⟩, gd_q hv h.gl, by show (r.left.map qv).length ≤ 24; rw [List.length_map]; exact h.ll, gd_q hv2 h.gr, by show (r.right.map qv).length ≤ 24; rw [List.length_map]; exact h.rl, ?_, ?_, fun x hx => ?_, sort_q h.srt, fun w hw => ?_, fun h1 => ?_⟩
  · show (vars (r.left.map qv)).Nodup
    rw [vars_q]; exact nodup_map h.ndl fun x hx => (hv x hx).1
  · show (vars (r.right.map qv)).Nodup
    rw [vars_q]; exact nodup_map h.ndr fun x hx => (hv2 x hx).1
  · have hx' : x ∈ vars (r.right.map qv) := hx
    rw [vars_q] at hx'
    obtain ⟨y, hy, rfl⟩ := List.mem_map.mp hx'
    show qS y ∈ vars (r.left.map qv)
    rw [vars_q]
    exact List.mem_map.mpr ⟨y, h.sub y hy, rfl⟩
  · have hw' : w ∈ (r.right.map qv).tail := hw
    rw [← List.map_tail] at hw'
    obtain ⟨v, hv', rfl⟩ := List.mem_map.mp hw'
    exact flat_q (h.flat v hv')
  · have h1' : (r.left.map qv).length = 1 := h1
    rw [List.length_map] at h1'
    obtain ⟨c, hc⟩ := h.grow h1'
    exact ⟨c, by show r.right.map qv = _; rw [hc]; rfl⟩
def zzR (r : Rul) : Rul := ⟨"zz", r.left, r.right⟩
theorem RuleOk.zz {s : Sg} {r : Rul} (h : RuleOk s r) : RuleOk s (zzR r) := ⟨zz_WN, h.lw, h.gl, h.ll, h.gr, h.rl, h.ndl, h.ndr, h.sub, h.srt, h.flat, h.grow⟩
/-! books told otherwise -/
structure Five (s : Sg) (rs : List Rul) : Prop where
  len : rs.length = 5
  dr : ∀ r ∈ rs, DrawnR s r
  nd : (rs.map (·.name)).Nodup
  rn : ∀ r ∈ rs, r.name ∈ RN
theorem Five.ok {s : Sg} {rs : List Rul} (h : Five s rs) : BookOk s rs := ⟨fun r hr => (h.dr r hr).ok, h.nd, by rw [h.len]; decide⟩
section
variable {s : Sg} {rs : List Rul} {at_ : Nat} {r : Rul}
theorem split_at (h : rs[at_]? = some r) : rs = rs.take at_ ++ r :: rs.drop (at_ + 1) := by
  obtain ⟨hl, e⟩ := List.getElem?_eq_some_iff.mp h
  have := List.take_append_drop at_ rs
  rw [List.drop_eq_getElem_cons hl, e] at this
  exact this.symm
theorem mem_take_drop {x : Rul} (h : rs[at_]? = some r) (hx : x ∈ rs.take at_ ++ rs.drop (at_ + 1)) : x ∈ rs := by
  rcases List.mem_append.mp hx with hx | hx
  · exact List.mem_of_mem_take hx
  · exact List.mem_of_mem_drop hx
theorem nd_out (hf : Five s rs) (h : rs[at_]? = some r) : ((rs.take at_).map (·.name) ++ (rs.drop (at_ + 1)).map (·.name)).Nodup := by
  have := hf.nd
  rw [split_at h, List.map_append, List.map_cons] at this
  have h1 := List.nodup_append.mp this
  exact List.nodup_append.mpr ⟨h1.1, (List.nodup_cons.mp h1.2.1).2, fun a ha b hb => h1.2.2 a ha b (List.mem_cons_of_mem _ hb)⟩
/-- v1: without it -/
theorem v1_ok (hf : Five s rs) (h : rs[at_]? = some r) : BookOk s (rs.take at_ ++ rs.drop (at_ + 1)) ∧ rs.take at_ ++ rs.drop (at_ + 1) ≠ rs := by
  have hl := (List.getElem?_eq_some_iff.mp h).1
  have hlen : (rs.take at_ ++ rs.drop (at_ + 1)).length = 4 := by
    rw [List.length_append, List.length_take, List.length_drop, hf.len] at *; omega
  exact ⟨⟨fun x hx => (hf.dr x (mem_take_drop h hx)).ok, by rw [List.map_append]; exact nd_out hf h, by rw [hlen]; decide⟩, fun z => by rw [z, hf.len] at hlen; cases hlen⟩
/-- another one in its place -/
theorem set_ok (hf : Five s rs) (h : rs[at_]? = some r) {x : Rul} (hx : RuleOk s x) (hn : x.name = r.name ∨ x.name ∉ RN) (hne : x ≠ r) : BookOk s (rs.take at_ ++ x :: rs.drop (at_ + 1)) ∧ rs.take at_ ++ x :: rs.drop (at_ + 1) ≠ rs := by
  have hl := (List.getElem?_eq_some_iff.mp h).1
  have hlen : (rs.take at_ ++ x :: rs.drop (at_ + 1)).length = 5 := by
    rw [List.length_append, List.length_cons, List.length_take, List.length_drop, hf.len] at *; omega
  refine ⟨⟨fun y hy => ?_, ?_, by rw [hlen]; decide⟩, fun z => ?_⟩
  · rcases List.mem_append.mp hy with hy | hy
    · exact (hf.dr y (List.mem_of_mem_take hy)).ok
    · rcases List.mem_cons.mp hy with rfl | hy
      · exact hx
      · exact (hf.dr y (List.mem_of_mem_drop hy)).ok
  · rw [List.map_append, List.map_cons]
    rcases hn with hn | hn
    · rw [hn]
      have := hf.nd
      rw [split_at h, List.map_append, List.map_cons] at this
      exact this
    · have hout := nd_out hf h
      have h1 := List.nodup_append.mp hout
      have no : ∀ y ∈ rs, y.name ≠ x.name := fun y hy e => hn (e ▸ hf.rn y hy)
      refine List.nodup_append.mpr ⟨h1.1, List.nodup_cons.mpr ⟨fun z => ?_, h1.2.1⟩, fun a ha b hb e => ?_⟩
      · obtain ⟨y, hy, e⟩ := List.mem_map.mp z
        exact no y (List.mem_of_mem_drop hy) e
      · rcases List.mem_cons.mp hb with rfl | hb
        · obtain ⟨y, hy, e2⟩ := List.mem_map.mp ha
          exact no y (List.mem_of_mem_take hy) (e2.trans e)
        · exact h1.2.2 a ha b hb e
  · rw [split_at h] at z
    have hz : (rs.take at_ ++ x :: rs.drop (at_ + 1)) = rs.take at_ ++ r :: rs.drop (at_ + 1) := by
      have e2 := split_at h
      rw [← e2] at z ⊢
      exact z
    have := List.append_cancel_left hz
    injection this with e1 e2
    exact hne e1
/-- one more behind -/
theorem more_ok (hf : Five s rs) (h : rs[at_]? = some r) : BookOk s (rs ++ [zzR r]) ∧ rs ++ [zzR r] ≠ rs := by
  have hm := List.mem_of_getElem? h
  refine ⟨⟨fun y hy => ?_, ?_, by rw [List.length_append, hf.len]; show 5 + 1 ≤ 20; decide⟩, fun z => ?_⟩
  · rcases List.mem_append.mp hy with hy | hy
    · exact (hf.dr y hy).ok
    · rw [List.mem_singleton] at hy; subst hy; exact (hf.dr r hm).ok.zz
  · rw [List.map_append]
    refine List.nodup_append.mpr ⟨hf.nd, List.nodup_cons.mpr ⟨fun z => (by cases z), List.nodup_nil⟩, fun a ha b hb e => ?_⟩
    rw [show ([zzR r].map (·.name)) = [("zz" : Str)] from rfl, List.mem_singleton] at hb
    obtain ⟨y, hy, rfl⟩ := List.mem_map.mp ha
    exact zz_RN (by rw [← hb, ← e]; exact hf.rn y hy)
  · have := congrArg List.length z
    rw [List.length_append] at this
    simp at this
/-- turned round -/
theorem turn_ok (hf : Five s rs) : BookOk s (rs.drop 1 ++ rs.take 1) ∧ rs.drop 1 ++ rs.take 1 ≠ rs := by
  have hlen := hf.len
  match rs, hf, hlen with
  | a :: b :: rest, hf, hlen =>
    refine ⟨⟨fun y hy => ?_, ?_, by show ((b :: rest) ++ [a]).length ≤ 20; rw [List.length_append, List.length_cons] at *; simp at hlen ⊢; omega⟩, fun z => ?_⟩
    · rcases List.mem_append.mp hy with hy | hy
      · exact (hf.dr y (List.mem_of_mem_drop hy)).ok
      · exact (hf.dr y (List.mem_of_mem_take hy)).ok
    · have p : ((a :: b :: rest).drop 1 ++ (a :: b :: rest).take 1).Perm (a :: b :: rest) := by
        show ((b :: rest) ++ [a]).Perm (a :: b :: rest)
        exact List.perm_append_comm
      exact (p.map (·.name)).nodup_iff.mpr hf.nd
    · have z' : (b :: rest) ++ [a] = a :: b :: rest := z
      injection z' with e1 e2
      have := hf.nd
      rw [List.map_cons, List.map_cons, e1, List.nodup_cons] at this
      exact this.1 (List.mem_cons_self ..)
end

set_option maxHeartbeats 4000000
/-! the same rules over other signs -/
def Ext (s s' : Sg) : Prop := ∀ x r, rowOf s x = some r → rowOf s' x = some r
theorem gd_ext {s s' : Sg} (e : Ext s s') : ∀ {p : List PW} {st : List (Option Str)}, gd s p st → gd s' p st
  | [], st, g => g
  | .w x :: ws, h :: st, ⟨r, hr, ho, g⟩ => ⟨r, e x r hr, ho, gd_ext e g⟩
  | .v x :: ws, h :: st, ⟨hx, g⟩ => ⟨hx, gd_ext e g⟩
theorem ss_ext {s s' : Sg} (e : Ext s s') : ∀ {p : List PW} {st : List (Option Str)}, gd s p st → ss s' p st = ss s p st
  | [], st, g => rfl
  | .w x :: ws, h :: st, ⟨r, hr, ho, g⟩ => by
    show (match rowOf s' x with | some r => ss s' ws (r.2.1.map some ++ st) | none => []) = (match rowOf s x with | some r => ss s ws (r.2.1.map some ++ st) | none => [])
    rw [hr, e x r hr]
    exact ss_ext e g
  | .v x :: ws, h :: st, ⟨hx, g⟩ => by
    show (x, h) :: ss s' ws st = (x, h) :: ss s ws st
    rw [ss_ext e g]
theorem flat_ext {s s' : Sg} (e : Ext s s') {w : PW} (h : flatW s w) : flatW s' w := by
  cases w with
  | w x => obtain ⟨r, hr, ha⟩ := h; exact ⟨r, e x r hr, ha⟩
  | v x => trivial
theorem sort_ext {s s' : Sg} (e : Ext s s') : ∀ {l r : List PW}, gd s l [none] → gd s r [none] → sortP s l r → sortP s' l r
  | .w f :: l, .w g :: r, gl, gr, ⟨⟨rf, rg, h1, h2, h3⟩, h4⟩ => ⟨⟨rf, rg, e f rf h1, e g rg h2, h3⟩, fun q hq => by
      rw [ss_ext e gr] at hq
      rw [ss_ext e gl]
      exact h4 q hq⟩
  | .w f :: l, .v x :: r, gl, gr, ⟨rf, h1, h2⟩ => ⟨rf, e f rf h1, by rw [ss_ext e gl]; exact h2⟩
theorem RuleOk.ext {s s' : Sg} (e : Ext s s') {r : Rul} (h : RuleOk s r) : RuleOk s' r :=
  ⟨h.nm, h.lw, gd_ext e h.gl, h.ll, gd_ext e h.gr, h.rl, h.ndl, h.ndr, h.sub, sort_ext e h.gl h.gr h.srt, fun w hw => flat_ext e (h.flat w hw), h.grow⟩
theorem BookOk.ext {s s' : Sg} (e : Ext s s') {rs : List Rul} (h : BookOk s rs) : BookOk s' rs := ⟨fun r hr => (h.ok r hr).ext e, h.nd, h.le⟩
theorem len_sub : ∀ {xs ys : List Str}, xs.Nodup → (∀ x ∈ xs, x ∈ ys) → xs.length ≤ ys.length
  | [], ys, _, _ => Nat.zero_le _
  | x :: xs, ys, hn, h => by
    rw [List.nodup_cons] at hn
    have hx := h x (List.mem_cons_self ..)
    have ih := len_sub (ys := ys.erase x) hn.2 fun y hy => by
      have hne : y ≠ x := fun e => hn.1 (e ▸ hy)
      exact (List.mem_erase_of_ne hne).mpr (h y (List.mem_cons_of_mem _ hy))
    rw [List.length_erase_of_mem hx] at ih
    have hpos : 0 < ys.length := List.length_pos_iff.mpr (List.ne_nil_of_mem hx)
    rw [List.length_cons]; omega
section
variable {s : Sg}
theorem syms_le (hs : SgOk SO NA s) : s.syms.length ≤ 13 := by
  have := len_sub (ys := NA) hs.nnd fun x hx => by
    obtain ⟨r, hr, rfl⟩ := List.mem_map.mp hx
    exact (hs.nm r hr).1
  rw [List.length_map] at this
  exact this
theorem zz_NA : ("zz" : Str) ∉ NA := by decide +kernel
def moreS (s : Sg) (s0 : Str) : Sg := ⟨s.sorts, s.syms ++ [(("zz", [], s0) : Row)]⟩
def revS (s : Sg) : Sg := ⟨s.sorts, s.syms.reverse⟩
theorem more_g (hs : SgOk SO NA s) {s0 : Str} (h0 : s0 ∈ s.sorts) : SgG (moreS s s0) := by
  have hg := sgG hs
  have hl := syms_le hs
  refine ⟨hg.so, hg.snd, hg.sne, hg.slen, fun r hr => ?_, ?_, by show (s.syms ++ _).length ≤ 16; rw [List.length_append]; show _ + 1 ≤ 16; omega, by show 1 ≤ (s.syms ++ _).length; rw [List.length_append]; show 1 ≤ _ + 1; omega⟩
  · rcases List.mem_append.mp (show r ∈ s.syms ++ [(("zz", [], s0) : Row)] from hr) with hr | hr
    · exact hg.rows.ok r hr
    · rw [List.mem_singleton] at hr
      subst hr
      exact ⟨⟨zz_WN, rfl⟩, fun a ha => (by cases ha), h0, by show 0 ≤ 3; decide⟩
  · show ((s.syms ++ [(("zz", [], s0) : Row)]).map (·.1)).Nodup
    rw [List.map_append]
    refine List.nodup_append.mpr ⟨hs.nnd, List.nodup_cons.mpr ⟨fun z => (by cases z), List.nodup_nil⟩, fun a ha b hb e => ?_⟩
    rw [show ([(("zz", [], s0) : Row)].map (·.1)) = [("zz" : Str)] from rfl, List.mem_singleton] at hb
    obtain ⟨r, hr, rfl⟩ := List.mem_map.mp ha
    exact zz_NA (by rw [← hb, ← e]; exact (hs.nm r hr).1)
theorem more_ext (s : Sg) (s0 : Str) : Ext s (moreS s s0) := fun x r h => by
  show (s.syms ++ [(("zz", [], s0) : Row)]).find? (fun r => r.1 == x) = some r
  rw [List.find?_append, show s.syms.find? (fun r => r.1 == x) = some r from h]; rfl
theorem more_ne (s : Sg) (s0 : Str) : (moreS s s0).syms ≠ s.syms := fun z => by
  have := congrArg List.length (show s.syms ++ [(("zz", [], s0) : Row)] = s.syms from z)
  rw [List.length_append] at this
  simp at this
theorem rev_nd (hs : SgOk SO NA s) : ((revS s).syms.map (·.1)).Nodup := by
  show (s.syms.reverse.map (·.1)).Nodup
  rw [List.map_reverse]
  exact (List.reverse_perm _).nodup_iff.mpr hs.nnd
theorem rev_g (hs : SgOk SO NA s) : SgG (revS s) := by
  have hg := sgG hs
  refine ⟨hg.so, hg.snd, hg.sne, hg.slen, fun r hr => hg.rows.ok r (List.mem_reverse.mp hr), rev_nd hs, by show s.syms.reverse.length ≤ 16; rw [List.length_reverse]; exact hg.rows.le, by show 1 ≤ s.syms.reverse.length; rw [List.length_reverse]; exact hg.rows.ge⟩
theorem rev_ext (hs : SgOk SO NA s) : Ext s (revS s) := fun x r h => by
  have hm := List.mem_of_find?_eq_some h
  have hx : r.1 = x := by simpa using List.find?_some h
  have := rowOf_mem (s := revS s) (rev_nd hs) (List.mem_reverse.mpr hm)
  rw [hx] at this
  exact this
theorem rev_ne (hs : SgOk SO NA s) : (revS s).syms ≠ s.syms := fun z => by
  have z : s.syms.reverse = s.syms := z
  obtain ⟨r, hr, x, hx⟩ := hs.loop
  have hxs : x ∈ s.sorts := by
    have := (hs.nm r hr).2.2.1
    rw [hx] at this; exact this
  obtain ⟨r', hr', hx'⟩ := hs.con x hxs
  have hne : r ≠ r' := fun e => by rw [e, hx'] at hx; cases hx
  have hlen : 2 ≤ s.syms.length := by
    match h : s.syms, hr, hr' with
    | [], hr, _ => cases hr
    | [a], hr, hr' => rw [List.mem_singleton] at hr hr'; exact absurd (hr.trans hr'.symm) hne
    | a :: b :: l, _, _ => show 2 ≤ l.length + 1 + 1; omega
  have h0 : s.syms.reverse[0]? = s.syms[0]? := by rw [z]
  rw [List.getElem?_reverse (by omega)] at h0
  obtain ⟨a, ha⟩ : ∃ a, s.syms[0]? = some a := ⟨_, List.getElem?_eq_getElem (by omega)⟩
  have hb : s.syms[s.syms.length - 1 - 0]? = some a := by rw [h0, ha]
  have hn := hs.nnd
  have e1 : (s.syms.map (·.1))[0]? = some a.1 := by rw [List.getElem?_map, ha]; rfl
  have e2 : (s.syms.map (·.1))[s.syms.length - 1 - 0]? = some a.1 := by rw [List.getElem?_map, hb]; rfl
  obtain ⟨i1, g1⟩ := List.getElem?_eq_some_iff.mp e1
  obtain ⟨i2, g2⟩ := List.getElem?_eq_some_iff.mp e2
  have := (List.getElem_inj hn).mp (g1.trans g2.symm)
  omega
end

set_option maxHeartbeats 4000000
/-- the law's slots -/
abbrev A21 (i : Int) (s : Sg) (rs : List Rul) (t6 t9 t10 t11 t12 t13 t14 t15 t16 t17 t18 t19 t20 : Slot) : En :=
  [.un, .v .pen, .v (.int i), .v (dSg s), .v (dRs true false rs), .v (dMade s), t6, .v (dBook s rs), .v (dBook s rs), t9, t10, t11, t12, t13, t14, t15, t16, t17, t18, t19, t20]
section
variable {s : Sg} {rs : List Rul} {ρ : En} {ps : Pn} {i j k : Nat} {r : Rul}
theorem mleft (h1 : ρ[i]? = some (.v (dBook s rs))) (h2 : ρ[j]? = some (.v (.int k))) (hr : rs[k]? = some r) : eMeth "Book" "left" f_Book_left (eVar i) (eCons (eVar j) eNil) ρ ps = .ok (dP false r.left) ρ ps :=
  eMeth_ok (ns := ["signs", "rules", "names"]) (xs := [dMade s, dRs false false rs, .tup (dStrs (rs.map fun r : Rul => r.name))]) (eVar_ok h1) (by decide +kernel) (eCons_ok (eVar_ok h2) eNil_ok) (bleft_ok hr ps)
theorem mright (h1 : ρ[i]? = some (.v (dBook s rs))) (h2 : ρ[j]? = some (.v (.int k))) (hr : rs[k]? = some r) : eMeth "Book" "right" f_Book_right (eVar i) (eCons (eVar j) eNil) ρ ps = .ok (dP false r.right) ρ ps :=
  eMeth_ok (ns := ["signs", "rules", "names"]) (xs := [dMade s, dRs false false rs, .tup (dStrs (rs.map fun r : Rul => r.name))]) (eVar_ok h1) (by decide +kernel) (eCons_ok (eVar_ok h2) eNil_ok) (bright_ok hr ps)
theorem mleftK (h1 : ρ[i]? = some (.v (dBook s rs))) (h2 : ρ[j]? = some (.v (.int k))) (hr : rs[k]? = some r) : eMethK "Book" "left" f_Book_left [0] (eVar i) (eCons (eVar j) eNil) ρ ps = .ok (dP false r.left) ρ ps :=
  eMethK_ok (ns := ["signs", "rules", "names"]) (xs := [dMade s, dRs false false rs, .tup (dStrs (rs.map fun r : Rul => r.name))]) (es := [.int k]) (eVar_ok h1) (by decide +kernel) (eCons_ok (eVar_ok h2) eNil_ok) (bleft_ok hr ps)
theorem mrightK (h1 : ρ[i]? = some (.v (dBook s rs))) (h2 : ρ[j]? = some (.v (.int k))) (hr : rs[k]? = some r) : eMethK "Book" "right" f_Book_right [0] (eVar i) (eCons (eVar j) eNil) ρ ps = .ok (dP false r.right) ρ ps :=
  eMethK_ok (ns := ["signs", "rules", "names"]) (xs := [dMade s, dRs false false rs, .tup (dStrs (rs.map fun r : Rul => r.name))]) (es := [.int k]) (eVar_ok h1) (by decide +kernel) (eCons_ok (eVar_ok h2) eNil_ok) (bright_ok hr ps)
theorem ne_side {p : List PW} (h : wordsP p) : neD (dP false p) (dP false p) = some (.bl false) := ne_refl (okD_side false h 57)
/-- two texts of the same -/
theorem reprs_eq {a b : EM D} {ρ : En} {ps : Pn} {xs : List D} {n : Nat} (ha : a ρ ps = .ok (.tup xs) ρ ps) (hb : b ρ ps = .ok (.tup xs) ρ ps) (h : Wt n 60 (.tup xs)) (hn : n ≤ 15500) : eB (eOp2 neD (eOpN reprL (eCons a eNil)) (eOpN reprL (eCons b eNil))) ρ ps = .ok false ρ ps := by
  obtain ⟨r, hr⟩ := repr_ok h hn
  exact eB_ok (eOp2_ok (eOpN_ok (eCons_ok ha eNil_ok) hr) (eOpN_ok (eCons_ok hb eNil_ok) hr) (ne_self_str r))
end
section
variable {s : Sg} {rs : List Rul} {ps : Pn} {i : Int}
theorem idx_loop (hg : SgG s) (h : ∀ r ∈ rs, RuleOk s r) {t6 t9 t14 t15 t16 t17 t18 t19 t20 : Slot} : ∀ (suf pre : List Rul) (t10 t11 t12 t13 : Slot), rs = pre ++ suf →
    ∃ t10' t11' t12' t13', forL (tTupT [tName 10, tTupT [tName 11, tName 12, tName 13]]) m_law_2 (enumL pre.length (suf.map (dR false))) (A21 i s rs t6 t9 t10 t11 t12 t13 t14 t15 t16 t17 t18 t19 t20) ps = .nx (A21 i s rs t6 t9 t10' t11' t12' t13' t14 t15 t16 t17 t18 t19 t20) ps
  | [], pre, t10, t11, t12, t13, _ => ⟨t10, t11, t12, t13, rfl⟩
  | r :: suf, pre, t10, t11, t12, t13, he => by
    have hr : rs[pre.length]? = some r := by rw [he]; simp
    have hrk := h r (List.mem_of_getElem? hr)
    let ρ := A21 i s rs t6 t9 (.v (.int pre.length)) (.v (.str r.name)) (.v (dP false r.left)) (.v (dP false r.right)) t14 t15 t16 t17 t18 t19 t20
    have hwl := gd_words hg hrk.gl
    have hwr := gd_words hg hrk.gr
    have wt : Wt 482 60 (.tup [dP false r.left, dP false r.right]) := wt_tup (n := 240) (m := 2) (fun d hd => by
      simp only [List.mem_cons, List.not_mem_nil, or_false] at hd
      rcases hd with rfl | rfl
      · exact wt_side hwl hrk.ll 56
      · exact wt_side hwr hrk.rl 56) (Nat.le_refl _)
    have b1 := reprs_eq (a := eTup (eCons (eMeth "Book" "left" f_Book_left (eVar 7) (eCons (eVar 10) (eNil))) (eCons (eMethK "Book" "right" f_Book_right [0] (eVar 7) (eCons (eVar 10) (eNil))) (eNil)))) (b := eTup (eCons (eVar 12) (eCons (eVar 13) (eNil)))) (ρ := ρ) (ps := ps) (eTup_ok (eCons_ok (mleft rfl rfl hr) (eCons_ok (mrightK rfl rfl hr) eNil_ok)) (szle (by show 2 < 1000; decide))) (eTup_ok (eCons_ok (eVar_ok rfl) (eCons_ok (eVar_ok rfl) eNil_ok)) (szle (by show 2 < 1000; decide))) wt (by decide)
    have b2 : eB (eOp2 neD (eMethK "Book" "left" f_Book_left [0] (eVar 7) (eCons (eVar 10) (eNil))) (eMeth "Book" "left" f_Book_left (eVar 8) (eCons (eVar 10) (eNil)))) ρ ps = .ok false ρ ps := eB_ok (eOp2_ok (mleftK rfl rfl hr) (mleft rfl rfl hr) (ne_side hwl))
    have b3 : eB (eOp2 neD (eMeth "Book" "right" f_Book_right (eVar 8) (eCons (eVar 10) (eNil))) (eVar 13)) ρ ps = .ok false ρ ps := eB_ok (eOp2_ok (mright rfl rfl hr) (eVar_ok rfl) (ne_side hwr))
    have e2 : m_law_2 ρ ps = .nx ρ ps := sIf_F (bOr_go b1 (bOr_go b2 b3)) rfl
    obtain ⟨t10', t11', t12', t13', ih⟩ := idx_loop hg h (t6 := t6) (t9 := t9) (t14 := t14) (t15 := t15) (t16 := t16) (t17 := t17) (t18 := t18) (t19 := t19) (t20 := t20) suf (pre ++ [r]) (.v (.int pre.length)) (.v (.str r.name)) (.v (dP false r.left)) (.v (dP false r.right)) (by rw [he, List.append_assoc]; rfl)
    refine ⟨t10', t11', t12', t13', ?_⟩
    have hl : (pre ++ [r]).length = pre.length + 1 := by rw [List.length_append]; rfl
    rw [hl] at ih
    exact (forL_nx (x := .tup [.int pre.length, dR false r]) (ρ1 := ρ) rfl e2).trans ih
/-- the beginning of a turn -/
theorem begin_ok (hs : SgOk SO NA s) (hf : Five s rs) {t9 t10 t11 t12 t13 t14 t15 t16 t17 t18 t19 t20 : Slot} :
    m_law_23 (A21 i s rs (.v (dRs true true rs)) .un t10 t11 t12 t13 t14 t15 t16 t17 t18 t19 t20) ps = .nx (A21 i s rs (.v (dRs true true rs)) .un t10 t11 t12 t13 t14 t15 t16 t17 t18 t19 t20) ps := by
  have hg := sgG hs
  have hk := hf.ok.ok
  have h6 : rs.length ≤ 6 := by rw [hf.len]; decide
  let ρ := A21 i s rs (.v (dRs true true rs)) .un t10 t11 t12 t13 t14 t15 t16 t17 t18 t19 t20
  have hn : eOpN tupleD (eCons (eFz (fComp (iSq (eVar 4)) (tName 9) [9] (tYesE) (eIdx (eVar 9) (eC (.int 0))))) eNil) ρ ps = .ok (.tup (dStrs (rs.map (·.name)))) ρ ps := by
    have hc : fComp (iSq (eVar 4)) (tName 9) [9] (tYesE) (eIdx (eVar 9) (eC (.int 0))) ρ ps = .ok (rs.filterMap fun r => some (.str r.name)) ρ ps :=
      fComp_map (dR false) _ rs (by omega) (iSq_ok (x := dRs true false rs) (eVar_ok rfl) rfl) (by rfl) (fun r hr => ⟨_, _, _, rfl, rfl, eIdx_ok (eVar_ok rfl) eC_ok (sq_pen false _) (ix0_sq false), rfl⟩) rfl
    have hm : (rs.filterMap fun r => some (D.str r.name)) = dStrs (rs.map (·.name)) := by
      rw [List.filterMap_eq_map' (f := fun r : Rul => D.str r.name)]
      unfold dStrs; rw [List.map_map]; rfl
    rw [hm] at hc
    exact eOpN_ok (eCons_ok (eFz_ok hc) eNil_ok) rfl
  have wt : Wt 8690 60 (.tup [dRs false false rs, .tup (dStrs (rs.map (·.name)))]) := wt_tup (n := 4344) (m := 2) (k := 59) (fun d hd => by
    simp only [List.mem_cons, List.not_mem_nil, or_false] at hd
    rcases hd with rfl | rfl
    · exact wt_rules hg hk h6 54
    · exact wt_mono (wt_names hk h6 57) (by decide)) (Nat.le_refl _)
  have hrt : eOpN tupleD (eCons (eVar 4) eNil) ρ ps = .ok (dRs false false rs) ρ ps := eOpN_ok (x := [dRs true false rs]) (eCons_ok (eVar_ok rfl) eNil_ok) rfl
  have b1 := reprs_eq (a := eTup (eCons (eOp1 (fldD "Book" "rules") (eVar 7)) (eCons (eOp1 (fldD "Book" "names") (eVar 7)) (eNil)))) (b := eTup (eCons (eOpN tupleD (eCons (eVar 4) eNil)) (eCons (eOpN tupleD (eCons (eFz (fComp (iSq (eVar 4)) (tName 9) [9] (tYesE) (eIdx (eVar 9) (eC (.int 0))))) eNil)) (eNil)))) (ρ := ρ) (ps := ps)
    (eTup_ok (eCons_ok (eOp1_ok (eVar_ok rfl) (fld_brules s rs)) (eCons_ok (eOp1_ok (eVar_ok rfl) (fld_bnames s rs)) eNil_ok)) (szle (by show 2 < 1000; decide))) (eTup_ok (eCons_ok hrt (eCons_ok hn eNil_ok)) (szle (by show 2 < 1000; decide))) wt (by decide)
  have b2 : eB (eEqI "Signs" f_Signs___eq__ true (eOp1 (fldD "Book" "signs") (eVar 7)) (eVar 5)) ρ ps = .ok false ρ ps := by
    have := eEqI_ok (cn := "Signs") (f := f_Signs___eq__) (neg := true) (ma := eOp1 (fldD "Book" "signs") (eVar 7)) (mb := eVar 5) (ρ := ρ) (ps := ps) (eOp1_ok (eVar_ok rfl) (fld_bsigns s rs)) (eVar_ok (d := dMade s) rfl) (eqR_made s) (signs_eq hg hg ps)
    simp only [decide_true, Bool.and_self, Bool.not_true, if_true] at this
    exact eB_ok this
  have b3 : eB (eEqI "Book" f_Book___eq__ true (eVar 7) (eVar 8)) ρ ps = .ok false ρ ps := by
    have := eEqI_ok (cn := "Book") (f := f_Book___eq__) (neg := true) (ma := eVar 7) (mb := eVar 8) (ρ := ρ) (ps := ps) (eVar_ok (d := dBook s rs) rfl) (eVar_ok (d := dBook s rs) rfl) (eqR_book s rs) (book_eq hg hg hk hk ps)
    simp only [decide_true, Bool.and_self, Bool.not_true, if_true] at this
    exact eB_ok this
  have b4 : eB (eEqI "Book" f_Book___eq__ false (eVar 7) (eOp1 (fldD "Book" "rules") (eVar 7))) ρ ps = .ok false ρ ps := by
    have := eEqI_ok (cn := "Book") (f := f_Book___eq__) (neg := false) (ma := eVar 7) (mb := eOp1 (fldD "Book" "rules") (eVar 7)) (ρ := ρ) (ps := ps) (eVar_ok (d := dBook s rs) rfl) (eOp1_ok (eVar_ok rfl) (fld_brules s rs)) rfl (book_eq_tup s rs (rs.map (dR false)) ps)
    exact eB_ok this
  exact sIf_F (bOr_go b1 (bOr_go b2 (bOr_go b3 b4))) rfl
end

set_option maxHeartbeats 4000000
theorem q_ok : ∀ x ∈ VN, okS (qS x) = true := by decide +kernel
/-- words of a side, the variables of VN -/
def vnP (p : List PW) : Prop := ∀ x ∈ vars p, x ∈ VN
theorem vn_word {p : List PW} (h : vnP p) {x : Str} (hx : PW.v x ∈ p) : x ∈ VN := h x (List.mem_filterMap.mpr ⟨_, hx, rfl⟩)
section
variable {i : Int} {s : Sg} {rs : List Rul} {t6 t9 t10 t11 t12 t13 t14 t15 t17 t18 t19 t20 : Slot} {ps : Pn}
abbrev eltQ : EM D := eIf (bNot (eB (eOp1 (isiD "str") (eVar 16)))) (eTup (eCons (eOp2 addD (eC (.str "q")) (eIdx (eVar 16) (eC (.int 0)))) (eNil))) (eVar 16)
theorem ren_comp {p : List PW} (hv : vnP p) (hl : p.length < 900) {j : Nat} (hj : (A21 i s rs t6 t9 t10 t11 t12 t13 t14 t15 .un t17 t18 t19 t20)[j]? = some (.v (dP false p))) :
    fComp (iSq (eVar j)) (tName 16) [16] (tYesE) eltQ (A21 i s rs t6 t9 t10 t11 t12 t13 t14 t15 .un t17 t18 t19 t20) ps = .ok ((p.map qv).map (dW false)) (A21 i s rs t6 t9 t10 t11 t12 t13 t14 t15 .un t17 t18 t19 t20) ps := by
  have hm : (p.map qv).map (dW false) = p.filterMap fun w => some (dW false (qv w)) := by
    rw [List.filterMap_eq_map' (f := fun w => dW false (qv w)), List.map_map]; rfl
  rw [hm]
  refine fComp_map (dW false) _ p (by omega) (iSq_ok (eVar_ok hj) rfl) (by rfl) (fun w hw => ?_) rfl
  cases w with
  | w x =>
    have hb : bNot (eB (eOp1 (isiD "str") (eVar 16))) (A21 i s rs t6 t9 t10 t11 t12 t13 t14 t15 (.v (.str x)) t17 t18 t19 t20) ps = .ok false (A21 i s rs t6 t9 t10 t11 t12 t13 t14 t15 (.v (.str x)) t17 t18 t19 t20) ps := bNot_ok (b := true) (eB_ok (eOp1_ok (eVar_ok rfl) is_str))
    exact ⟨_, _, _, rfl, rfl, eIf_F hb (eVar_ok rfl), rfl⟩
  | v x =>
    have hb : bNot (eB (eOp1 (isiD "str") (eVar 16))) (A21 i s rs t6 t9 t10 t11 t12 t13 t14 t15 (.v (.tup [.str x])) t17 t18 t19 t20) ps = .ok true (A21 i s rs t6 t9 t10 t11 t12 t13 t14 t15 (.v (.tup [.str x])) t17 t18 t19 t20) ps := bNot_ok (b := false) (eB_ok (eOp1_ok (eVar_ok rfl) is_str_t))
    exact ⟨_, _, _, rfl, rfl, eIf_T hb (eTup_ok (eCons_ok (eOp2_ok eC_ok (eIdx_ok (eVar_ok rfl) eC_ok (by intro z; cases z) (ix0_sq false)) (q_add x (vn_word hv hw))) eNil_ok) (szle (by show 1 < 1000; decide))), rfl⟩
/-! the rules but one -/
theorem cut_take_rs {k : Nat} (hk : k ≤ rs.length) (hl : rs.length < 900) {ρ : En} {j m : Nat} (hj : ρ[j]? = some (.v (dRs true false rs))) (hm : ρ[m]? = some (.v (.int k))) : fSl (eVar j) (oNone) (oSome (eVar m)) ρ ps = .ok ((rs.take k).map (dR false)) ρ ps := by
  have c : cutD (rs.map (dR false)) none (some (k : Int)) = (rs.take k).map (dR false) := by rw [cut_take _ (by rw [List.length_map]; exact hk), List.map_take]
  rw [← c]
  exact fSl_ok (eVar_ok hj) rfl (oSome_ok (eVar_ok hm))
theorem cut_drop_rs {k : Nat} (hk : k + 1 ≤ rs.length) (hl : rs.length < 900) {ρ : En} {j m : Nat} (hj : ρ[j]? = some (.v (dRs true false rs))) (hm : ρ[m]? = some (.v (.int k))) : fSl (eVar j) (oSome (eOp2 addD (eVar m) (eC (.int 1)))) (oNone) ρ ps = .ok ((rs.drop (k + 1)).map (dR false)) ρ ps := by
  have c : cutD (rs.map (dR false)) (some ((k + 1 : Nat) : Int)) none = (rs.drop (k + 1)).map (dR false) := by rw [cut_from _ (by rw [List.length_map]; exact hk), List.map_drop]
  rw [← c]
  refine fSl_ok (eVar_ok hj) (oSome_ok (i := ((k + 1 : Nat) : Int)) (eOp2_ok (eVar_ok hm) eC_ok ?_)) rfl
  rw [add_int]; rfl
theorem cat3 {a b c : EM (List D)} {ρ : En} {xs ys zs : List Rul} (h1 : a ρ ps = .ok (xs.map (dR false)) ρ ps) (h2 : b ρ ps = .ok (ys.map (dR false)) ρ ps) (h3 : c ρ ps = .ok (zs.map (dR false)) ρ ps) (hl : xs.length + ys.length + zs.length < 900) :
    eFz (fCat (eFz (fCat (eFz a) (eFz b))) (eFz c)) ρ ps = .ok (dRs true false (xs ++ ys ++ zs)) ρ ps := by
  have : dRs true false (xs ++ ys ++ zs) = .lst ((xs.map (dR false) ++ ys.map (dR false)) ++ zs.map (dR false)) := by
    show D.lst ((xs ++ ys ++ zs).map (dR false)) = _
    rw [List.map_append, List.map_append]
  rw [this]
  exact eFz_ok (fCat_ok (eFz_ok (fCat_ok (eFz_ok h1) (eFz_ok h2) (szle (by rw [List.length_map, List.length_map]; omega)))) (eFz_ok h3) (szle (by rw [List.length_append, List.length_map, List.length_map, List.length_map]; omega)))
theorem cat2 {a b : EM (List D)} {ρ : En} {xs ys : List Rul} (h1 : a ρ ps = .ok (xs.map (dR false)) ρ ps) (h2 : b ρ ps = .ok (ys.map (dR false)) ρ ps) (hl : xs.length + ys.length < 900) :
    eFz (fCat (eFz a) (eFz b)) ρ ps = .ok (dRs true false (xs ++ ys)) ρ ps := by
  have : dRs true false (xs ++ ys) = .lst (xs.map (dR false) ++ ys.map (dR false)) := by
    show D.lst ((xs ++ ys).map (dR false)) = _
    rw [List.map_append]
  rw [this]
  exact eFz_ok (fCat_ok (eFz_ok h1) (eFz_ok h2) (szle (by rw [List.length_map, List.length_map]; omega)))
end
/-- the state behind the draw of a rule -/
abbrev C21 (i : Int) (s : Sg) (rs : List Rul) (k : Nat) (r : Rul) (t10 t15 t17 t18 t19 t20 : Slot) : En :=
  A21 i s rs (.v (dRs true true rs)) .un t10 (.v (.str r.name)) (.v (dP false r.left)) (.v (dP false r.right)) (.v (.int k)) t15 .un t17 t18 t19 t20
abbrev lsS (Ls : List (List Rul)) : Slot := .ol (Ls.map (dRs true false))
def Chg05 (s : Sg) (rs l : List Rul) : Prop := BookOk s l ∧ l ≠ rs
section
variable {i : Int} {s : Sg} {rs : List Rul} {k : Nat} {r : Rul} {t10 t15 t17 t18 t19 t20 : Slot} {ps : Pn}
theorem zz_tup {ρ : En} (h12 : ρ[12]? = some (.v (dP false r.left))) (h13 : ρ[13]? = some (.v (dP false r.right))) : eLst (eCons (eTup (eCons (eC (.str "zz")) (eCons (eVar 12) (eCons (eVar 13) (eNil))))) (eNil)) ρ ps = .ok ([zzR r].map (dR false)) ρ ps :=
  eLst_ok (eCons_ok (eTup_ok (eCons_ok eC_ok (eCons_ok (eVar_ok h12) (eCons_ok (eVar_ok h13) eNil_ok))) (szle (by show 3 < 1000; decide))) eNil_ok) (szle (by show 1 < 1000; decide))
theorem m12 (hf : Five s rs) (hk : rs[k]? = some r) : m_law_12 (C21 i s rs k r t10 t15 t17 t18 t19 t20) ps = .nx (C21 i s rs k r t10 t15 (lsS [rs.take k ++ rs.drop (k + 1), rs.take k ++ [zzR r] ++ rs.drop (k + 1), rs ++ [zzR r]]) t18 t19 t20) ps := by
  have hl := (List.getElem?_eq_some_iff.mp hk).1
  have h5 := hf.len
  let ρ := C21 i s rs k r t10 t15 t17 t18 t19 t20
  have a1 : fSl (eVar 4) (oNone) (oSome (eVar 14)) ρ ps = .ok ((rs.take k).map (dR false)) ρ ps := cut_take_rs (by omega) (by omega) rfl rfl
  have a2 : fSl (eVar 4) (oSome (eOp2 addD (eVar 14) (eC (.int 1)))) (oNone) ρ ps = .ok ((rs.drop (k + 1)).map (dR false)) ρ ps := cut_drop_rs (by omega) (by omega) rfl rfl
  have a3 := zz_tup (r := r) (ρ := ρ) (ps := ps) rfl rfl
  have lt : (rs.take k).length ≤ 5 := by rw [List.length_take]; omega
  have ld : (rs.drop (k + 1)).length ≤ 5 := by rw [List.length_drop]; omega
  have c1 := cat2 a1 a2 (by omega)
  have c2 := cat3 a1 a3 a2 (by show _ + 1 + _ < 900; omega)
  have c3 : eFz (fCat (eVar 4) (eFz (eLst (eCons (eTup (eCons (eC (.str "zz")) (eCons (eVar 12) (eCons (eVar 13) (eNil))))) (eNil))))) ρ ps = .ok (dRs true false (rs ++ [zzR r])) ρ ps := by
    have : dRs true false (rs ++ [zzR r]) = .lst (rs.map (dR false) ++ [zzR r].map (dR false)) := by
      show D.lst ((rs ++ [zzR r]).map (dR false)) = _
      rw [List.map_append]
    rw [this]
    exact eFz_ok (fCat_ok (eVar_ok rfl) (eFz_ok a3) (szle (by rw [List.length_map, List.length_map]; show _ + 1 < 1000; omega)))
  exact sOwnS_ok (ρ1 := ρ) (ds := [dRs true false (rs.take k ++ rs.drop (k + 1)), dRs true false (rs.take k ++ [zzR r] ++ rs.drop (k + 1)), dRs true false (rs ++ [zzR r])]) (eLst_ok (eCons_ok c1 (eCons_ok c2 (eCons_ok c3 eNil_ok))) (szle (by show 3 < 1000; decide))) (by show 17 < 21; decide)
def longW : PW → Bool
  | .w _ => false
  | .v x => decide (7 < x.length)
theorem neD_lst {xs ys : List D} (h1 : okD 60 (.lst xs) = true) (h2 : okD 60 (.lst ys) = true) : neD (.lst xs) (.lst ys) = some (.bl (!eqvL xs ys)) := by
  unfold neD
  rw [if_neg (show ¬ scD (.lst xs) (.lst ys) = true by simp [scD]), if_pos ⟨h1, h2⟩]; rfl
theorem m13 (hs : SgOk SO NA s) (hf : Five s rs) (hk : rs[k]? = some r) {Ls : List (List Rul)} (hL : ∀ l ∈ Ls, Chg05 s rs l) (hLl : Ls.length < 900) :
    ∃ (Ls' : List (List Rul)) (t18' : Slot), m_law_13 (C21 i s rs k r t10 (.v (.lst ((r.left.map qv).map (dW false)))) (lsS Ls) t18 t19 t20) ps = .nx (C21 i s rs k r t10 (.v (.lst ((r.left.map qv).map (dW false)))) (lsS Ls') t18' t19 t20) ps ∧ (∀ l ∈ Ls', Chg05 s rs l) ∧ Ls'.length ≤ Ls.length + 1 := by
  have hg := sgG hs
  have hd := hf.dr r (List.mem_of_getElem? hk)
  have hl5 := (List.getElem?_eq_some_iff.mp hk).1
  have h5 := hf.len
  have hwl := gd_words hg hd.ok.gl
  have hlen := hd.len.1
  let ρ := C21 i s rs k r t10 (.v (.lst ((r.left.map qv).map (dW false)))) (lsS Ls) t18 t19 t20
  have ok1 : okD 60 (.lst ((r.left.map qv).map (dW false))) = true := okD_lst (k := 59) fun d hdd => by
    obtain ⟨w, hw, rfl⟩ := List.mem_map.mp hdd
    obtain ⟨v, hv, rfl⟩ := List.mem_map.mp hw
    cases v with
    | w x => exact okD_str (k := 58) (hwl _ hv)
    | v x =>
      refine okD_tup (k := 58) fun y hy => ?_
      rw [List.mem_singleton] at hy
      subst hy
      have := q_ok x (vn_word hd.vn hv)
      show okD 58 (.str (qS x)) = true
      simp [okD, this]
  have ok2 : okD 60 (.lst (r.left.map (dW false))) = true := okD_lst (k := 59) fun d hdd => by
    obtain ⟨w, hw, rfl⟩ := List.mem_map.mp hdd
    exact okD_word false (hwl w hw) 57
  have b1 : eB (eOp2 neD (eVar 15) (eFz (fList (eCons (eVar 12) (eNil))))) ρ ps = .ok (!decide (r.left.map qv = r.left)) ρ ps := by
    refine eB_ok (eOp2_ok (x := .lst ((r.left.map qv).map (dW false))) (y := .lst (r.left.map (dW false))) (eVar_ok rfl) (eFz_ok (fList_ok (x := dP false r.left) (eVar_ok rfl) rfl)) ?_)
    rw [neD_lst ok1 ok2, eqvL_map (dW false) eqv_word]
  have hc : fComp (iSq (eVar 12)) (tName 16) [16] (bAnd (bNot (eB (eOp1 (isiD "str") (eVar 16)))) (eB (eOp2 gtD (eOpN lenD (eCons (eIdx (eVar 16) (eC (.int 0))) eNil)) (eC (.int 7))))) (eVar 16) ρ ps = .ok ((r.left.filter longW).map (dW false)) ρ ps := by
    rw [filt_map]
    refine fComp_map (dW false) _ r.left (by omega) (iSq_ok (x := dP false r.left) (eVar_ok rfl) rfl) (by rfl) (fun w hw => ?_) rfl
    cases w with
    | w x =>
      refine ⟨_, _, rfl, bAnd_f (bNot_ok (b := true) (eB_ok (eOp1_ok (eVar_ok (d := .str x) rfl) is_str))), rfl⟩
    | v x =>
      let ρw : En := A21 i s rs (.v (dRs true true rs)) .un t10 (.v (.str r.name)) (.v (dP false r.left)) (.v (dP false r.right)) (.v (.int k)) (.v (.lst ((r.left.map qv).map (dW false)))) (.v (.tup [.str x])) (lsS Ls) t18 t19 t20
      have ht : bAnd (bNot (eB (eOp1 (isiD "str") (eVar 16)))) (eB (eOp2 gtD (eOpN lenD (eCons (eIdx (eVar 16) (eC (.int 0))) eNil)) (eC (.int 7)))) ρw ps = .ok (decide (7 < x.length)) ρw ps := by
        refine bAnd_go (bNot_ok (b := false) (eB_ok (eOp1_ok (eVar_ok rfl) is_str_t))) (eB_ok (eOp2_ok (x := .int x.length) (eOpN_ok (eCons_ok (eIdx_ok (eVar_ok rfl) eC_ok (by intro z; cases z) (ix0_sq false)) eNil_ok) (q_len x (vn_word hd.vn hw))) eC_ok ?_))
        rw [gt_int]
        congr 2
        by_cases z : 7 < x.length
        · rw [decide_eq_true z, decide_eq_true (by omega)]
        · rw [decide_eq_false z, decide_eq_false (by omega)]
      show StepC _ _ _ _ _ _ _ (if decide (7 < x.length) = true then some (dW false (.v x)) else none)
      cases z : decide (7 < x.length) with
      | true =>
        rw [z] at ht
        exact ⟨ρw, ρw, ρw, rfl, ht, eVar_ok rfl, rfl⟩
      | false =>
        rw [z] at ht
        exact ⟨ρw, ρw, rfl, ht, rfl⟩
  have b2 : eB (eOp2 eqD (eFz (fComp (iSq (eVar 12)) (tName 16) [16] (bAnd (bNot (eB (eOp1 (isiD "str") (eVar 16)))) (eB (eOp2 gtD (eOpN lenD (eCons (eIdx (eVar 16) (eC (.int 0))) eNil)) (eC (.int 7))))) (eVar 16))) (eFz (eLst (eNil)))) ρ ps = .ok ((r.left.filter longW).map (dW false)).isEmpty ρ ps := by
    refine eB_ok (eOp2_ok (eFz_ok hc) (eFz_ok (eLst_ok eNil_ok (Nat.zero_le _))) (eq_empty (okD_lst (k := 59) fun d hdd => ?_)))
    obtain ⟨w, hw, rfl⟩ := List.mem_map.mp hdd
    exact okD_word false (hwl w (List.mem_filter.mp hw).1) 57
  by_cases h1 : r.left.map qv = r.left
  · rw [decide_eq_true h1] at b1
    exact ⟨Ls, t18, sIf_F (bAnd_f b1) rfl, hL, by omega⟩
  · rw [decide_eq_false h1] at b1
    cases h2 : ((r.left.filter longW).map (dW false)).isEmpty with
    | false =>
      rw [h2] at b2
      exact ⟨Ls, t18, sIf_F (bAnd_go b1 b2) rfl, hL, by omega⟩
    | true =>
      rw [h2] at b2
      have hshort : ∀ x ∈ vars r.left, x ∈ VN ∧ x.length ≤ 7 := fun x hx => by
        refine ⟨hd.vn x hx, ?_⟩
        obtain ⟨w, hw, e⟩ := List.mem_filterMap.mp hx
        cases w with
        | w y => cases e
        | v y =>
          cases e
          have h3 : r.left.filter longW = [] := by simpa using h2
          have h4 := List.filter_eq_nil_iff.mp h3 _ hw
          simp [longW] at h4
          omega
      have hright : vnP r.right := fun x hx => hd.vn x (hd.ok.sub x hx)
      let ρ3 := C21 i s rs k r t10 (.v (.lst ((r.left.map qv).map (dW false)))) (lsS Ls) (.v (dP false (r.right.map qv))) t19 t20
      have e3 : m_law_3 ρ ps = .nx ρ3 ps := by
        refine sAsg_ok (ρ1 := ρ) (d := dP false (r.right.map qv)) (eOpN_ok (x := [.lst ((r.right.map qv).map (dW false))]) (eCons_ok (eFz_ok ?_) eNil_ok) rfl) rfl
        exact ren_comp hright (by have := hd.len.2; omega) rfl
      have lt : (rs.take k).length ≤ 5 := by rw [List.length_take]; omega
      have ld : (rs.drop (k + 1)).length ≤ 5 := by rw [List.length_drop]; omega
      have a1 : fSl (eVar 4) (oNone) (oSome (eVar 14)) ρ3 ps = .ok ((rs.take k).map (dR false)) ρ3 ps := cut_take_rs (by omega) (by omega) rfl rfl
      have a2 : fSl (eVar 4) (oSome (eOp2 addD (eVar 14) (eC (.int 1)))) (oNone) ρ3 ps = .ok ((rs.drop (k + 1)).map (dR false)) ρ3 ps := cut_drop_rs (by omega) (by omega) rfl rfl
      have a3 : eLst (eCons (eTup (eCons (eVar 11) (eCons (eOpN tupleD (eCons (eVar 15) eNil)) (eCons (eVar 18) (eNil))))) (eNil)) ρ3 ps = .ok ([renR r].map (dR false)) ρ3 ps :=
        eLst_ok (eCons_ok (eTup_ok (eCons_ok (eVar_ok rfl) (eCons_ok (eOpN_ok (x := [.lst ((r.left.map qv).map (dW false))]) (eCons_ok (eVar_ok rfl) eNil_ok) rfl) (eCons_ok (eVar_ok rfl) eNil_ok))) (szle (by show 3 < 1000; decide))) eNil_ok) (szle (by show 1 < 1000; decide))
      have c2 := cat3 a1 a3 a2 (by show _ + 1 + _ < 900; omega)
      have e4 : m_law_4 ρ3 ps = .nx (C21 i s rs k r t10 (.v (.lst ((r.left.map qv).map (dW false)))) (lsS (Ls ++ [rs.take k ++ [renR r] ++ rs.drop (k + 1)])) (.v (dP false (r.right.map qv))) t19 t20) ps := by
        refine (sApp_ok (i := 17) (ρ1 := ρ3) (xs0 := Ls.map (dRs true false)) (xs := Ls.map (dRs true false)) (d := dRs true false (rs.take k ++ [renR r] ++ rs.drop (k + 1))) rfl c2 rfl (by rw [List.length_map]; omega)).trans ?_
        have : (Ls ++ [rs.take k ++ [renR r] ++ rs.drop (k + 1)]).map (dRs true false) = Ls.map (dRs true false) ++ [dRs true false (rs.take k ++ [renR r] ++ rs.drop (k + 1))] := by rw [List.map_append]; rfl
        show PL.SOut.nx (C21 i s rs k r t10 (.v (.lst ((r.left.map qv).map (dW false)))) (.ol (Ls.map (dRs true false) ++ [dRs true false (rs.take k ++ [renR r] ++ rs.drop (k + 1))])) (.v (dP false (r.right.map qv))) t19 t20) ps = .nx (C21 i s rs k r t10 (.v (.lst ((r.left.map qv).map (dW false)))) (.ol ((Ls ++ [rs.take k ++ [renR r] ++ rs.drop (k + 1)]).map (dRs true false))) (.v (dP false (r.right.map qv))) t19 t20) ps
        rw [this]
      refine ⟨_, _, sIf_T (bAnd_go b1 b2) (sSeq_go e3 e4), fun l hl => ?_, by rw [List.length_append]; exact Nat.le_refl _⟩
      rcases List.mem_append.mp hl with hl | hl
      · exact hL l hl
      · rw [List.mem_singleton] at hl
        subst hl
        rw [List.append_assoc]
        exact set_ok hf hk (hd.ok.ren hshort) (.inl rfl) (fun z => h1 (congrArg Rul.left z))
end

set_option maxHeartbeats 4000000
section
variable {i : Int} {s : Sg} {rs : List Rul} {k : Nat} {r : Rul} {t10 t15 t17 t18 t19 t20 : Slot} {ps : Pn}
theorem m14 (hf : Five s rs) {Ls : List (List Rul)} (hL : ∀ l ∈ Ls, Chg05 s rs l) (hLl : Ls.length < 900) :
    ∃ Ls', m_law_14 (C21 i s rs k r t10 t15 (lsS Ls) t18 t19 t20) ps = .nx (C21 i s rs k r t10 t15 (lsS Ls') t18 t19 t20) ps ∧ (∀ l ∈ Ls', Chg05 s rs l) ∧ Ls'.length ≤ Ls.length + 1 := by
  have h5 := hf.len
  let ρ := C21 i s rs k r t10 t15 (lsS Ls) t18 t19 t20
  have b1 : eB (eOp2 gtD (eOpN lenD (eCons (eVar 4) eNil)) (eC (.int 1))) ρ ps = .ok true ρ ps := by
    refine eB_ok (eOp2_ok (x := .int rs.length) (eOpN_ok (x := [dRs true false rs]) (eCons_ok (eVar_ok rfl) eNil_ok) ?_) eC_ok ?_)
    · show lenD [sq true (rs.map (dR false))] = _
      rw [len_sq, List.length_map]
    · rw [gt_int, h5]; rfl
  have a1 : fSl (eVar 4) (oSome (eC (.int 1))) (oNone) ρ ps = .ok ((rs.drop 1).map (dR false)) ρ ps := by
    have c : cutD (rs.map (dR false)) (some ((1 : Nat) : Int)) none = (rs.drop 1).map (dR false) := by rw [cut_from _ (by rw [List.length_map]; omega), List.map_drop]
    rw [← c]
    exact fSl_ok (eVar_ok rfl) rfl rfl
  have a2 : fSl (eVar 4) (oNone) (oSome (eC (.int 1))) ρ ps = .ok ((rs.take 1).map (dR false)) ρ ps := by
    have c : cutD (rs.map (dR false)) none (some ((1 : Nat) : Int)) = (rs.take 1).map (dR false) := by rw [cut_take _ (by rw [List.length_map]; omega), List.map_take]
    rw [← c]
    exact fSl_ok (eVar_ok rfl) rfl rfl
  have c2 := cat2 a1 a2 (by rw [List.length_drop, List.length_take]; omega)
  refine ⟨Ls ++ [rs.drop 1 ++ rs.take 1], sIf_T b1 ?_, fun l hl => ?_, by rw [List.length_append]; exact Nat.le_refl _⟩
  · refine (sApp_ok (i := 17) (ρ1 := ρ) (xs0 := Ls.map (dRs true false)) (xs := Ls.map (dRs true false)) (d := dRs true false (rs.drop 1 ++ rs.take 1)) rfl c2 rfl (by rw [List.length_map]; omega)).trans ?_
    have : (Ls ++ [rs.drop 1 ++ rs.take 1]).map (dRs true false) = Ls.map (dRs true false) ++ [dRs true false (rs.drop 1 ++ rs.take 1)] := by rw [List.map_append]; rfl
    show PL.SOut.nx (C21 i s rs k r t10 t15 (.ol (Ls.map (dRs true false) ++ [dRs true false (rs.drop 1 ++ rs.take 1)])) t18 t19 t20) ps = .nx (C21 i s rs k r t10 t15 (.ol ((Ls ++ [rs.drop 1 ++ rs.take 1]).map (dRs true false))) t18 t19 t20) ps
    rw [this]
  · rcases List.mem_append.mp hl with hl | hl
    · exact hL l hl
    · rw [List.mem_singleton] at hl
      subst hl
      exact turn_ok hf
theorem chg_loop (hs : SgOk SO NA s) (hf : Five s rs) {t16 : Slot} : ∀ (Ls : List (List Rul)) (t19 : Slot), (∀ l ∈ Ls, Chg05 s rs l) →
    ∃ t19', forL (tName 19) m_law_7 (Ls.map (dRs true false)) (C21 i s rs k r t10 t15 t17 t18 t19 t20) ps = .nx (C21 i s rs k r t10 t15 t17 t18 t19' t20) ps
  | [], t19, _ => ⟨t19, rfl⟩
  | l :: Ls, t19, hL => by
    have hg := sgG hs
    obtain ⟨hb, hne⟩ := hL l (List.mem_cons_self ..)
    let ρ := C21 i s rs k r t10 t15 t17 t18 (.v (dRs true false l)) t20
    have mk : eMake "Book" i_Book (eCons (eVar 5) (eCons (eVar 19) (eNil))) ρ ps = .ok (dBook s l) ρ ps := eMake_ok (eCons_ok (eVar_ok rfl) (eCons_ok (eVar_ok rfl) eNil_ok)) (book_ok hg true false hb ps)
    have q1 := eEqI_ok (cn := "Book") (f := f_Book___eq__) (neg := false) (ma := eMake "Book" i_Book (eCons (eVar 5) (eCons (eVar 19) (eNil)))) (mb := eVar 7) (ρ := ρ) (ps := ps) mk (eVar_ok (d := dBook s rs) rfl) (eqR_book s rs) (book_eq hg hg hb.ok hf.ok.ok ps)
    have q2 := eEqI_ok (cn := "Book") (f := f_Book___eq__) (neg := true) (ma := eMake "Book" i_Book (eCons (eVar 5) (eCons (eVar 19) (eNil)))) (mb := eVar 7) (ρ := ρ) (ps := ps) mk (eVar_ok (d := dBook s rs) rfl) (eqR_book s rs) (book_eq hg hg hb.ok hf.ok.ok ps)
    rw [decide_eq_false hne, Bool.and_false] at q1 q2
    have e7 : m_law_7 ρ ps = .nx ρ ps := sIf_F (bOr_go (eB_ok q1) (bNot_ok (b := true) (eB_ok q2))) rfl
    obtain ⟨t19', e⟩ := chg_loop hs hf (t16 := t16) Ls (.v (dRs true false l)) (fun x hx => hL x (List.mem_cons_of_mem _ hx))
    exact ⟨t19', (forL_nx (t := tName 19) (x := dRs true false l) rfl e7).trans e⟩
/-! what the mutation leaves -/
theorem ap_strs (f : Str) : ∀ xs : List Str, apL f (dStrs xs) = true
  | [] => rfl
  | x :: xs => by
    show (apD f (.str x) && apL f (dStrs xs)) = true
    rw [ap_strs f xs]; rfl
theorem ap_map {α : Type} (f : Str) (g : α → D) (h : ∀ x, apD f (g x) = true) : ∀ xs : List α, apL f (xs.map g) = true
  | [] => rfl
  | x :: xs => by
    show (apD f (g x) && apL f (xs.map g)) = true
    rw [h, ap_map f g h xs]; rfl
theorem ap_row (f : Str) (r : Row) : apD f (dRow r) = true := by
  show (apD f (.str r.1) && (apD f (.tup (dStrs r.2.1)) && (apD f (.str r.2.2) && apL f []))) = true
  rw [show apD f (.tup (dStrs r.2.1)) = apL f (dStrs r.2.1) from rfl, ap_strs]; rfl
theorem ap_word (f : Str) (w : PW) : apD f (dW false w) = true := by cases w <;> rfl
theorem ap_rule (f : Str) (r : Rul) : apD f (dR false r) = true := by
  show (apD f (.str r.name) && (apD f (dP false r.left) && (apD f (dP false r.right) && apL f []))) = true
  rw [show apD f (dP false r.left) = apL f (r.left.map (dW false)) from rfl, show apD f (dP false r.right) = apL f (r.right.map (dW false)) from rfl, ap_map f _ (ap_word f), ap_map f _ (ap_word f)]; rfl
theorem SO_NA : ∀ x ∈ SO, ∀ y ∈ NA, x ≠ y := by decide +kernel
theorem mut_ok (hs : SgOk SO NA s) (hf : Five s rs) (hk : rs[k]? = some r) : m_law_16 (C21 i s rs k r t10 t15 t17 t18 t19 t20) ps = .nx (A21 i s rs .un .un .un .un .un .un .un .un .un .un .un .un .un) ps := by
  have hd := hf.dr r (List.mem_of_getElem? hk)
  obtain ⟨f, ws, hlw⟩ := hd.ok.lw
  have hll := hd.ok.ll
  have hfna : f ∈ NA := by
    have g := hd.ok.gl
    rw [hlw] at g
    obtain ⟨q, hq, _⟩ := g
    have hm := List.mem_of_find?_eq_some hq
    have hx : q.1 = f := by simpa using List.find?_some hq
    rw [← hx]; exact (hs.nm q hm).1
  let ρ := C21 i s rs k r t10 t15 t17 t18 t19 t20
  have hx : idxD (dRs true true rs) (.int k) = some (dR true r) := ix_sq true (by rw [List.getElem?_map, hk]; rfl)
  have he : eIdx (eIdx (eVar 6) (eVar 14)) (eC (.int 1)) ρ ps = .ok (dP true r.left) ρ ps := eIdx_ok (eIdx_ok (eVar_ok rfl) (eVar_ok rfl) (sq_pen true _) hx) eC_ok (sq_pen true _) (ix1_sq true)
  have hne : rs ≠ [] := fun z => by rw [z] at hk; simp at hk
  obtain ⟨r0, rt, hrs⟩ := List.exists_cons_of_ne_nil hne
  have all : (killS [9, 10, 11, 12, 13, 14, 15, 16, 17, 18, 19, 20] (ρ.set 6 .un)).all (apS f) = true := by
    show ([.un, .v .pen, .v (.int i), .v (dSg s), .v (dRs true false rs), .v (dMade s), .un, .v (dBook s rs), .v (dBook s rs), .un, .un, .un, .un, .un, .un, .un, .un, .un, .un, .un, .un] : En).all (apS f) = true
    have a3 : apS f (.v (dSg s)) = true := by
      show ((hdOk f (dStrs s.sorts) && apL f (dStrs s.sorts)) && ((hdOk f (s.syms.map dRow) && apL f (s.syms.map dRow)) && true)) = true
      rw [ap_strs, ap_map f _ (ap_row f)]
      have h1 : hdOk f (dStrs s.sorts) = true := by
        cases e : s.sorts with
        | nil => rfl
        | cons x xs =>
          show decide (x ≠ f) = true
          exact decide_eq_true (SO_NA x (hs.so x (by rw [e]; exact List.mem_cons_self ..)) f hfna)
      have h2 : hdOk f (s.syms.map dRow) = true := by
        cases s.syms with
        | nil => rfl
        | cons x xs => rfl
      rw [h1, h2]; rfl
    have a4 : apS f (.v (dRs true false rs)) = true := by
      show (hdOk f (rs.map (dR false)) && apL f (rs.map (dR false))) = true
      rw [ap_map f _ (ap_rule f), hrs]; rfl
    have am : apD f (dMade s) = true := by
      show (apD f (.tup (dStrs s.sorts)) && (apD f (.tup (s.syms.map dRow)) && (apD f (.dic (s.syms.map fun r => .inr r.1) (s.syms.map dRow)) && true))) = true
      rw [show apD f (.tup (dStrs s.sorts)) = apL f (dStrs s.sorts) from rfl, show apD f (.tup (s.syms.map dRow)) = apL f (s.syms.map dRow) from rfl, show apD f (.dic (s.syms.map fun r => .inr r.1) (s.syms.map dRow)) = apL f (s.syms.map dRow) from rfl, ap_strs, ap_map f _ (ap_row f)]; rfl
    have ab : apD f (dBook s rs) = true := by
      show (apD f (dMade s) && (apD f (dRs false false rs) && (apD f (.tup (dStrs (rs.map (·.name)))) && true))) = true
      rw [am, show apD f (dRs false false rs) = apL f (rs.map (dR false)) from rfl, show apD f (.tup (dStrs (rs.map (·.name)))) = apL f (dStrs (rs.map (·.name))) from rfl, ap_strs, ap_map f _ (ap_rule f)]; rfl
    have a5 : apS f (.v (dMade s)) = true := am
    have a7 : apS f (.v (dBook s rs)) = true := ab
    simp only [List.all_cons, List.all_nil, a3, a4, a5, a7]; rfl
  unfold m_law_16 sMut sBind
  rw [he]
  have h6 : ρ[6]? = some (.v (dRs true true rs)) := rfl
  have hp : dP true r.left = .lst (.str f :: ws.map (dW true)) := by unfold dP; rw [hlw]; rfl
  have ht : dRs true true rs = .lst (.lst [.str r0.name, dP true r0.left, dP true r0.right] :: rt.map (dR true)) := by unfold dRs; rw [hrs]; rfl
  rw [hp]
  show (match (D.lst (.str f :: ws.map (dW true))), ρ[6]? with
    | .lst (.str s :: xs), some (.v (.lst (.lst ys :: zs))) => if xs.length + 1 < sizeLine ∧ (killS [9, 10, 11, 12, 13, 14, 15, 16, 17, 18, 19, 20] (ρ.set 6 .un)).all (apS s) = true then PL.SOut.nx (killS [9, 10, 11, 12, 13, 14, 15, 16, 17, 18, 19, 20] (ρ.set 6 .un)) ps else .stuck
    | _, _ => .stuck) = _
  rw [h6, ht]
  show (if (ws.map (dW true)).length + 1 < sizeLine ∧ (killS [9, 10, 11, 12, 13, 14, 15, 16, 17, 18, 19, 20] (ρ.set 6 .un)).all (apS f) = true then PL.SOut.nx (killS [9, 10, 11, 12, 13, 14, 15, 16, 17, 18, 19, 20] (ρ.set 6 .un)) ps else .stuck) = _
  rw [if_pos ⟨szBl (by rw [List.length_map]; rw [hlw, List.length_cons] at hll; omega), all⟩]
  rfl
theorem m17 (hs : SgOk SO NA s) (hf : Five s rs) : m_law_17 (A21 i s rs .un .un .un .un .un .un .un .un .un .un .un .un .un) ps = .nx (A21 i s rs .un .un .un .un .un .un .un .un .un .un .un .un .un) ps := by
  have hg := sgG hs
  let ρ := A21 i s rs .un .un .un .un .un .un .un .un .un .un .un .un .un
  have hrt : eOpN tupleD (eCons (eVar 4) eNil) ρ ps = .ok (dRs false false rs) ρ ps := eOpN_ok (x := [dRs true false rs]) (eCons_ok (eVar_ok rfl) eNil_ok) rfl
  have b1 := reprs_eq (a := eOp1 (fldD "Book" "rules") (eVar 7)) (b := eOpN tupleD (eCons (eVar 4) eNil)) (ρ := ρ) (ps := ps) (xs := rs.map (dR false)) (eOp1_ok (eVar_ok rfl) (fld_brules s rs)) hrt (wt_rules hg hf.ok.ok (by rw [hf.len]; decide) 55) (by decide)
  have b3 : eB (eEqI "Book" f_Book___eq__ true (eVar 7) (eVar 8)) ρ ps = .ok false ρ ps := by
    have := eEqI_ok (cn := "Book") (f := f_Book___eq__) (neg := true) (ma := eVar 7) (mb := eVar 8) (ρ := ρ) (ps := ps) (eVar_ok (d := dBook s rs) rfl) (eVar_ok (d := dBook s rs) rfl) (eqR_book s rs) (book_eq hg hg hf.ok.ok hf.ok.ok ps)
    simp only [decide_true, Bool.and_self, Bool.not_true, if_true] at this
    exact eB_ok this
  exact sIf_F (bOr_go b1 b3) rfl
end

set_option maxHeartbeats 4000000
section
variable {i : Int} {s : Sg} {rs : List Rul} {ps : Pn}
/-- a turn's middle: one rule is drawn -/
theorem mid_ok (hs : SgOk SO NA s) (hf : Five s rs) {t10 t11 t12 t13 t20 : Slot} {n : Nat} (g : Good n ps) (hn : n + 1 ≤ 900000) :
    ∃ ps', m_law_25 (A21 i s rs (.v (dRs true true rs)) .un t10 t11 t12 t13 .un .un .un .un .un .un t20) ps = .nx (A21 i s rs .un .un .un .un .un .un .un .un .un .un .un .un .un) ps' ∧ Good (n + 1) ps' := by
  have hg := sgG hs
  have h5 := hf.len
  let ρ0 := A21 i s rs (.v (dRs true true rs)) .un t10 t11 t12 t13 .un .un .un .un .un .un t20
  have b0 : eB (eOp2 neD (eVar 4) (eFz (eLst (eNil)))) ρ0 ps = .ok true ρ0 ps := by
    refine eB_ok (eOp2_ok (x := .lst (rs.map (dR false))) (eVar_ok rfl) (eFz_ok (eLst_ok eNil_ok (Nat.zero_le _))) ?_)
    rw [ne_empty (okD_rules hg true false hf.ok.ok 55)]
    cases e : rs with
    | nil => rw [e] at h5; cases h5
    | cons a b => rfl
  obtain ⟨k, ps1, e1, hk, g1⟩ := drawN g (by omega) (m := 5) (by decide) (by decide)
  obtain ⟨r, hr⟩ : ∃ r, rs[k]? = some r := ⟨_, List.getElem?_eq_getElem (by omega)⟩
  have hm := List.mem_of_getElem? hr
  have hd := hf.dr r hm
  have e9 : m_law_9 ρ0 ps = .nx (A21 i s rs (.v (dRs true true rs)) .un t10 t11 t12 t13 (.v (.int k)) .un .un .un .un .un t20) ps1 := by
    refine sAsg_ok (ρ1 := ρ0) (d := .int k) (eCall_ok (ds := [.pen, .int ((5 : Nat) : Int)]) (eCons_ok (eVar_ok rfl) (eCons_ok (eOpN_ok (x := [dRs true false rs]) (eCons_ok (eVar_ok rfl) eNil_ok) ?_) eNil_ok)) e1) rfl
    show lenD [sq true (rs.map (dR false))] = _
    rw [len_sq, List.length_map, h5]
  have e10 : m_law_10 (A21 i s rs (.v (dRs true true rs)) .un t10 t11 t12 t13 (.v (.int k)) .un .un .un .un .un t20) ps1 = .nx (C21 i s rs k r t10 .un .un .un .un t20) ps1 :=
    sAsg_ok (ρ1 := A21 i s rs (.v (dRs true true rs)) .un t10 t11 t12 t13 (.v (.int k)) .un .un .un .un .un t20) (d := dR false r) (eIdx_ok (x := dRs true false rs) (eVar_ok rfl) (eVar_ok (i := 14) (d := .int k) rfl) (sq_pen true _) (ix_sq true (by rw [List.getElem?_map, hr]; rfl))) rfl
  have e11 : m_law_11 (C21 i s rs k r t10 .un .un .un .un t20) ps1 = .nx (C21 i s rs k r t10 (.v (.lst ((r.left.map qv).map (dW false)))) .un .un .un t20) ps1 := by
    have hc := ren_comp (i := i) (s := s) (rs := rs) (t6 := .v (dRs true true rs)) (t9 := .un) (t10 := t10) (t11 := .v (.str r.name)) (t12 := .v (dP false r.left)) (t13 := .v (dP false r.right)) (t14 := .v (.int k)) (t15 := .un) (t17 := .un) (t18 := .un) (t19 := .un) (t20 := t20) (ps := ps1) (p := r.left) hd.vn (by have := hd.len.1; omega) (j := 12) rfl
    unfold m_law_11 sSetC sBind
    rw [hc]; dsimp only
    rw [if_pos (by show 15 < 21; decide)]; rfl
  have e12 := m12 (i := i) (s := s) (rs := rs) (k := k) (r := r) (t10 := t10) (t15 := .v (.lst ((r.left.map qv).map (dW false)))) (t17 := .un) (t18 := .un) (t19 := .un) (t20 := t20) (ps := ps1) hf hr
  have hL : ∀ l ∈ [rs.take k ++ rs.drop (k + 1), rs.take k ++ [zzR r] ++ rs.drop (k + 1), rs ++ [zzR r]], Chg05 s rs l := fun l hl => by
    simp only [List.mem_cons, List.not_mem_nil, or_false] at hl
    rcases hl with rfl | rfl | rfl
    · exact v1_ok hf hr
    · rw [List.append_assoc]
      exact set_ok hf hr hd.ok.zz (.inr zz_RN) (fun z => zz_RN (by have := hf.rn r hm; rw [← congrArg Rul.name z] at this; exact this))
    · exact more_ok hf hr
  obtain ⟨L1, t18, e13, hL1, l1⟩ := m13 (i := i) (t10 := t10) (t18 := .un) (t19 := .un) (t20 := t20) (ps := ps1) hs hf hr hL (by show 3 < 900; decide)
  have l1' : L1.length ≤ 4 := l1
  obtain ⟨L2, e14, hL2, l2⟩ := m14 (i := i) (k := k) (r := r) (t10 := t10) (t15 := .v (.lst ((r.left.map qv).map (dW false)))) (t18 := t18) (t19 := .un) (t20 := t20) (ps := ps1) hf hL1 (by omega)
  obtain ⟨t19, e15⟩ := chg_loop (i := i) (k := k) (r := r) (t10 := t10) (t15 := .v (.lst ((r.left.map qv).map (dW false)))) (t17 := .v (.lst (L2.map (dRs true false)))) (t18 := t18) (t20 := t20) (ps := ps1) hs hf (t16 := .un) L2 .un hL2
  have e15' : m_law_15 (C21 i s rs k r t10 (.v (.lst ((r.left.map qv).map (dW false)))) (lsS L2) t18 .un t20) ps1 = .nx (C21 i s rs k r t10 (.v (.lst ((r.left.map qv).map (dW false)))) (.v (.lst (L2.map (dRs true false)))) t18 t19 t20) ps1 := by
    refine sSeq_go (ρ' := C21 i s rs k r t10 (.v (.lst ((r.left.map qv).map (dW false)))) (.v (.lst (L2.map (dRs true false)))) t18 .un t20) (ps' := ps1) rfl ?_
    exact (sFor_ok (items := L2.map (dRs true false)) (iSq_ok (x := .lst (L2.map (dRs true false))) (eVar_ok (i := 17) rfl) rfl)).trans e15
  have e16 := mut_ok (i := i) (t10 := t10) (t15 := .v (.lst ((r.left.map qv).map (dW false)))) (t17 := .v (.lst (L2.map (dRs true false)))) (t18 := t18) (t19 := t19) (t20 := t20) (ps := ps1) hs hf hr
  have e17 := m17 (i := i) (ps := ps1) hs hf
  exact ⟨ps1, sIf_T b0 (sSeq_go e9 (sSeq_go e10 (sSeq_go e11 (sSeq_go e12 (sSeq_go e13 (sSeq_go e14 (sSeq_go e15' (sSeq_go e16 e17)))))))), g1⟩
/-- a turn's end: other signs -/
theorem end_ok (hs : SgOk SO NA s) (hf : Five s rs) : ∃ t20, sSeq m_law_26 m_law_27 (A21 i s rs .un .un .un .un .un .un .un .un .un .un .un .un .un) ps = .nx (A21 i s rs .un .un .un .un .un .un .un .un .un .un .un .un t20) ps ∧ isOwn t20 = false := by
  have hg := sgG hs
  have hn16 := hs.nlen
  obtain ⟨s0, so, hso⟩ := List.exists_cons_of_ne_nil hs.sne
  have h0 : s0 ∈ s.sorts := by rw [hso]; exact List.mem_cons_self ..
  let ρ := A21 i s rs .un .un .un .un .un .un .un .un .un .un .un .un .un
  let ρ1 := A21 i s rs .un .un .un .un .un .un .un .un .un .un .un .un (.v (dSg (moreS s s0)))
  have x0 : ∀ {ρ : En}, ρ[3]? = some (.v (dSg s)) → eIdx (eVar 3) (eC (.int 0)) ρ ps = .ok (.lst (dStrs s.sorts)) ρ ps := fun h => eIdx_ok (eVar_ok h) eC_ok (dSg_pen s) (sg0 s)
  have x1 : ∀ {ρ : En}, ρ[3]? = some (.v (dSg s)) → eIdx (eVar 3) (eC (.int 1)) ρ ps = .ok (.lst (s.syms.map dRow)) ρ ps := fun h => eIdx_ok (eVar_ok h) eC_ok (dSg_pen s) (sg1 s)
  have x00 : eIdx (eIdx (eVar 3) (eC (.int 0))) (eC (.int 0)) ρ ps = .ok (.str s0) ρ ps := eIdx_ok (x0 rfl) eC_ok (by intro z; cases z) (by rw [hso]; exact ix_lst (i := 0) rfl)
  have e26 : m_law_26 ρ ps = .nx ρ1 ps := by
    refine sAsg_ok (ρ1 := ρ) (d := dSg (moreS s s0)) ?_ rfl
    have hz : eLst (eCons (eTup (eCons (eC (.str "zz")) (eCons (eTup (eNil)) (eCons (eIdx (eIdx (eVar 3) (eC (.int 0))) (eC (.int 0))) (eNil))))) (eNil)) ρ ps = .ok [dRow ("zz", [], s0)] ρ ps :=
      eLst_ok (eCons_ok (eTup_ok (eCons_ok eC_ok (eCons_ok (eTup_ok eNil_ok (Nat.zero_le _)) (eCons_ok x00 eNil_ok))) (szle (by show 3 < 1000; decide))) eNil_ok) (szle (by show 1 < 1000; decide))
    have : dSg (moreS s s0) = .tup [.lst (dStrs s.sorts), .lst (s.syms.map dRow ++ [dRow ("zz", [], s0)])] := by
      show D.tup [.lst (dStrs s.sorts), .lst ((s.syms ++ [(("zz", [], s0) : Row)]).map dRow)] = _
      rw [List.map_append]; rfl
    rw [this]
    exact eTup_ok (eCons_ok (x0 rfl) (eCons_ok (eFz_ok (fCat_ok (x1 rfl) (eFz_ok hz) (szle (by rw [List.length_map]; show _ + 1 < 1000; omega)))) eNil_ok)) (szle (by show 2 < 1000; decide))
  have hmg := more_g hs h0
  have hrg := rev_g hs
  have mb : eMake "Book" i_Book (eCons (eCall f__law_made (eCons (eVar 20) (eNil))) (eCons (eVar 4) (eNil))) ρ1 ps = .ok (dBook (moreS s s0) rs) ρ1 ps :=
    eMake_ok (eCons_ok (eCall_ok (eCons_ok (eVar_ok rfl) eNil_ok) (made_ok hmg ps)) (eCons_ok (eVar_ok rfl) eNil_ok)) (book_ok hmg true false (hf.ok.ext (more_ext s s0)) ps)
  have q1 := eEqI_ok (cn := "Book") (f := f_Book___eq__) (neg := false) (ma := eMake "Book" i_Book (eCons (eCall f__law_made (eCons (eVar 20) (eNil))) (eCons (eVar 4) (eNil)))) (mb := eVar 7) (ρ := ρ1) (ps := ps) mb (eVar_ok (d := dBook s rs) rfl) (eqR_book s rs) (book_eq hmg hg (hf.ok.ext (more_ext s s0)).ok hf.ok.ok ps)
  rw [decide_eq_false (more_ne s s0), Bool.and_false, Bool.false_and] at q1
  have hsg : eTup (eCons (eIdx (eVar 3) (eC (.int 0))) (eCons (eFz (fRev (eIdx (eVar 3) (eC (.int 1))))) (eNil))) ρ1 ps = .ok (dSg (revS s)) ρ1 ps := by
    have : dSg (revS s) = .tup [.lst (dStrs s.sorts), .lst (s.syms.map dRow).reverse] := by
      show D.tup [.lst (dStrs s.sorts), .lst (s.syms.reverse.map dRow)] = _
      rw [List.map_reverse]
    rw [this]
    exact eTup_ok (eCons_ok (x0 rfl) (eCons_ok (eFz_ok (fRev_ok (x1 rfl))) eNil_ok)) (szle (by show 2 < 1000; decide))
  have mr : eMake "Book" i_Book (eCons (eCall f__law_made (eCons (eTup (eCons (eIdx (eVar 3) (eC (.int 0))) (eCons (eFz (fRev (eIdx (eVar 3) (eC (.int 1))))) (eNil)))) (eNil))) (eCons (eVar 4) (eNil))) ρ1 ps = .ok (dBook (revS s) rs) ρ1 ps :=
    eMake_ok (eCons_ok (eCall_ok (eCons_ok hsg eNil_ok) (made_ok hrg ps)) (eCons_ok (eVar_ok rfl) eNil_ok)) (book_ok hrg true false (hf.ok.ext (rev_ext hs)) ps)
  have q2 := eEqI_ok (cn := "Book") (f := f_Book___eq__) (neg := false) (ma := eMake "Book" i_Book (eCons (eCall f__law_made (eCons (eTup (eCons (eIdx (eVar 3) (eC (.int 0))) (eCons (eFz (fRev (eIdx (eVar 3) (eC (.int 1))))) (eNil)))) (eNil))) (eCons (eVar 4) (eNil)))) (mb := eVar 7) (ρ := ρ1) (ps := ps) mr (eVar_ok (d := dBook s rs) rfl) (eqR_book s rs) (book_eq hrg hg (hf.ok.ext (rev_ext hs)).ok hf.ok.ok ps)
  rw [decide_eq_false (rev_ne hs), Bool.and_false, Bool.false_and] at q2
  have e27 : m_law_27 ρ1 ps = .nx ρ1 ps := sIf_F (bOr_go (eB_ok q1) (eB_ok q2)) rfl
  exact ⟨_, sSeq_go e26 e27, rfl⟩
end
/-- the slots ahead of a turn -/
abbrev S21 (t2 t3 t4 t5 t6 t7 t8 t20 : Slot) : En := [.un, .v .pen, t2, t3, t4, t5, t6, t7, t8, .un, .un, .un, .un, .un, .un, .un, .un, .un, .un, .un, t20]
abbrev bodyM : SM := sSeq (m_law_19) (sSeq (m_law_20) (sSeq (m_law_21) (sSeq (m_law_22) (sSeq (m_law_23) (sSeq (m_law_24) (sSeq (m_law_25) (sSeq (m_law_26) (m_law_27))))))))
theorem turn_step {i : Int} {t3 t4 t5 t6 t7 t8 t20 : Slot} {n : Nat} {ps : Pn} (g : Good n ps) (hn : n + 1000 ≤ 700000) :
    ∃ (s : Sg) (rs : List Rul) (u20 : Slot) (ps' : Pn), bodyM (S21 (.v (.int i)) t3 t4 t5 t6 t7 t8 t20) ps = .nx (A21 i s rs .un .un .un .un .un .un .un .un .un .un .un .un u20) ps' ∧ Good (n + 1000) ps' := by
  obtain ⟨s, ps1, e1, hs, g1⟩ := signs_ok g (by omega)
  obtain ⟨rs, ps2, e2, q1, q2, q3, q4, g2⟩ := rules_ok hs g1 (by omega)
  have hf : Five s rs := ⟨q1, q2, q3, q4⟩
  have hg := sgG hs
  have e19 : m_law_19 (S21 (.v (.int i)) t3 t4 t5 t6 t7 t8 t20) ps = .nx (S21 (.v (.int i)) (.v (dSg s)) t4 t5 t6 t7 t8 t20) ps1 := sAsg_ok (eCall_ok (eCons_ok (eVar_ok rfl) eNil_ok) e1) rfl
  have e20 : m_law_20 (S21 (.v (.int i)) (.v (dSg s)) t4 t5 t6 t7 t8 t20) ps1 = .nx (S21 (.v (.int i)) (.v (dSg s)) (.v (dRs true false rs)) (.v (dMade s)) t6 t7 t8 t20) ps2 := by
    have a1 : eCall f__law_rules (eCons (eVar 1) (eCons (eVar 3) (eCons (eC (.int 5)) (eCons (eC (.int 7)) (eNil))))) (S21 (.v (.int i)) (.v (dSg s)) t4 t5 t6 t7 t8 t20) ps1 = .ok (dRs true false rs) (S21 (.v (.int i)) (.v (dSg s)) t4 t5 t6 t7 t8 t20) ps2 := eCall_ok (eCons_ok (eVar_ok rfl) (eCons_ok (eVar_ok rfl) (eCons_ok eC_ok (eCons_ok eC_ok eNil_ok)))) e2
    have a2 : eCall f__law_made (eCons (eVar 3) (eNil)) (S21 (.v (.int i)) (.v (dSg s)) t4 t5 t6 t7 t8 t20) ps2 = .ok (dMade s) (S21 (.v (.int i)) (.v (dSg s)) t4 t5 t6 t7 t8 t20) ps2 := eCall_ok (eCons_ok (eVar_ok rfl) eNil_ok) (made_ok hg ps2)
    unfold m_law_20 sPar2 sBind iV bindE
    rw [a1]; dsimp only [pureE]; rw [a2]; rfl
  have hsz : ∀ r ∈ rs, r.left.length < 900 ∧ r.right.length < 900 := fun r hr => by
    have := (q2 r hr).len
    exact ⟨by omega, by omega⟩
  have e21 : m_law_21 (S21 (.v (.int i)) (.v (dSg s)) (.v (dRs true false rs)) (.v (dMade s)) t6 t7 t8 t20) ps2 = .nx (S21 (.v (.int i)) (.v (dSg s)) (.v (dRs true false rs)) (.v (dMade s)) (.v (dRs true true rs)) t7 t8 t20) ps2 := sAsg_ok (eCall_ok (eCons_ok (eVar_ok rfl) eNil_ok) (lists_ok (by omega) hsz ps2)) rfl
  let ρ := S21 (.v (.int i)) (.v (dSg s)) (.v (dRs true false rs)) (.v (dMade s)) (.v (dRs true true rs)) t7 t8 t20
  have e22 : m_law_22 ρ ps2 = .nx (A21 i s rs (.v (dRs true true rs)) .un .un .un .un .un .un .un .un .un .un .un t20) ps2 := by
    have a1 : eMake "Book" i_Book (eCons (eVar 5) (eCons (eVar 6) (eNil))) ρ ps2 = .ok (dBook s rs) ρ ps2 := eMake_ok (eCons_ok (eVar_ok rfl) (eCons_ok (eVar_ok rfl) eNil_ok)) (book_ok hg true true hf.ok ps2)
    have a2 : eMakeK "Book" i_Book [1, 0] (eCons (eOpN tupleD (eCons (eVar 4) eNil)) (eCons (eCall f__law_made (eCons (eVar 3) (eNil))) (eNil))) ρ ps2 = .ok (dBook s rs) ρ ps2 :=
      eMakeK_ok (es := [dRs false false rs, dMade s]) (eCons_ok (eOpN_ok (x := [dRs true false rs]) (eCons_ok (eVar_ok rfl) eNil_ok) rfl) (eCons_ok (eCall_ok (eCons_ok (eVar_ok rfl) eNil_ok) (made_ok hg ps2)) eNil_ok)) (book_ok hg false false hf.ok ps2)
    unfold m_law_22 sPar2 sBind iV bindE
    rw [a1]; dsimp only [pureE]; rw [a2]; rfl
  have e23 := begin_ok (i := i) (t9 := .un) (t10 := .un) (t11 := .un) (t12 := .un) (t13 := .un) (t14 := .un) (t15 := .un) (t16 := .un) (t17 := .un) (t18 := .un) (t19 := .un) (t20 := t20) (ps := ps2) hs hf
  obtain ⟨t10', t11', t12', t13', e24⟩ := idx_loop (i := i) (rs := rs) (ps := ps2) hg hf.ok.ok (t6 := .v (dRs true true rs)) (t9 := .un) (t14 := .un) (t15 := .un) (t16 := .un) (t17 := .un) (t18 := .un) (t19 := .un) (t20 := t20) rs [] .un .un .un .un rfl
  have e24' : m_law_24 (A21 i s rs (.v (dRs true true rs)) .un .un .un .un .un .un .un .un .un .un .un t20) ps2 = .nx (A21 i s rs (.v (dRs true true rs)) .un t10' t11' t12' t13' .un .un .un .un .un .un t20) ps2 := by
    refine (sFor_ok (items := enumL 0 (rs.map (dR false))) (ρ1 := A21 i s rs (.v (dRs true true rs)) .un .un .un .un .un .un .un .un .un .un .un t20) (ps1 := ps2) ?_).trans e24
    unfold iEn bindE
    rw [eCons_ok (eVar_ok (d := dRs true false rs) rfl) eNil_ok]; rfl
  obtain ⟨ps3, e25, g3⟩ := mid_ok (i := i) (t10 := t10') (t11 := t11') (t12 := t12') (t13 := t13') (t20 := t20) hs hf g2 (by omega)
  obtain ⟨u20, e26, _⟩ := end_ok (i := i) (ps := ps3) hs hf
  exact ⟨s, rs, u20, ps3, sSeq_go e19 (sSeq_go e20 (sSeq_go e21 (sSeq_go e22 (sSeq_go e23 (sSeq_go e24' (sSeq_go e25 e26)))))), g3.mono (by omega)⟩

set_option maxHeartbeats 4000000
theorem turns_ok : ∀ (items : List Int) (t2 t3 t4 t5 t6 t7 t8 t20 : Slot) (n : Nat) (ps : Pn), Good n ps → n + 1000 * items.length ≤ 600000 →
    ∃ (u2 u3 u4 u5 u6 u7 u8 u20 : Slot) (ps' : Pn), forL (tName 2) bodyM (items.map D.int) (S21 t2 t3 t4 t5 t6 t7 t8 t20) ps = .nx (S21 u2 u3 u4 u5 u6 u7 u8 u20) ps'
  | [], t2, t3, t4, t5, t6, t7, t8, t20, n, ps, _, _ => ⟨t2, t3, t4, t5, t6, t7, t8, t20, ps, rfl⟩
  | i :: items, t2, t3, t4, t5, t6, t7, t8, t20, n, ps, g, hn => by
    rw [List.length_cons] at hn
    obtain ⟨s, rs, u20, ps1, e, g1⟩ := turn_step (i := i) (t3 := t3) (t4 := t4) (t5 := t5) (t6 := t6) (t7 := t7) (t8 := t8) (t20 := t20) g (by omega)
    obtain ⟨u2, u3, u4, u5, u6, u7, u8, v20, ps', e'⟩ := turns_ok items (.v (.int i)) (.v (dSg s)) (.v (dRs true false rs)) (.v (dMade s)) .un (.v (dBook s rs)) (.v (dBook s rs)) u20 (n + 1000) ps1 g1 (by omega)
    exact ⟨u2, u3, u4, u5, u6, u7, u8, v20, ps', (forL_nx (t := tName 2) (x := .int i) rfl e).trans e'⟩
theorem law_true : ∀ ns : List Int, ns.length ≤ 63 → ∃ ps', m_law (.un :: .v .pen :: List.replicate 19 .un) ⟨ns, 0, 0⟩ = .rt (.bl true) ps' := by
  intro ns hns
  have g : Good 0 ⟨ns, 0, 0⟩ := ⟨Int.le_refl 0, Int.le_refl 0, Int.le_refl 0⟩
  obtain ⟨u2, u3, u4, u5, u6, u7, u8, u20, ps', e⟩ := turns_ok ((List.range 4).map fun (k : Nat) => (0 : Int) + k) .un .un .un .un .un .un .un .un 0 ⟨ns, 0, 0⟩ g (by rw [List.length_map, List.length_range]; omega)
  refine ⟨ps', ?_⟩
  have e28 : m_law_28 (S21 .un .un .un .un .un .un .un .un) ⟨ns, 0, 0⟩ = .nx (S21 u2 u3 u4 u5 u6 u7 u8 u20) ps' := by
    refine (sFor_ok (iRg1 (n := ((4 : Nat) : Int)) (eCons_ok eC_ok eNil_ok) (i62_nat (n := 4) (by decide)))).trans ?_
    rw [show ((4 : Nat) : Int).toNat = 4 from rfl, rngL_ints]
    exact e
  exact sSeq_go e28 (sRet_ok eC_ok)

theorem all_fn {l : PySem.W.OpenLaw} {w : World} {K : PySem.W.Frag} {h : Heap} {mg : Str → Option Value} {fa fl : Addr} (X : K.In h) (G : h.Ns mainGlobals mg) (hfa : mg "law" = some (.ref fa)) (Tx : Txt K mg)
    {od an : Option Addr} {sl : Array (Option Value)} {oc kV dc pm cd ct : Value} (al : PySem.W.nsIn K mainGlobals "law" = some (some (.ref fl))) (ll : K.lookup fl = some ⟨oc, od, .func (PySem.W.fnOf "law" "law" (defArgs s_law) (defBody s_law) (defScope s_law) .none kV dc pm an cd ct), sl⟩) (cl : PySem.W.codeIn K cd "law" = true) (kl : PySem.W.keepIn K (.ref fl) = true) :
    ∃ fd : FuncData, (∀ (s : Shared) (v : Value), BindsTo s fd ⟨[v], []⟩ [("script", v)]) ∧ ∀ base : Heap, K.In base → base.Ns mainGlobals mg → FnAt callerA l.prog w K mg base (L2.CX l.prog w) 12 fa fd ["script"] (spLaw K) := by
  have e := hfa.symm.trans (PySem.W.mg_of X G al)
  cases e
  refine ⟨PySem.W.fnOf "law" "law" (defArgs s_law) (defBody s_law) (defScope s_law) .none kV dc pm an cd ct, fun s v => .of_eq rfl, fun base _ _ => ?_⟩
  have C_fixed : CalP l.prog w K mg base (tabOf mg) 8 "fixed" 1 f_fixed := cal_iter Tx.d_fixed (fun C => ok_fixed Tx C) 8
  have C_is_listed := ok_is_listed (P := l.prog) (w := w) (base := base) Tx
  have C_need_signs := ok_need_signs (P := l.prog) (w := w) (base := base) Tx
  have C_arity := ok_arity (P := l.prog) (w := w) (base := base) Tx
  have C_is_flat := ok_is_flat (P := l.prog) (w := w) (base := base) Tx C_arity
  have C_is_name := ok_is_name (P := l.prog) (w := w) (base := base) Tx
  have C_Signs_need_symbol := ok_Signs_need_symbol (P := l.prog) (w := w) (base := base) Tx
  have C_Signs_arguments := ok_Signs_arguments (P := l.prog) (w := w) (base := base) Tx C_Signs_need_symbol
  have C_Signs_sort_of := ok_Signs_sort_of (P := l.prog) (w := w) (base := base) Tx C_Signs_need_symbol
  have C_is_variable := ok_is_variable (P := l.prog) (w := w) (base := base) Tx C_is_listed C_is_name
  have C_disp : DispP l.prog w K mg base (tabOf mg) 2 1 disp := disp_ok C_is_variable
  have C_fits := ok_fits (P := l.prog) (w := w) (base := base) Tx C_Signs_sort_of C_disp
  have C_is_told := ok_is_told (P := l.prog) (w := w) (base := base) Tx C_Signs_arguments C_fits C_is_listed
  have C_is_pattern := ok_is_pattern (P := l.prog) (w := w) (base := base) Tx C_is_told
  have C_is_row := ok_is_row (P := l.prog) (w := w) (base := base) Tx C_is_listed
  have C_sorts_in := ok_sorts_in (P := l.prog) (w := w) (base := base) Tx C_Signs_arguments
  have C_sort_reason := ok_sort_reason (P := l.prog) (w := w) (base := base) Tx C_Signs_sort_of C_sorts_in
  have C_variables_of := ok_variables_of (P := l.prog) (w := w) (base := base) Tx
  have C_rule_reason := ok_rule_reason (P := l.prog) (w := w) (base := base) Tx C_is_flat C_is_listed C_is_name C_is_pattern C_is_row C_sort_reason C_variables_of
  have C_make_Book := ok_Book___init__ (P := l.prog) (w := w) (base := base) Tx C_fixed C_is_listed C_need_signs C_rule_reason
  have C_makek_Book_rules_signs := okk_makek_Book_rules_signs (P := l.prog) (w := w) (base := base) Tx C_fixed C_is_listed C_need_signs C_rule_reason
  have C_Signs___eq__ := ok_Signs___eq__ (P := l.prog) (w := w) (base := base) Tx
  have C_Book___eq__ := ok_Book___eq__ (P := l.prog) (w := w) (base := base) Tx C_Signs___eq__
  have C_Book_left := ok_Book_left (P := l.prog) (w := w) (base := base) Tx
  have C_Book_right := ok_Book_right (P := l.prog) (w := w) (base := base) Tx
  have C_methk_Book_left_index := okk_methk_Book_left_index (P := l.prog) (w := w) (base := base) Tx
  have C_methk_Book_right_index := okk_methk_Book_right_index (P := l.prog) (w := w) (base := base) Tx
  have C__law_draw := ok__law_draw (P := l.prog) (w := w) (base := base) Tx
  have C__law_lists : CalP l.prog w K mg base (tabOf mg) 8 "_law_lists" 1 f__law_lists := cal_iter Tx.d__law_lists (fun C => ok__law_lists Tx C) 8
  have C_are_names := ok_are_names (P := l.prog) (w := w) (base := base) Tx C_is_listed C_is_name
  have C_is_symbol := ok_is_symbol (P := l.prog) (w := w) (base := base) Tx C_is_listed C_is_name C_is_row
  have C_are_symbols := ok_are_symbols (P := l.prog) (w := w) (base := base) Tx C_are_names C_is_listed C_is_symbol
  have C_make_Signs := ok_Signs___init__ (P := l.prog) (w := w) (base := base) Tx C_are_names C_are_symbols C_fixed
  have C__law_made := ok__law_made (P := l.prog) (w := w) (base := base) Tx C_make_Signs
  have C__law_mixed := ok__law_mixed (P := l.prog) (w := w) (base := base) Tx C__law_draw
  have C__law_pick := ok__law_pick (P := l.prog) (w := w) (base := base) Tx C__law_draw
  have C__law_symbol := ok__law_symbol (P := l.prog) (w := w) (base := base) Tx
  have C__law_left := ok__law_left (P := l.prog) (w := w) (base := base) Tx C__law_draw C__law_mixed C__law_pick C__law_symbol
  have C__law_right := ok__law_right (P := l.prog) (w := w) (base := base) Tx C__law_draw C__law_pick C__law_symbol
  have C__law_rules := ok__law_rules (P := l.prog) (w := w) (base := base) Tx C__law_draw C__law_left C__law_pick C__law_right
  have C__law_signs := ok__law_signs (P := l.prog) (w := w) (base := base) Tx C__law_draw C__law_mixed C__law_pick

  exact ok_law Tx (fun_mk (st := s_law) ll cl kl) C_make_Book C_makek_Book_rules_signs C_Book___eq__ C_Book_left C_Book_right C_Signs___eq__ C_methk_Book_left_index C_methk_Book_right_index C__law_draw C__law_lists C__law_made C__law_rules C__law_signs law_true
end K05
open PySem PySem.W PyProof.Rows
set_option maxRecDepth 100000 in
set_option maxHeartbeats 0 in
theorem PySem.Challenge.cw_leanrules_k05_books_keep_what_they_are_t_holds : PySem.Challenge.rw_leanrules_k05_books_keep_what_they_are_t.Holds := by
  w_on; o_law; k_head; (case hw => w_witness2)
  k_fill
  refine PL.walk_law (l := PySem.Challenge.rw_leanrules_k05_books_keep_what_they_are_t) (k := 12) rfl rfl ⟨rfl, by decide, by decide⟩ (fun w h Y => PySem.W.kIn_of Y) ?F
  case F =>
    intro w mg fa h KX G hmg
    refine' K05.all_fn KX G hmg ?Tx ?al ?ll ?cl ?kl
    case Tx =>
      refine' K05.txt_mk KX G ?aCBook ?pgBook ?hdBook ?poBook ?saBook ?mkBook ?kcBook ?aCSigns ?pgSigns ?hdSigns ?poSigns ?saSigns ?mkSigns ?kcSigns ?a1 ?l1 ?c1 ?k1 ?a2 ?l2 ?c2 ?k2 ?a3 ?l3 ?c3 ?k3 ?a4 ?l4 ?c4 ?k4 ?a5 ?l5 ?c5 ?k5 ?a6 ?l6 ?c6 ?k6 ?a7 ?l7 ?c7 ?k7 ?a8 ?l8 ?c8 ?k8 ?i8 ?a9 ?l9 ?c9 ?k9 ?i9 ?a10 ?l10 ?c10 ?k10 ?i10 ?a11 ?l11 ?c11 ?k11 ?i11 ?a12 ?l12 ?c12 ?k12 ?i12 ?a13 ?l13 ?c13 ?k13 ?a14 ?l14 ?c14 ?k14 ?a15 ?l15 ?c15 ?k15 ?a16 ?l16 ?c16 ?k16 ?a17 ?l17 ?c17 ?k17 ?a18 ?l18 ?c18 ?k18 ?a19 ?l19 ?c19 ?k19 ?a20 ?l20 ?c20 ?k20 ?a21 ?l21 ?c21 ?k21 ?a22 ?l22 ?c22 ?k22 ?a23 ?l23 ?c23 ?k23 ?a24 ?l24 ?c24 ?k24 ?i24 ?a25 ?l25 ?c25 ?k25 ?i25 ?a26 ?l26 ?c26 ?k26 ?i26 ?a27 ?l27 ?c27 ?k27 ?i27 ?a28 ?l28 ?c28 ?k28 ?a29 ?l29 ?c29 ?k29 ?a30 ?l30 ?c30 ?k30 ?a31 ?l31 ?c31 ?k31 ?a32 ?l32 ?c32 ?k32 ?a33 ?l33 ?c33 ?k33 ?a34 ?l34 ?c34 ?k34 ?a35 ?l35 ?c35 ?k35 ?a36 ?l36 ?c36 ?k36 ?a37 ?l37 ?c37 ?k37 ?a38 ?l38 ?c38 ?k38 ?z_abs ?z_all ?z_any ?z_bool ?z_enumerate ?z_int ?z_isinstance ?z_len ?z_list ?z_range ?z_repr ?z_str ?z_tuple ?y_LETTERS ?r_LETTERS ?y_MOST_ARGUMENTS ?r_MOST_ARGUMENTS ?y_MOST_LEFT ?r_MOST_LEFT ?y_MOST_RULES ?r_MOST_RULES ?y_MOST_SORTS ?r_MOST_SORTS ?y_MOST_SYMBOLS ?r_MOST_SYMBOLS ?o1Book ?o2Book ?o1Signs ?o2Signs ?q1Book ?q2Book ?q3Book ?q4Book ?q1Signs ?q2Signs ?q3Signs ?q4Signs ?q5Book ?q5Signs ?n_Book_names ?n_Book_rules ?n_Book_signs ?n_Signs_known ?n_Signs_sorts ?n_Signs_symbols
      (case aCBook => k_is)
      (case pgBook => k_is)
      (case hdBook => k_is)
      (case poBook => k_is)
      (case saBook => k_is)
      (case mkBook => k_is)
      (case kcBook => k_is)
      (case aCSigns => k_is)
      (case pgSigns => k_is)
      (case hdSigns => k_is)
      (case poSigns => k_is)
      (case saSigns => k_is)
      (case mkSigns => k_is)
      (case kcSigns => k_is)
      (case a1 => k_is)
      (case l1 => k_is)
      (case c1 => k_is)
      (case k1 => k_is)
      (case a2 => k_is)
      (case l2 => k_is)
      (case c2 => k_is)
      (case k2 => k_is)
      (case a3 => k_is)
      (case l3 => k_is)
      (case c3 => k_is)
      (case k3 => k_is)
      (case a4 => k_is)
      (case l4 => k_is)
      (case c4 => k_is)
      (case k4 => k_is)
      (case a5 => k_is)
      (case l5 => k_is)
      (case c5 => k_is)
      (case k5 => k_is)
      (case a6 => k_is)
      (case l6 => k_is)
      (case c6 => k_is)
      (case k6 => k_is)
      (case a7 => k_is)
      (case l7 => k_is)
      (case c7 => k_is)
      (case k7 => k_is)
      (case a8 => k_is)
      (case l8 => k_is)
      (case c8 => k_is)
      (case k8 => k_is)
      (case i8 => k_is)
      (case a9 => k_is)
      (case l9 => k_is)
      (case c9 => k_is)
      (case k9 => k_is)
      (case i9 => k_is)
      (case a10 => k_is)
      (case l10 => k_is)
      (case c10 => k_is)
      (case k10 => k_is)
      (case i10 => k_is)
      (case a11 => k_is)
      (case l11 => k_is)
      (case c11 => k_is)
      (case k11 => k_is)
      (case i11 => k_is)
      (case a12 => k_is)
      (case l12 => k_is)
      (case c12 => k_is)
      (case k12 => k_is)
      (case i12 => k_is)
      (case a13 => k_is)
      (case l13 => k_is)
      (case c13 => k_is)
      (case k13 => k_is)
      (case a14 => k_is)
      (case l14 => k_is)
      (case c14 => k_is)
      (case k14 => k_is)
      (case a15 => k_is)
      (case l15 => k_is)
      (case c15 => k_is)
      (case k15 => k_is)
      (case a16 => k_is)
      (case l16 => k_is)
      (case c16 => k_is)
      (case k16 => k_is)
      (case a17 => k_is)
      (case l17 => k_is)
      (case c17 => k_is)
      (case k17 => k_is)
      (case a18 => k_is)
      (case l18 => k_is)
      (case c18 => k_is)
      (case k18 => k_is)
      (case a19 => k_is)
      (case l19 => k_is)
      (case c19 => k_is)
      (case k19 => k_is)
      (case a20 => k_is)
      (case l20 => k_is)
      (case c20 => k_is)
      (case k20 => k_is)
      (case a21 => k_is)
      (case l21 => k_is)
      (case c21 => k_is)
      (case k21 => k_is)
      (case a22 => k_is)
      (case l22 => k_is)
      (case c22 => k_is)
      (case k22 => k_is)
      (case a23 => k_is)
      (case l23 => k_is)
      (case c23 => k_is)
      (case k23 => k_is)
      (case a24 => k_is)
      (case l24 => k_is)
      (case c24 => k_is)
      (case k24 => k_is)
      (case i24 => k_is)
      (case a25 => k_is)
      (case l25 => k_is)
      (case c25 => k_is)
      (case k25 => k_is)
      (case i25 => k_is)
      (case a26 => k_is)
      (case l26 => k_is)
      (case c26 => k_is)
      (case k26 => k_is)
      (case i26 => k_is)
      (case a27 => k_is)
      (case l27 => k_is)
      (case c27 => k_is)
      (case k27 => k_is)
      (case i27 => k_is)
      (case a28 => k_is)
      (case l28 => k_is)
      (case c28 => k_is)
      (case k28 => k_is)
      (case a29 => k_is)
      (case l29 => k_is)
      (case c29 => k_is)
      (case k29 => k_is)
      (case a30 => k_is)
      (case l30 => k_is)
      (case c30 => k_is)
      (case k30 => k_is)
      (case a31 => k_is)
      (case l31 => k_is)
      (case c31 => k_is)
      (case k31 => k_is)
      (case a32 => k_is)
      (case l32 => k_is)
      (case c32 => k_is)
      (case k32 => k_is)
      (case a33 => k_is)
      (case l33 => k_is)
      (case c33 => k_is)
      (case k33 => k_is)
      (case a34 => k_is)
      (case l34 => k_is)
      (case c34 => k_is)
      (case k34 => k_is)
      (case a35 => k_is)
      (case l35 => k_is)
      (case c35 => k_is)
      (case k35 => k_is)
      (case a36 => k_is)
      (case l36 => k_is)
      (case c36 => k_is)
      (case k36 => k_is)
      (case a37 => k_is)
      (case l37 => k_is)
      (case c37 => k_is)
      (case k37 => k_is)
      (case a38 => k_is)
      (case l38 => k_is)
      (case c38 => k_is)
      (case k38 => k_is)
      (case z_abs => k_is)
      (case z_all => k_is)
      (case z_any => k_is)
      (case z_bool => k_is)
      (case z_enumerate => k_is)
      (case z_int => k_is)
      (case z_isinstance => k_is)
      (case z_len => k_is)
      (case z_list => k_is)
      (case z_range => k_is)
      (case z_repr => k_is)
      (case z_str => k_is)
      (case z_tuple => k_is)
      (case y_LETTERS => k_is)
      (case r_LETTERS => exact ⟨_, rfl⟩)
      (case y_MOST_ARGUMENTS => k_is)
      (case r_MOST_ARGUMENTS => exact ⟨_, rfl⟩)
      (case y_MOST_LEFT => k_is)
      (case r_MOST_LEFT => exact ⟨_, rfl⟩)
      (case y_MOST_RULES => k_is)
      (case r_MOST_RULES => exact ⟨_, rfl⟩)
      (case y_MOST_SORTS => k_is)
      (case r_MOST_SORTS => exact ⟨_, rfl⟩)
      (case y_MOST_SYMBOLS => k_is)
      (case r_MOST_SYMBOLS => exact ⟨_, rfl⟩)
      (case o1Book => k_is)
      (case o2Book => k_is)
      (case o1Signs => k_is)
      (case o2Signs => k_is)
      (case q1Book => k_is)
      (case q2Book => k_is)
      (case q3Book => k_is)
      (case q4Book => k_is)
      (case q1Signs => k_is)
      (case q2Signs => k_is)
      (case q3Signs => k_is)
      (case q4Signs => k_is)
      (case q5Book => k_is)
      (case q5Signs => k_is)
      (case n_Book_names => k_is)
      (case n_Book_rules => k_is)
      (case n_Book_signs => k_is)
      (case n_Signs_known => k_is)
      (case n_Signs_sorts => k_is)
      (case n_Signs_symbols => k_is)
    (case al => k_is); (case ll => k_is); (case cl => k_is); (case kl => k_is)

