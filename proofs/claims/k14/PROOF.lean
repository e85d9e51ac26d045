import PyProof.Rows.All
import Wide.All
import OpenK.AllK
import Wide.FinOn
import HandS.ForMost
import HandS.ForExc
import HandS.IsInst
import HandS.SetKeys
import HandS.Deep
import HandS.SortInts
import HandS.Strs
import HandS.Zip
import HandS.Style
import HandS.ExcIs
import HandS.More
import HandS.SuiteRaise
import KE.GoesRaise
import PySem.Challenge.RW_springways_k14_nets_read_or_refused
set_option Elab.async false
set_option linter.all false
set_option maxRecDepth 100000
/-! The value layer: Python data without the heap; slots; readings by values. -/
namespace Z
open PySem PySem.Spec PyProof.Rows L2

/-! ### data -/
inductive D where
  | non
  | bl (b : Bool)
  | int (i : Int)
  | str (s : Str)
  | lst (xs : List D)
  | tup (xs : List D)
  | dic (ks : List Int)
  | scr (ns : List Int)

/-- a dict whose values are all True -/
def dk (ks : List Int) : List (Key × V) := ks.map fun k => (Sum.inl k, V.bl true)

mutual
def Rep (K : PySem.W.Frag) (H : Hp) (v : V) : D → Prop
  | .non => v = .non
  | .bl b => v = .bl b
  | .int i => v = .int i
  | .str s => v = .str s
  | .lst ds => ∃ a vs, v = .ref a ∧ H a = some (.lst vs) ∧ Reps K H vs ds
  | .tup ds => ∃ a vs, v = .ref a ∧ H a = some (.tup vs) ∧ Reps K H vs ds
  | .dic ks => ∃ a, v = .ref a ∧ H a = some (.dK (dk ks))
  | .scr ns => ∃ a, v = .ref a ∧ SqL K H a (ns.map V.int)
def Reps (K : PySem.W.Frag) (H : Hp) (vs : List V) : List D → Prop
  | [] => vs = []
  | d :: ds => ∃ v r, vs = v :: r ∧ Rep K H v d ∧ Reps K H r ds
end

section
variable {K : PySem.W.Frag} {H H' : Hp}
mutual
theorem Rep.same (s : Same H H') : ∀ {d : D} {v : V}, Rep K H v d → Rep K H' v d
  | .non, _, h => by unfold Rep at h ⊢; exact h
  | .bl _, _, h => by unfold Rep at h ⊢; exact h
  | .int _, _, h => by unfold Rep at h ⊢; exact h
  | .str _, _, h => by unfold Rep at h ⊢; exact h
  | .lst ds, _, h => by
    unfold Rep at h ⊢
    obtain ⟨a, vs, e, h1, h2⟩ := h
    exact ⟨a, vs, e, s _ _ h1, Reps.same s h2⟩
  | .tup ds, _, h => by
    unfold Rep at h ⊢
    obtain ⟨a, vs, e, h1, h2⟩ := h
    exact ⟨a, vs, e, s _ _ h1, Reps.same s h2⟩
  | .dic ks, _, h => by
    unfold Rep at h ⊢
    obtain ⟨a, e, h1⟩ := h
    exact ⟨a, e, s _ _ h1⟩
  | .scr ns, _, h => by
    unfold Rep at h ⊢
    obtain ⟨a, e, h1⟩ := h
    exact ⟨a, e, s.seq h1⟩
theorem Reps.same (s : Same H H') : ∀ {ds : List D} {vs : List V}, Reps K H vs ds → Reps K H' vs ds
  | [], _, h => by unfold Reps at h ⊢; exact h
  | d :: ds, _, h => by
    unfold Reps at h ⊢
    obtain ⟨v, r, e, h1, h2⟩ := h
    exact ⟨v, r, e, Rep.same s h1, Reps.same s h2⟩
end
theorem rep_non {v : V} : Rep K H v .non ↔ v = .non := by unfold Rep; exact Iff.rfl
theorem rep_bl {v : V} {b : Bool} : Rep K H v (.bl b) ↔ v = .bl b := by unfold Rep; exact Iff.rfl
theorem rep_int {v : V} {i : Int} : Rep K H v (.int i) ↔ v = .int i := by unfold Rep; exact Iff.rfl
theorem rep_str {v : V} {i : Str} : Rep K H v (.str i) ↔ v = .str i := by unfold Rep; exact Iff.rfl
theorem rep_lst {v : V} {ds : List D} : Rep K H v (.lst ds) ↔ ∃ a vs, v = .ref a ∧ H a = some (.lst vs) ∧ Reps K H vs ds := by rw [Rep]
theorem rep_tup {v : V} {ds : List D} : Rep K H v (.tup ds) ↔ ∃ a vs, v = .ref a ∧ H a = some (.tup vs) ∧ Reps K H vs ds := by rw [Rep]
theorem rep_dic {v : V} {ks : List Int} : Rep K H v (.dic ks) ↔ ∃ a, v = .ref a ∧ H a = some (.dK (dk ks)) := by rw [Rep]
theorem rep_scr {v : V} {ns : List Int} : Rep K H v (.scr ns) ↔ ∃ a, v = .ref a ∧ SqL K H a (ns.map V.int) := by rw [Rep]
theorem reps_nil {vs : List V} : Reps K H vs [] ↔ vs = [] := by rw [Reps]
theorem reps_cons {vs : List V} {d : D} {ds : List D} : Reps K H vs (d :: ds) ↔ ∃ v r, vs = v :: r ∧ Rep K H v d ∧ Reps K H r ds := by rw [Reps]
theorem Reps.cons {v : V} {vs : List V} {d : D} {ds : List D} (h : Rep K H v d) (t : Reps K H vs ds) : Reps K H (v :: vs) (d :: ds) := reps_cons.mpr ⟨v, vs, rfl, h, t⟩
theorem Reps.nil : Reps K H [] [] := reps_nil.mpr rfl
theorem Reps.len : ∀ {ds : List D} {vs : List V}, Reps K H vs ds → vs.length = ds.length
  | [], _, h => by rw [reps_nil.mp h]; rfl
  | d :: ds, _, h => by
    obtain ⟨v, r, rfl, _, t⟩ := reps_cons.mp h
    simp [t.len]
theorem Reps.get : ∀ {ds : List D} {vs : List V} {i : Nat} {d : D}, Reps K H vs ds → ds[i]? = some d → ∃ v, vs[i]? = some v ∧ Rep K H v d
  | [], _, _, _, _, e => by simp at e
  | d :: ds, _, 0, _, h, e => by
    obtain ⟨v, r, rfl, h1, _⟩ := reps_cons.mp h
    simp at e
    subst e
    exact ⟨v, by simp, h1⟩
  | d :: ds, _, i + 1, _, h, e => by
    obtain ⟨v, r, rfl, _, t⟩ := reps_cons.mp h
    obtain ⟨u, q1, q2⟩ := Reps.get (i := i) t (by simpa using e)
    exact ⟨u, by simpa using q1, q2⟩
theorem Reps.get' {ds : List D} {vs : List V} {i : Nat} {v : V} (h : Reps K H vs ds) (e : vs[i]? = some v) : ∃ d, ds[i]? = some d ∧ Rep K H v d := by
  have hl := h.len
  have hi : i < vs.length := (List.getElem?_eq_some_iff.mp e).1
  have e2 : ds[i]? = some (ds[i]'(by omega)) := by simp
  obtain ⟨u, q1, q2⟩ := h.get e2
  rw [q1] at e
  cases e
  exact ⟨_, e2, q2⟩
theorem Reps.append : ∀ {ds es : List D} {vs us : List V}, Reps K H vs ds → Reps K H us es → Reps K H (vs ++ us) (ds ++ es)
  | [], _, _, _, h, t => by rw [reps_nil.mp h]; exact t
  | d :: ds, _, _, _, h, t => by
    obtain ⟨v, r, rfl, h1, h2⟩ := reps_cons.mp h
    exact Reps.cons h1 (h2.append t)
theorem Reps.one {v : V} {d : D} (h : Rep K H v d) : Reps K H [v] [d] := Reps.cons h Reps.nil
theorem Reps.set : ∀ {ds : List D} {vs : List V} {i : Nat} {v : V} {d : D}, Reps K H vs ds → Rep K H v d → Reps K H (vs.set i v) (ds.set i d)
  | [], _, _, _, _, h, _ => by rw [reps_nil.mp h]; exact Reps.nil
  | e :: ds, _, 0, _, _, h, q => by
    obtain ⟨v, r, rfl, _, h2⟩ := reps_cons.mp h
    exact Reps.cons q h2
  | e :: ds, _, i + 1, _, _, h, q => by
    obtain ⟨v, r, rfl, h1, h2⟩ := reps_cons.mp h
    exact Reps.cons h1 (h2.set q)
theorem Reps.take : ∀ {ds : List D} {vs : List V} (n : Nat), Reps K H vs ds → Reps K H (vs.take n) (ds.take n)
  | _, _, 0, _ => by simpa using Reps.nil
  | [], _, n + 1, h => by rw [reps_nil.mp h]; simpa using Reps.nil
  | d :: ds, _, n + 1, h => by
    obtain ⟨v, r, rfl, h1, h2⟩ := reps_cons.mp h
    simpa using Reps.cons h1 (h2.take n)
theorem Reps.drop : ∀ {ds : List D} {vs : List V} (n : Nat), Reps K H vs ds → Reps K H (vs.drop n) (ds.drop n)
  | _, _, 0, h => h
  | [], _, n + 1, h => by rw [reps_nil.mp h]; simpa using Reps.nil
  | d :: ds, _, n + 1, h => by
    obtain ⟨v, r, rfl, h1, h2⟩ := reps_cons.mp h
    simpa using h2.drop n
theorem Reps.eraseIdx : ∀ {ds : List D} {vs : List V} (n : Nat), Reps K H vs ds → Reps K H (vs.eraseIdx n) (ds.eraseIdx n)
  | [], _, n, h => by rw [reps_nil.mp h]; simpa using Reps.nil
  | d :: ds, _, 0, h => by
    obtain ⟨v, r, rfl, h1, h2⟩ := reps_cons.mp h
    simpa using h2
  | d :: ds, _, n + 1, h => by
    obtain ⟨v, r, rfl, h1, h2⟩ := reps_cons.mp h
    simpa using Reps.cons h1 (h2.eraseIdx n)
theorem Reps.ints : ∀ {ns : List Int} {vs : List V}, Reps K H vs (ns.map D.int) → vs = ns.map V.int
  | [], _, h => reps_nil.mp h
  | n :: ns, _, h => by
    obtain ⟨v, r, rfl, h1, h2⟩ := reps_cons.mp h
    rw [rep_int.mp h1, Reps.ints h2]; rfl
theorem Reps.of_ints : ∀ (ns : List Int), Reps K H (ns.map V.int) (ns.map D.int)
  | [] => Reps.nil
  | n :: ns => Reps.cons (rep_int.mpr rfl) (Reps.of_ints ns)
theorem Reps.strs : ∀ {ns : List Str} {vs : List V}, Reps K H vs (ns.map D.str) → vs = ns.map V.str
  | [], _, h => reps_nil.mp h
  | n :: ns, _, h => by
    obtain ⟨v, r, rfl, h1, h2⟩ := reps_cons.mp h
    rw [rep_str.mp h1, Reps.strs h2]; rfl
theorem Reps.of_strs : ∀ (ns : List Str), Reps K H (ns.map V.str) (ns.map D.str)
  | [] => Reps.nil
  | n :: ns => Reps.cons (rep_str.mpr rfl) (Reps.of_strs ns)
end

/-! ### slots -/
inductive Md where
  | loc
  | mut
  | ro
  deriving DecidableEq
inductive Sl where
  | val (d : D)
  | own (m : Md) (ds : List D)
  | odic (m : Md) (ks : List Int)
  | net (m : Md) (size : Int) (ps : List D)
abbrev En := List (Option Sl)
abbrev SS := L2.St

/-- the exceptions' classes -/
inductive Ex where
  | much
  | place
  | pipe
  | same
  | net
  deriving DecidableEq
/-- what the text's top has made: the written part, the class of nets, the exceptions' classes -/
structure Glo where
  K : PySem.W.Frag
  C : Addr
  cls : Ex → Addr

def netF (size : Int) (l : Addr) : List (Str × V) := [("many", .int size), ("laid", .ref l)]

/-- the slot i, of the value v, holds what is said; ow: who owns an address -/
def SlOk (g : Glo) (Hb H : Hp) (ow : Addr → Option Nat) (i : Nat) (v : V) : Sl → Prop
  | .val d => Rep g.K Hb v d
  | .own _ ds => ∃ a vs, v = .ref a ∧ ow a = some i ∧ H a = some (.lst vs) ∧ Reps g.K Hb vs ds
  | .odic _ ks => ∃ a, v = .ref a ∧ ow a = some i ∧ H a = some (.dK (dk ks))
  | .net _ size ps => ∃ a dx l vs, v = .ref a ∧ ow a = some i ∧ ow l = some i ∧ H a = some (.ins g.C dx (netF size l)) ∧ H l = some (.lst vs) ∧ Reps g.K Hb vs ps

structure Sat (g : Glo) (Γ : En) (σ : SS) (Hb H : Hp) (ow : Addr → Option Nat) : Prop where
  same : Same Hb H
  ows : ∀ a i, ow a = some i → Hb a = none ∧ H a ≠ none
  slots : ∀ i s, Γ[i]? = some (some s) → ∃ v, σ[i]? = some (some v) ∧ SlOk g Hb H ow i v s
  len : Γ.length = σ.length

/-- only what is new has come -/
structure Grow (Hb H Hb' H' : Hp) : Prop where
  hb : Same Hb Hb'
  h : Same H H'
  same : Same Hb' H'
  new : ∀ a, Hb' a ≠ none → Hb a ≠ none ∨ H a = none

theorem Grow.refl {Hb H : Hp} (s : Same Hb H) : Grow Hb H Hb H := ⟨Same.refl _, Same.refl _, s, fun _ h => .inl h⟩
theorem ne_none_of_same {H H' : Hp} (s : Same H H') {a : Addr} (h : H a ≠ none) : H' a ≠ none := by
  cases e : H a with
  | none => exact absurd e h
  | some o => rw [s _ _ e]; simp
theorem Grow.trans {Hb H Hb1 H1 Hb2 H2 : Hp} (a : Grow Hb H Hb1 H1) (b : Grow Hb1 H1 Hb2 H2) : Grow Hb H Hb2 H2 := by
  refine ⟨a.hb.trans b.hb, a.h.trans b.h, b.same, fun x hx => ?_⟩
  rcases b.new x hx with h | h
  · exact a.new x h
  · exact .inr (a.h.free h)

theorem Grow.keepNone {Hb H Hb' H' : Hp} (g : Grow Hb H Hb' H') {a : Addr} (h : Hb a = none) (h' : H a ≠ none) : Hb' a = none := by
  cases e : Hb' a with
  | none => rfl
  | some o =>
    rcases g.new a (by rw [e]; simp) with q | q
    · exact absurd h q
    · exact absurd q h'

theorem SlOk.grow {g : Glo} {Hb H Hb' H' : Hp} {ow : Addr → Option Nat} {i : Nat} {v : V} {s : Sl} (gr : Grow Hb H Hb' H') (h : SlOk g Hb H ow i v s) : SlOk g Hb' H' ow i v s := by
  cases s with
  | val d => exact Rep.same gr.hb h
  | own m ds =>
    obtain ⟨a, vs, e, o, h1, h2⟩ := h
    exact ⟨a, vs, e, o, gr.h _ _ h1, h2.same gr.hb⟩
  | odic m ks =>
    obtain ⟨a, e, o, h1⟩ := h
    exact ⟨a, e, o, gr.h _ _ h1⟩
  | net m size ps =>
    obtain ⟨a, dx, l, vs, e, o, ol, h1, h2, h3⟩ := h
    exact ⟨a, dx, l, vs, e, o, ol, gr.h _ _ h1, gr.h _ _ h2, h3.same gr.hb⟩
theorem Sat.grow {g : Glo} {Γ : En} {σ : SS} {Hb H Hb' H' : Hp} {ow : Addr → Option Nat} (S : Sat g Γ σ Hb H ow) (gr : Grow Hb H Hb' H') : Sat g Γ σ Hb' H' ow := by
  refine ⟨gr.same, fun a i e => ?_, fun i s e => ?_, S.len⟩
  · obtain ⟨h1, h2⟩ := S.ows a i e
    exact ⟨gr.keepNone h1 h2, ne_none_of_same gr.h h2⟩
  · obtain ⟨v, q1, q2⟩ := S.slots i s e
    exact ⟨v, q1, q2.grow gr⟩

/-- a new object, frozen at once -/
theorem Grow.put {Hb H : Hp} {p : Addr} {o : HO} (s : Same Hb H) (hp : H p = none) : Grow Hb H (upd Hb p o) (upd H p o) := by
  have hbp : Hb p = none := s.free hp
  refine ⟨fun b u e => ?_, fun b u e => ?_, fun b u e => ?_, fun a h => ?_⟩
  · rw [upd_ne (ne_of_none e hbp)]; exact e
  · rw [upd_ne (ne_of_none e hp)]; exact e
  · by_cases q : b = p
    · subst q; rw [upd_same] at e ⊢; exact e
    · rw [upd_ne q] at e ⊢; exact s _ _ e
  · by_cases q : a = p
    · subst q; exact .inr hp
    · rw [upd_ne q] at h; exact .inl h
/-- a new object, owned -/
theorem Grow.own {Hb H : Hp} {p : Addr} {o : HO} (s : Same Hb H) (hp : H p = none) : Grow Hb H Hb (upd H p o) := by
  refine ⟨Same.refl _, fun b u e => ?_, fun b u e => ?_, fun a h => .inl h⟩
  · rw [upd_ne (ne_of_none e hp)]; exact e
  · rw [upd_ne (ne_of_none (s _ _ e) hp)]; exact s _ _ e
/-- something outside the frozen part comes to be frozen -/
theorem Same.froze {Hb H : Hp} {p : Addr} {o : HO} (s : Same Hb H) (h : H p = some o) : Same (upd Hb p o) H := fun b u e => by
  by_cases q : b = p
  · subst q; rw [upd_same] at e; rw [h]; exact e
  · rw [upd_ne q] at e; exact s _ _ e

/-! ### the readings by values -/
abbrev VF := En → Option D
abbrev VB := En → Option Bool
abbrev VL := En → Option (List D)
abbrev VS := En → Option Sl

theorem frees {H H' : Hp} (s : Same H H') : ∀ a, H' a = none → H a = none := fun _ h => s.free h
/-- how a value stands for a thing of the type α: the heap ahead, the frozen part, the heap -/
abbrev RP (α : Type) := Glo → Hp → Hp → Hp → V → α → Prop
class Mono {α : Type} (r : RP α) : Prop where
  mono : ∀ {g : Glo} {H0 Hb H Hb' H' : Hp} {v : V} {x : α}, Grow Hb H Hb' H' → r g H0 Hb H v x → r g H0 Hb' H' v x
  back : ∀ {g : Glo} {H0 H1 Hb H : Hp} {v : V} {x : α}, (∀ a, H1 a = none → H0 a = none) → r g H1 Hb H v x → r g H0 Hb H v x

def eK (g : Glo) {α : Type} (r : RP α) (f : En → Option α) : TE := fun σ H Q => ∃ Γ Hb ow x, f Γ = some x ∧ Sat g Γ σ Hb H ow ∧ ∀ v Hb' H', Grow Hb H Hb' H' → r g H Hb' H' v x → Q v H'

/-- frozen data -/
def rD : RP D := fun g _ Hb _ v d => Rep g.K Hb v d
instance : Mono rD := ⟨fun gr h => Rep.same gr.hb h, fun _ h => h⟩
/-- a list that may be read: its items are frozen, itself perhaps not -/
def rL : RP (List D) := fun g _ Hb H v ds => ∃ a vs, v = .ref a ∧ H a = some (.lst vs) ∧ Reps g.K Hb vs ds
instance : Mono rL := ⟨fun gr ⟨a, vs, e, h1, h2⟩ => ⟨a, vs, e, gr.h _ _ h1, h2.same gr.hb⟩, fun _ h => h⟩
/-- a dict that may be read -/
def rM : RP (List Int) := fun _ _ _ H v ks => ∃ a, v = .ref a ∧ H a = some (.dK (dk ks))
instance : Mono rM := ⟨fun gr ⟨a, e, h1⟩ => ⟨a, e, gr.h _ _ h1⟩, fun _ h => h⟩
/-- a net that may be read -/
def rN : RP (Int × List D) := fun g _ Hb H v n => ∃ a dx l vs, v = .ref a ∧ H a = some (.ins g.C dx (netF n.1 l)) ∧ H l = some (.lst vs) ∧ Reps g.K Hb vs n.2
instance : Mono rN := ⟨fun gr ⟨a, dx, l, vs, e, h1, h2, h3⟩ => ⟨a, dx, l, vs, e, gr.h _ _ h1, gr.h _ _ h2, h3.same gr.hb⟩, fun _ h => h⟩
/-- a result that is new -/
def rO : RP Sl := fun g H Hb' H' v s => match s with
  | .val d => Rep g.K Hb' v d
  | .own _ ds => ∃ a vs, v = .ref a ∧ H a = none ∧ Hb' a = none ∧ H' a = some (.lst vs) ∧ Reps g.K Hb' vs ds
  | .odic _ ks => ∃ a, v = .ref a ∧ H a = none ∧ Hb' a = none ∧ H' a = some (.dK (dk ks))
  | .net _ size ps => ∃ a dx l vs, v = .ref a ∧ H a = none ∧ Hb' a = none ∧ H l = none ∧ Hb' l = none ∧ H' a = some (.ins g.C dx (netF size l)) ∧ H' l = some (.lst vs) ∧ Reps g.K Hb' vs ps
theorem some_ne {α : Type} {o : Option α} {x : α} (h : o = some x) : o ≠ none := by rw [h]; simp
instance : Mono rO where
  mono := fun {g H0 Hb H Hb' H' v x} gr h => by
    cases x with
    | val d => exact Rep.same gr.hb h
    | own m ds =>
      obtain ⟨a, vs, e, h0, hb, h1, h2⟩ := h
      exact ⟨a, vs, e, h0, gr.keepNone hb (some_ne h1), gr.h _ _ h1, h2.same gr.hb⟩
    | odic m ks =>
      obtain ⟨a, e, h0, hb, h1⟩ := h
      exact ⟨a, e, h0, gr.keepNone hb (some_ne h1), gr.h _ _ h1⟩
    | net m size ps =>
      obtain ⟨a, dx, l, vs, e, h0, hb, l0, lb, h1, h2, h3⟩ := h
      exact ⟨a, dx, l, vs, e, h0, gr.keepNone hb (some_ne h1), l0, gr.keepNone lb (some_ne h2), gr.h _ _ h1, gr.h _ _ h2, h3.same gr.hb⟩
  back := fun {g H0 H1 Hb H v x} s h => by
    cases x with
    | val d => exact h
    | own m ds =>
      obtain ⟨a, vs, e, h0, q⟩ := h
      exact ⟨a, vs, e, s _ h0, q⟩
    | odic m ks =>
      obtain ⟨a, e, h0, q⟩ := h
      exact ⟨a, e, s _ h0, q⟩
    | net m size ps =>
      obtain ⟨a, dx, l, vs, e, h0, hb, l0, q⟩ := h
      exact ⟨a, dx, l, vs, e, s _ h0, hb, s _ l0, q⟩

abbrev eV (g : Glo) (f : VF) : TE := eK g rD f
abbrev eL (g : Glo) (f : VL) : TE := eK g rL f
abbrev eO (g : Glo) (f : VS) : TE := eK g rO f
def eT (g : Glo) (f : VB) : TT := fun σ H Q => ∃ Γ Hb ow d, f Γ = some d ∧ Sat g Γ σ Hb H ow ∧ ∀ Hb' H', Grow Hb H Hb' H' → Q d H'

section
variable {X : Cx} {e : Expr} {es : List Expr}
theorem PE_mono {t t' : TE} (h : PE X e t) (m : ∀ σ H Q, t' σ H Q → t σ H Q) : PE X e t' := ⟨fun pins s σ H Q I hw => h.run pins s σ H Q I (m σ H Q hw)⟩
theorem PT_mono {t t' : TT} (h : PT X e t) (m : ∀ σ H Q, t' σ H Q → t σ H Q) : PT X e t' := ⟨fun pins s σ H Q I hw => h.run pins s σ H Q I (m σ H Q hw)⟩
theorem PW_mono {t t' : TT} (h : PW X e t) (m : ∀ σ H Q, t' σ H Q → t σ H Q) : PW X e t' := ⟨fun wh pins s σ H Q I hw => h.run wh pins s σ H Q I (m σ H Q hw)⟩
theorem PA_mono {t t' : TA} (h : PA X es t) (m : ∀ σ H Q, t' σ H Q → t σ H Q) : PA X es t' := ⟨fun pos pins s σ H Q I hw => h.run pos pins s σ H Q I (m σ H Q hw)⟩
theorem PS_mono {st : Stmt} {t t' : TS} (h : PS X st t) (m : ∀ D σ H, t' D σ H → t D σ H) : PS X st t' := ⟨fun pins s σ H D I hw => h.run pins s σ H D I (m D σ H hw)⟩
theorem PSs_mono {sts : List Stmt} {t t' : TS} (h : PSs X sts t) (m : ∀ D σ H, t' D σ H → t D σ H) : PSs X sts t' := ⟨fun pins s σ H D I hw => h.run pins s σ H D I (m D σ H hw)⟩
end

end Z

set_option maxRecDepth 100000
namespace Z
open PySem PySem.Spec PyProof.Rows L2
section
variable {X : Cx} {g : Glo} {c e : Expr}

/-! ### names and constants -/
def vVar (i : Nat) : VF := fun Γ => match Γ[i]? with | some (some (.val d)) => some d | _ => none
def lVar (i : Nat) : VL := fun Γ => match Γ[i]? with | some (some (.val (.lst ds))) => some ds | some (some (.own _ ds)) => some ds | _ => none
def mVar (i : Nat) : En → Option (List Int) := fun Γ => match Γ[i]? with | some (some (.val (.dic ks))) => some ks | some (some (.odic _ ks)) => some ks | _ => none
def nVar (i : Nat) : En → Option (Int × List D) := fun Γ => match Γ[i]? with | some (some (.net _ size ps)) => some (size, ps) | _ => none
theorem ev_var {i : Nat} (h : PE X e (tVar i)) : PE X e (eV g (vVar i)) := PE_mono h fun σ H Q ⟨Γ, Hb, ow, d, ef, S, k⟩ => by
  unfold vVar at ef
  split at ef
  · rename_i d' e1
    cases ef
    obtain ⟨v, q1, q2⟩ := S.slots _ _ e1
    exact ⟨v, q1, k v Hb H (Grow.refl S.same) q2⟩
  · cases ef
theorem el_var {i : Nat} (h : PE X e (tVar i)) : PE X e (eL g (lVar i)) := PE_mono h fun σ H Q ⟨Γ, Hb, ow, d, ef, S, k⟩ => by
  unfold lVar at ef
  split at ef
  · rename_i ds e1
    cases ef
    obtain ⟨v, q1, q2⟩ := S.slots _ _ e1
    obtain ⟨a, vs, rfl, h1, h2⟩ := rep_lst.mp (show Rep g.K Hb v (.lst d) from q2)
    exact ⟨_, q1, k _ Hb H (Grow.refl S.same) ⟨a, vs, rfl, S.same _ _ h1, h2⟩⟩
  · rename_i m ds e1
    cases ef
    obtain ⟨v, q1, a, vs, rfl, _, h1, h2⟩ := S.slots _ _ e1
    exact ⟨_, q1, k _ Hb H (Grow.refl S.same) ⟨a, vs, rfl, h1, h2⟩⟩
  · cases ef
theorem em_var {i : Nat} (h : PE X e (tVar i)) : PE X e (eK g rM (mVar i)) := PE_mono h fun σ H Q ⟨Γ, Hb, ow, d, ef, S, k⟩ => by
  unfold mVar at ef
  split at ef
  · rename_i ds e1
    cases ef
    obtain ⟨v, q1, q2⟩ := S.slots _ _ e1
    obtain ⟨a, rfl, h1⟩ := rep_dic.mp (show Rep g.K Hb v (.dic d) from q2)
    exact ⟨_, q1, k _ Hb H (Grow.refl S.same) ⟨a, rfl, S.same _ _ h1⟩⟩
  · rename_i m ds e1
    cases ef
    obtain ⟨v, q1, a, rfl, _, h1⟩ := S.slots _ _ e1
    exact ⟨_, q1, k _ Hb H (Grow.refl S.same) ⟨a, rfl, h1⟩⟩
  · cases ef
theorem en_var {i : Nat} (h : PE X e (tVar i)) : PE X e (eK g rN (nVar i)) := PE_mono h fun σ H Q ⟨Γ, Hb, ow, d, ef, S, k⟩ => by
  unfold nVar at ef
  split at ef
  · rename_i m size ps e1
    cases ef
    obtain ⟨v, q1, a, dx, l, vs, rfl, _, _, h1, h2, h3⟩ := S.slots _ _ e1
    exact ⟨_, q1, k _ Hb H (Grow.refl S.same) ⟨a, dx, l, vs, rfl, h1, h2, h3⟩⟩
  · cases ef
def vC (d : D) : VF := fun _ => some d
theorem ev_c {v : V} {d : D} (h : PE X e (tC v)) (r : ∀ K H, Rep K H v d) : PE X e (eV g (vC d)) := PE_mono h fun σ H Q ⟨Γ, Hb, ow, d', ef, S, k⟩ => by
  cases ef
  exact k v Hb H (Grow.refl S.same) (r _ _)
theorem ev_int {i : Int} (h : PE X e (tC (.int i))) : PE X e (eV g (vC (.int i))) := ev_c h fun _ _ => rep_int.mpr rfl
theorem ev_bl {i : Bool} (h : PE X e (tC (.bl i))) : PE X e (eV g (vC (.bl i))) := ev_c h fun _ _ => rep_bl.mpr rfl
theorem ev_str {i : Str} (h : PE X e (tC (.str i))) : PE X e (eV g (vC (.str i))) := ev_c h fun _ _ => rep_str.mpr rfl
theorem ev_non (h : PE X e (tC .non)) : PE X e (eV g (vC .non)) := ev_c h fun _ _ => rep_non.mpr rfl

/-! ### one, two operands -/
variable {α β γ : Type} {r1 : RP α} {r2 : RP β} {r3 : RP γ}
def v1 (F : α → Option γ) (f : En → Option α) : En → Option γ := fun Γ => (f Γ).bind F
def v2 (F : α → β → Option γ) (f : En → Option α) (h : En → Option β) : En → Option γ := fun Γ => (f Γ).bind fun x => (h Γ).bind fun y => F x y
/-- a rule of one operand, by values -/
def Op1 (g : Glo) (r : V → Hp → VK → Prop) (r1 : RP α) (r3 : RP γ) (F : α → Option γ) : Prop :=
  ∀ x d v H0 Hb H Q, F x = some d → Same Hb H → r1 g H0 Hb H v x → (∀ v' Hb' H', Grow Hb H Hb' H' → r3 g H Hb' H' v' d → Q v' H') → r v H Q
def Op2 (g : Glo) (r : R2) (r1 : RP α) (r2 : RP β) (r3 : RP γ) (F : α → β → Option γ) : Prop :=
  ∀ x y d v u H0 H1 Hb H Q, F x y = some d → Same Hb H → r1 g H0 Hb H v x → r2 g H1 Hb H u y → (∀ v' Hb' H', Grow Hb H Hb' H' → r3 g H Hb' H' v' d → Q v' H') → r v u H Q
/-- of whatever reading has been gained by a rule over one operand's reading -/
theorem ek_1 [Mono r3] {f : En → Option α} {F : α → Option γ} {r : V → Hp → VK → Prop} (h : PE X c (tUn r (eK g r1 f))) (hd : Op1 g r r1 r3 F) : PE X c (eK g r3 (v1 F f)) := PE_mono h fun σ H Q ⟨Γ, Hb, ow, d, ef, S, k⟩ => by
  obtain ⟨x, e1, e2⟩ := Option.bind_eq_some_iff.mp ef
  exact ⟨Γ, Hb, ow, x, e1, S, fun v Hb1 H1 g1 q1 => hd x d v H Hb1 H1 Q e2 g1.same q1 fun v' Hb2 H2 g2 q2 => k v' Hb2 H2 (g1.trans g2) (Mono.back (frees g1.h) q2)⟩
theorem ek_2 [Mono r1] [Mono r3] {f : En → Option α} {h' : En → Option β} {F : α → β → Option γ} {r : R2} (h : PE X c (tOp r (eK g r1 f) (eK g r2 h'))) (hd : Op2 g r r1 r2 r3 F) : PE X c (eK g r3 (v2 F f h')) := PE_mono h fun σ H Q ⟨Γ, Hb, ow, d, ef, S, k⟩ => by
  obtain ⟨x, e1, e2⟩ := Option.bind_eq_some_iff.mp ef
  obtain ⟨y, e3, e4⟩ := Option.bind_eq_some_iff.mp e2
  exact ⟨Γ, Hb, ow, x, e1, S, fun v Hb1 H1 g1 q1 => ⟨Γ, Hb1, ow, y, e3, S.grow g1, fun u Hb2 H2 g2 q2 => hd x y d v u H H1 Hb2 H2 Q e4 g2.same (Mono.mono g2 q1) q2 fun v' Hb3 H3 g3 q3 =>
    k v' Hb3 H3 ((g1.trans g2).trans g3) (Mono.back (frees (g1.h.trans g2.h)) q3)⟩⟩
/-- a result that needs nothing new -/
theorem op1_of {r : V → Hp → VK → Prop} {F : α → Option γ} (h : ∀ x d v H0 Hb H Q, F x = some d → Same Hb H → r1 g H0 Hb H v x → (∀ v', r3 g H Hb H v' d → Q v' H) → r v H Q) : Op1 g r r1 r3 F := fun x d v H0 Hb H Q e s q k =>
  h x d v H0 Hb H Q e s q fun v' q' => k v' Hb H (Grow.refl s) q'
theorem op2_of {r : R2} {F : α → β → Option γ} (h : ∀ x y d v u H0 H1 Hb H Q, F x y = some d → Same Hb H → r1 g H0 Hb H v x → r2 g H1 Hb H u y → (∀ v', r3 g H Hb H v' d → Q v' H) → r v u H Q) : Op2 g r r1 r2 r3 F := fun x y d v u H0 H1 Hb H Q e s q q' k =>
  h x y d v u H0 H1 Hb H Q e s q q' fun v' z => k v' Hb H (Grow.refl s) z

/-- two whole numbers -/
def i2 (C : Int → Int → Bool) (F : Int → Int → D) : D → D → Option D
  | .int i, .int j => if C i j = true then some (F i j) else none
  | _, _ => none
theorem op2_i {r : R2} {C : Int → Int → Bool} {F : Int → Int → D} {G : Int → Int → V} (hr : ∀ i j H Q, C i j = true → Q (G i j) H → r (.int i) (.int j) H Q) (hG : ∀ i j K H, Rep K H (G i j) (F i j)) : Op2 g r rD rD rD (i2 C F) :=
  op2_of fun x y d v u H0 H1 Hb H Q e s q q' k => by
    unfold i2 at e
    split at e
    · split at e
      · cases e
        rw [rep_int.mp q, rep_int.mp q']
        exact hr _ _ _ _ (by assumption) (k _ (hG _ _ _ _))
      · cases e
    · cases e
abbrev tt2 : Int → Int → Bool := fun _ _ => true
def fAdd := i2 tt2 fun i j => .int (i + j)
def fSub := i2 tt2 fun i j => .int (i - j)
def small (i : Int) : Bool := decide (-(2 ^ 64) < i ∧ i < 2 ^ 64)
def fMul := i2 (fun i j => small i || small j) fun i j => .int (i * j)
def fDiv := i2 (fun _ j => decide (0 < j ∧ j < 1073741824)) fun i j => .int (i / j)
def fMod := i2 (fun _ j => decide (0 < j)) fun i j => .int (i % j)
def fPow := i2 (fun i j => decide (0 ≤ j ∧ j ≤ 1000000 ∧ i.natAbs < 2 ^ 64)) fun i j => .int (i ^ j.toNat)
def fLt := i2 tt2 fun i j => .bl (decide (i < j))
def fLe := i2 tt2 fun i j => .bl (decide (i ≤ j))
def fGt := i2 tt2 fun i j => .bl (decide (j < i))
def fGe := i2 tt2 fun i j => .bl (decide (j ≤ i))
theorem d_add : Op2 g (rI0 fun i j => .int (i + j)) rD rD rD fAdd := op2_i (fun i j H Q _ q => ⟨i, j, rfl, rfl, q⟩) fun _ _ _ _ => rep_int.mpr rfl
theorem d_sub : Op2 g (rI0 fun i j => .int (i - j)) rD rD rD fSub := op2_i (fun i j H Q _ q => ⟨i, j, rfl, rfl, q⟩) fun _ _ _ _ => rep_int.mpr rfl
theorem d_mul : Op2 g (rI CMul fun i j => .int (i * j)) rD rD rD fMul := op2_i (fun i j H Q h q => ⟨i, j, rfl, rfl, by
  rcases Bool.or_eq_true_iff.mp h with h | h
  · exact .inl (of_decide_eq_true h)
  · exact .inr (of_decide_eq_true h), q⟩) fun _ _ _ _ => rep_int.mpr rfl
theorem d_div : Op2 g (rI CDiv fun i j => .int (i / j)) rD rD rD fDiv := op2_i (fun i j H Q h q => ⟨i, j, rfl, rfl, (show 0 < j ∧ j < 1073741824 from of_decide_eq_true h), q⟩) fun _ _ _ _ => rep_int.mpr rfl
theorem d_mod : Op2 g (rI (fun _ j => 0 < j) fun i j => .int (i % j)) rD rD rD fMod := op2_i (fun i j H Q h q => ⟨i, j, rfl, rfl, of_decide_eq_true h, q⟩) fun _ _ _ _ => rep_int.mpr rfl
theorem d_pow : Op2 g (rI CPow fun i j => .int (i ^ j.toNat)) rD rD rD fPow := op2_i (fun i j H Q h q => ⟨i, j, rfl, rfl, (show 0 ≤ j ∧ j ≤ 1000000 ∧ i.natAbs < 2 ^ 64 from of_decide_eq_true h), q⟩) fun _ _ _ _ => rep_int.mpr rfl
theorem d_lt : Op2 g (rI0 fun i j => .bl (decide (i < j))) rD rD rD fLt := op2_i (fun i j H Q _ q => ⟨i, j, rfl, rfl, q⟩) fun _ _ _ _ => rep_bl.mpr rfl
theorem d_le : Op2 g (rI0 fun i j => .bl (decide (i ≤ j))) rD rD rD fLe := op2_i (fun i j H Q _ q => ⟨i, j, rfl, rfl, q⟩) fun _ _ _ _ => rep_bl.mpr rfl
theorem d_gt : Op2 g (rI0 fun i j => .bl (decide (j < i))) rD rD rD fGt := op2_i (fun i j H Q _ q => ⟨i, j, rfl, rfl, q⟩) fun _ _ _ _ => rep_bl.mpr rfl
theorem d_ge : Op2 g (rI0 fun i j => .bl (decide (j ≤ i))) rD rD rD fGe := op2_i (fun i j H Q _ q => ⟨i, j, rfl, rfl, q⟩) fun _ _ _ _ => rep_bl.mpr rfl
def fNeg : D → Option D
  | .int i => some (.int (-i))
  | _ => none
theorem d_neg : Op1 g (rU fun i => .int (-i)) rD rD fNeg := op1_of fun x d v H0 Hb H Q e s q k => by
  unfold fNeg at e
  split at e
  · cases e
    exact ⟨_, rep_int.mp q, k _ (rep_int.mpr rfl)⟩
  · cases e

/-! ### is None -/
def isNon : D → Bool
  | .non => true
  | _ => false
theorem rep_isNon {K : PySem.W.Frag} {H : Hp} {v : V} {d : D} (h : Rep K H v d) : decide (v = .non) = isNon d := by
  cases d with
  | non => rw [rep_non.mp h]; rfl
  | bl b => rw [rep_bl.mp h]; rfl
  | int b => rw [rep_int.mp h]; rfl
  | str b => rw [rep_str.mp h]; rfl
  | lst b => obtain ⟨a, vs, rfl, _⟩ := rep_lst.mp h; rfl
  | tup b => obtain ⟨a, vs, rfl, _⟩ := rep_tup.mp h; rfl
  | dic b => obtain ⟨a, rfl, _⟩ := rep_dic.mp h; rfl
  | scr b => obtain ⟨a, rfl, _⟩ := rep_scr.mp h; rfl
def fIsN : D → D → Option D
  | d, .non => some (.bl (isNon d))
  | _, _ => none
def fNotN : D → D → Option D
  | d, .non => some (.bl (!isNon d))
  | _, _ => none
theorem d_isN : Op2 g (fun x y H Q => y = .non ∧ Q (.bl (decide (x = .non))) H) rD rD rD fIsN := op2_of fun x y d v u H0 H1 Hb H Q e s q q' k => by
  unfold fIsN at e
  split at e
  · cases e
    exact ⟨rep_non.mp q', k _ (rep_bl.mpr (by rw [rep_isNon q]))⟩
  · cases e
theorem d_notN : Op2 g (fun x y H Q => y = .non ∧ Q (.bl (!decide (x = .non))) H) rD rD rD fNotN := op2_of fun x y d v u H0 H1 Hb H Q e s q q' k => by
  unfold fNotN at e
  split at e
  · cases e
    exact ⟨rep_non.mp q', k _ (rep_bl.mpr (by rw [rep_isNon q]))⟩
  · cases e

/-! ### == of data -/
mutual
def toPy : D → PyData
  | .non => .none
  | .bl b => .bool b
  | .int i => .int i
  | .str s => .str s
  | .lst ds => .list (toPys ds)
  | .tup ds => .tuple (toPys ds)
  | .dic _ => .dict []
  | .scr ns => .list (ns.map .int)
def toPys : List D → List PyData
  | [] => []
  | d :: ds => toPy d :: toPys ds
end
mutual
/-- no dict stands in it -/
def flatD : D → Bool
  | .dic _ => false
  | .lst ds => flatDs ds
  | .tup ds => flatDs ds
  | _ => true
def flatDs : List D → Bool
  | [] => true
  | d :: ds => flatD d && flatDs ds
end
mutual
theorem rep_dp {K : PySem.W.Frag} {H : Hp} : ∀ {d : D} {v : V}, flatD d = true → Rep K H v d → Dp K H v (toPy d)
  | .non, _, _, h => by rw [rep_non.mp h, toPy]; exact .non
  | .bl _, _, _, h => by rw [rep_bl.mp h, toPy]; exact .bl _
  | .int _, _, _, h => by rw [rep_int.mp h, toPy]; exact .int _
  | .str _, _, _, h => by rw [rep_str.mp h, toPy]; exact .str _
  | .lst ds, _, f, h => by
    obtain ⟨a, vs, rfl, h1, h2⟩ := rep_lst.mp h
    rw [toPy]
    rw [flatD] at f
    exact .lst (SqL.of h1) (reps_dp f h2)
  | .tup ds, _, f, h => by
    obtain ⟨a, vs, rfl, h1, h2⟩ := rep_tup.mp h
    rw [toPy]
    rw [flatD] at f
    exact .tup (SqT.of h1) (reps_dp f h2)
  | .dic ks, _, f, _ => by rw [flatD] at f; cases f
  | .scr ns, _, _, h => by
    obtain ⟨a, rfl, h1⟩ := rep_scr.mp h
    rw [toPy]
    exact .lst h1 (scr_dp ns)
theorem reps_dp {K : PySem.W.Frag} {H : Hp} : ∀ {ds : List D} {vs : List V}, flatDs ds = true → Reps K H vs ds → DpAll K H vs (toPys ds)
  | [], _, _, h => by rw [reps_nil.mp h, toPys]; exact .nil
  | d :: ds, _, f, h => by
    obtain ⟨v, r, rfl, h1, h2⟩ := reps_cons.mp h
    rw [flatDs, Bool.and_eq_true] at f
    rw [toPys]
    exact .cons (rep_dp f.1 h1) (reps_dp f.2 h2)
theorem scr_dp {K : PySem.W.Frag} {H : Hp} : ∀ (ns : List Int), DpAll K H (ns.map V.int) (ns.map PyData.int)
  | [] => .nil
  | n :: ns => .cons (.int n) (scr_dp ns)
end
def okD (d : D) : Bool := flatD d && SeqAt.shaped (toPy d)
def fEq : D → D → Option D
  | .int i, .int j => some (.bl (decide (i = j)))
  | .str i, .str j => some (.bl (decide (i = j)))
  | .bl i, .bl j => some (.bl (decide (i = j)))
  | x, y => if okD x && okD y then some (.bl (PyData.eqv (toPy x) (toPy y))) else none
def notD : D → Option D
  | .bl b => some (.bl (!b))
  | _ => none
def fNe (x y : D) : Option D := (fEq x y).bind notD
def rEq2 (K : PySem.W.Frag) : R2 := fun x y H Q => rEq x y H Q ∨ rEqD K x y H Q
def rNe2 (K : PySem.W.Frag) : R2 := fun x y H Q => rNe x y H Q ∨ rNeD K x y H Q
theorem op_eq2 (hu : X.A.units + 64 < cLine) : OpR X (compareOp .Eq) (rEq2 X.K) := op_eq.or (op_eqD hu)
theorem op_ne2 (hu : X.A.units + 64 < cLine) : OpR X (compareOp .NotEq) (rNe2 X.K) := op_ne.or (op_neD hu)
theorem d_eq : Op2 g (rEq2 g.K) rD rD rD fEq := op2_of fun x y d v u H0 H1 Hb H Q e s q q' k => by
  unfold fEq at e
  split at e
  · cases e
    rw [rep_int.mp q, rep_int.mp q']
    refine .inl ⟨rfl, k _ (rep_bl.mpr ?_)⟩
    rw [dec_int, Bool.beq_eq_decide_eq]
  · cases e
    rw [rep_str.mp q, rep_str.mp q']
    refine .inl ⟨rfl, k _ (rep_bl.mpr ?_)⟩
    rw [dec_str, Bool.beq_eq_decide_eq]
  · cases e
    rw [rep_bl.mp q, rep_bl.mp q']
    refine .inl ⟨rfl, k _ (rep_bl.mpr ?_)⟩
    rw [dec_bl, Bool.beq_eq_decide_eq]
  · split at e
    · rename_i h
      cases e
      simp only [okD, Bool.and_eq_true] at h
      exact .inr ⟨_, _, rep_dp h.1.1 (Rep.same s q), rep_dp h.2.1 (Rep.same s q'), h.1.2, h.2.2, k _ (rep_bl.mpr rfl)⟩
    · cases e
theorem d_ne : Op2 g (rNe2 g.K) rD rD rD fNe := op2_of fun x y d v u H0 H1 Hb H Q e s q q' k => by
  obtain ⟨z, e1, e2⟩ := Option.bind_eq_some_iff.mp e
  unfold fEq at e1
  split at e1
  · cases e1
    cases e2
    rw [rep_int.mp q, rep_int.mp q']
    refine .inl ⟨rfl, k _ (rep_bl.mpr ?_)⟩
    rw [dec_int, Bool.beq_eq_decide_eq]
  · cases e1
    cases e2
    rw [rep_str.mp q, rep_str.mp q']
    refine .inl ⟨rfl, k _ (rep_bl.mpr ?_)⟩
    rw [dec_str, Bool.beq_eq_decide_eq]
  · cases e1
    cases e2
    rw [rep_bl.mp q, rep_bl.mp q']
    refine .inl ⟨rfl, k _ (rep_bl.mpr ?_)⟩
    rw [dec_bl, Bool.beq_eq_decide_eq]
  · split at e1
    · rename_i h
      cases e1
      cases e2
      simp only [okD, Bool.and_eq_true] at h
      exact .inr ⟨_, _, rep_dp h.1.1 (Rep.same s q), rep_dp h.2.1 (Rep.same s q'), h.1.2, h.2.2, k _ (rep_bl.mpr rfl)⟩
    · cases e1

/-! ### tests; and, or, not -/
def toB : D → Option Bool
  | .bl b => some b
  | _ => none
def bV (f : VF) : VB := fun Γ => (f Γ).bind toB
theorem toB_some {d : D} {b : Bool} (h : toB d = some b) : d = .bl b := by
  unfold toB at h
  split at h
  · cases h; rfl
  · cases h
theorem pt_v {f : VF} (h : PT X c (tB (eV g f))) : PT X c (eT g (bV f)) := PT_mono h fun σ H Q ⟨Γ, Hb, ow, d, ef, S, k⟩ => by
  obtain ⟨x, e1, e2⟩ := Option.bind_eq_some_iff.mp ef
  cases toB_some e2
  exact ⟨Γ, Hb, ow, _, e1, S, fun v Hb' H' g' r => ⟨d, rep_bl.mp r, k Hb' H' g'⟩⟩
def bNot (f : VB) : VB := fun Γ => (f Γ).bind fun b => some (!b)
def bAnd (f h : VB) : VB := fun Γ => (f Γ).bind fun b => if b = true then h Γ else some false
def bOr (f h : VB) : VB := fun Γ => (f Γ).bind fun b => if b = true then some true else h Γ
theorem pt_n {f : VB} (h : PT X c (tNot (eT g f))) : PT X c (eT g (bNot f)) := PT_mono h fun σ H Q ⟨Γ, Hb, ow, d, ef, S, k⟩ => by
  obtain ⟨x, e1, e2⟩ := Option.bind_eq_some_iff.mp ef
  cases e2
  exact ⟨Γ, Hb, ow, _, e1, S, fun Hb' H' g' => k Hb' H' g'⟩
theorem pw_a {f f' : VB} (h : PW X c (tAnd (eT g f) (eT g f'))) : PW X c (eT g (bAnd f f')) := PW_mono h fun σ H Q ⟨Γ, Hb, ow, d, ef, S, k⟩ => by
  obtain ⟨x, e1, e2⟩ := Option.bind_eq_some_iff.mp ef
  refine ⟨Γ, Hb, ow, _, e1, S, fun Hb' H' g' => ?_⟩
  cases x with
  | true => exact iteT ⟨Γ, Hb', ow, d, e2, S.grow g', fun Hb2 H2 g2 => k Hb2 H2 (g'.trans g2)⟩
  | false => cases e2; exact iteF (k Hb' H' g')
theorem pw_o {f f' : VB} (h : PW X c (tOr (eT g f) (eT g f'))) : PW X c (eT g (bOr f f')) := PW_mono h fun σ H Q ⟨Γ, Hb, ow, d, ef, S, k⟩ => by
  obtain ⟨x, e1, e2⟩ := Option.bind_eq_some_iff.mp ef
  refine ⟨Γ, Hb, ow, _, e1, S, fun Hb' H' g' => ?_⟩
  cases x with
  | false => exact iteF ⟨Γ, Hb', ow, d, e2, S.grow g', fun Hb2 H2 g2 => k Hb2 H2 (g'.trans g2)⟩
  | true => cases e2; exact iteT (k Hb' H' g')
/-- as values -/
def vAnd (f h : VF) : VF := fun Γ => (f Γ).bind fun d => match d with | .bl true => h Γ | .bl false => some (.bl false) | _ => none
def vOr (f h : VF) : VF := fun Γ => (f Γ).bind fun d => match d with | .bl true => some (.bl true) | .bl false => h Γ | _ => none
theorem ev_and {f f' : VF} (h : PE X c (tAndV (eV g f) (eV g f'))) : PE X c (eV g (vAnd f f')) := PE_mono h fun σ H Q ⟨Γ, Hb, ow, d, ef, S, k⟩ => by
  obtain ⟨x, e1, e2⟩ := Option.bind_eq_some_iff.mp ef
  refine ⟨Γ, Hb, ow, _, e1, S, fun v Hb' H' g' r => ?_⟩
  split at e2
  · exact ⟨true, rep_bl.mp r, iteT ⟨Γ, Hb', ow, d, e2, S.grow g', fun v2 Hb2 H2 g2 => k v2 Hb2 H2 (g'.trans g2)⟩⟩
  · cases e2; exact ⟨false, rep_bl.mp r, iteF (k _ Hb' H' g' (rep_bl.mpr rfl))⟩
  · cases e2
theorem ev_or {f f' : VF} (h : PE X c (tOrV (eV g f) (eV g f'))) : PE X c (eV g (vOr f f')) := PE_mono h fun σ H Q ⟨Γ, Hb, ow, d, ef, S, k⟩ => by
  obtain ⟨x, e1, e2⟩ := Option.bind_eq_some_iff.mp ef
  refine ⟨Γ, Hb, ow, _, e1, S, fun v Hb' H' g' r => ?_⟩
  split at e2
  · cases e2; exact ⟨true, rep_bl.mp r, iteT (k _ Hb' H' g' (rep_bl.mpr rfl))⟩
  · exact ⟨false, rep_bl.mp r, iteF ⟨Γ, Hb', ow, d, e2, S.grow g', fun v2 Hb2 H2 g2 => k v2 Hb2 H2 (g'.trans g2)⟩⟩
  · cases e2
theorem ev_not {f : VF} (h : PE X c (tNotV (eV g f))) : PE X c (eV g (v1 notD f)) := PE_mono h fun σ H Q ⟨Γ, Hb, ow, d, ef, S, k⟩ => by
  obtain ⟨x, e1, e2⟩ := Option.bind_eq_some_iff.mp ef
  refine ⟨Γ, Hb, ow, _, e1, S, fun v Hb' H' g' r => ?_⟩
  unfold notD at e2
  split at e2
  · cases e2; exact ⟨_, rep_bl.mp r, k _ Hb' H' g' (rep_bl.mpr rfl)⟩
  · cases e2
def vIf {α : Type} (t : VB) (f h : En → Option α) : En → Option α := fun Γ => (t Γ).bind fun b => if b = true then f Γ else h Γ
theorem ek_if {α : Type} {r : RP α} [Mono r] {t : VB} {f f' : En → Option α} (h : PE X c (tIf (eT g t) (eK g r f) (eK g r f'))) : PE X c (eK g r (vIf t f f')) := PE_mono h fun σ H Q ⟨Γ, Hb, ow, d, ef, S, k⟩ => by
  obtain ⟨x, e1, e2⟩ := Option.bind_eq_some_iff.mp ef
  refine ⟨Γ, Hb, ow, _, e1, S, fun Hb' H' g' => ?_⟩
  cases x with
  | true => exact iteT ⟨Γ, Hb', ow, d, e2, S.grow g', fun v2 Hb2 H2 g2 q => k v2 Hb2 H2 (g'.trans g2) (Mono.back (frees g'.h) q)⟩
  | false => exact iteF ⟨Γ, Hb', ow, d, e2, S.grow g', fun v2 Hb2 H2 g2 q => k v2 Hb2 H2 (g'.trans g2) (Mono.back (frees g'.h) q)⟩
/-- a < b < c -/
def vChain (F G : D → D → Option D) (f h j : VF) : VF := fun Γ => (f Γ).bind fun x => (h Γ).bind fun y => (F x y).bind fun z => match z with | .bl true => (j Γ).bind fun w => G y w | .bl false => some (.bl false) | _ => none
theorem chain_read {r r' : R2} {F G : D → D → Option D} {f h' j : VF} {σ : SS} {H : Hp} {Q : VK} (d1 : Op2 g r rD rD rD F) (d2 : Op2 g r' rD rD rD G) (h : eV g (vChain F G f h' j) σ H Q) : tChain r r' (eV g f) (eV g h') (eV g j) σ H Q := by
  obtain ⟨Γ, Hb, ow, d, ef, S, k⟩ := h
  obtain ⟨x, e1, ef⟩ := Option.bind_eq_some_iff.mp ef
  obtain ⟨y, e2, ef⟩ := Option.bind_eq_some_iff.mp ef
  obtain ⟨z, e3, ef⟩ := Option.bind_eq_some_iff.mp ef
  refine ⟨Γ, Hb, ow, x, e1, S, fun v Hb1 H1 g1 q1 => ⟨Γ, Hb1, ow, y, e2, S.grow g1, fun u Hb2 H2 g2 q2 => d1 x y z v u H H1 Hb2 H2 _ e3 g2.same (Mono.mono g2 q1) q2 fun v3 Hb3 H3 g3 q3 => ?_⟩⟩
  split at ef
  · obtain ⟨w, e4, e5⟩ := Option.bind_eq_some_iff.mp ef
    refine ⟨true, rep_bl.mp q3, iteT ⟨Γ, Hb3, ow, w, e4, (S.grow g1).grow (g2.trans g3), fun v4 Hb4 H4 g4 q4 => ?_⟩⟩
    exact d2 y w d u v4 H1 H3 Hb4 H4 Q e5 g4.same (Mono.mono (g3.trans g4) q2) q4 fun v5 Hb5 H5 g5 q5 => k v5 Hb5 H5 ((((g1.trans g2).trans g3).trans g4).trans g5) (Mono.back (frees (((g1.h.trans g2.h).trans g3.h).trans g4.h)) q5)
  · cases ef
    exact ⟨false, rep_bl.mp q3, iteF (k _ Hb3 H3 ((g1.trans g2).trans g3) (rep_bl.mpr rfl))⟩
  · cases ef
theorem ev_chain {r r' : R2} {F G : D → D → Option D} {f h' j : VF} (h : PE X c (tChain r r' (eV g f) (eV g h') (eV g j))) (d1 : Op2 g r rD rD rD F) (d2 : Op2 g r' rD rD rD G) : PE X c (eV g (vChain F G f h' j)) := PE_mono h fun σ H Q q => chain_read d1 d2 q
end
end Z

set_option maxRecDepth 100000
namespace Z
open PySem PySem.Spec PyProof.Rows L2
theorem le_line {n : Nat} (h : n ≤ 1000000) : n ≤ sizeLine := by rw [sizeLine_eq]; omega
theorem lt_line {n : Nat} (h : n ≤ 1000000) : n < sizeLine := by rw [sizeLine_eq]; omega
theorem Reps.map_inj {K : PySem.W.Frag} {H : Hp} {α : Type} {F : α → D} {G : α → V} (h : ∀ x v, Rep K H v (F x) → v = G x) : ∀ {xs : List α} {vs : List V}, Reps K H vs (xs.map F) → vs = xs.map G
  | [], _, q => reps_nil.mp q
  | x :: xs, _, q => by
    obtain ⟨v, r, rfl, h1, h2⟩ := reps_cons.mp q
    rw [h _ _ h1, Reps.map_inj h h2]; rfl

section
variable {X : Cx} {g : Glo} {c e : Expr} {es : List Expr}

/-! ### rows of expressions; displays -/
def eA (g : Glo) (f : VL) : TA := fun σ H Q => ∃ Γ Hb ow d, f Γ = some d ∧ Sat g Γ σ Hb H ow ∧ ∀ vs Hb' H', Grow Hb H Hb' H' → Reps g.K Hb' vs d → Q vs H'
def aNil : VL := fun _ => some []
def aCons (f : VF) (fs : VL) : VL := fun Γ => (f Γ).bind fun x => (fs Γ).bind fun xs => some (x :: xs)
theorem ea_nil (h : PA X es tNil) : PA X es (eA g aNil) := PA_mono h fun σ H Q ⟨Γ, Hb, ow, d, ef, S, k⟩ => by
  cases ef
  exact k [] Hb H (Grow.refl S.same) Reps.nil
theorem ea_cons {f : VF} {fs : VL} (h : PA X es (tCons (eV g f) (eA g fs))) : PA X es (eA g (aCons f fs)) := PA_mono h fun σ H Q ⟨Γ, Hb, ow, d, ef, S, k⟩ => by
  obtain ⟨x, e1, ef⟩ := Option.bind_eq_some_iff.mp ef
  obtain ⟨xs, e2, ef⟩ := Option.bind_eq_some_iff.mp ef
  cases ef
  exact ⟨Γ, Hb, ow, x, e1, S, fun v Hb1 H1 g1 q1 => ⟨Γ, Hb1, ow, xs, e2, S.grow g1, fun vs Hb2 H2 g2 q2 => k _ Hb2 H2 (g1.trans g2) (Reps.cons (Rep.same g2.hb q1) q2)⟩⟩
def fewD (ds : List D) : Bool := decide (ds.length ≤ 1000000)
def oLst (f : VL) : VS := fun Γ => (f Γ).bind fun ds => if fewD ds = true then some (.own .loc ds) else none
def vTup (f : VL) : VF := fun Γ => (f Γ).bind fun ds => if fewD ds = true then some (.tup ds) else none
theorem eo_lst {f : VL} (h : PE X c (tLst (eA g f))) : PE X c (eO g (oLst f)) := PE_mono h fun σ H Q ⟨Γ, Hb, ow, d, ef, S, k⟩ => by
  obtain ⟨x, e1, ef⟩ := Option.bind_eq_some_iff.mp ef
  split at ef
  · rename_i hf
    cases ef
    refine ⟨Γ, Hb, ow, x, e1, S, fun vs Hb1 H1 g1 q1 => ⟨by rw [q1.len]; exact le_line (of_decide_eq_true hf), fun p hp => ?_⟩⟩
    exact k _ Hb1 _ (g1.trans (Grow.own g1.same hp)) ⟨p, vs, rfl, g1.h.free hp, g1.same.free hp, upd_same, q1⟩
  · cases ef
theorem ev_tup {f : VL} (h : PE X c (tTup (eA g f))) : PE X c (eV g (vTup f)) := PE_mono h fun σ H Q ⟨Γ, Hb, ow, d, ef, S, k⟩ => by
  obtain ⟨x, e1, ef⟩ := Option.bind_eq_some_iff.mp ef
  split at ef
  · rename_i hf
    cases ef
    refine ⟨Γ, Hb, ow, x, e1, S, fun vs Hb1 H1 g1 q1 => ⟨by rw [q1.len]; exact le_line (of_decide_eq_true hf), fun p hp => ?_⟩⟩
    have g2 := Grow.put (o := .tup vs) g1.same hp
    exact k _ _ _ (g1.trans g2) (rep_tup.mpr ⟨p, vs, rfl, upd_same, q1.same g2.hb⟩)
  · cases ef

/-! ### from kind to kind -/
def slD : Sl → Option D
  | .val d => some d
  | .own _ ds => some (.lst ds)
  | .odic _ ks => some (.dic ks)
  | .net _ _ _ => none
/-- what is new is frozen -/
theorem froze {Hb H Hb1 H1 : Hp} {a : Addr} {o : HO} (g1 : Grow Hb H Hb1 H1) (h0 : H a = none) (hb : Hb1 a = none) (h1 : H1 a = some o) : Grow Hb H (upd Hb1 a o) H1 := by
  refine ⟨fun b u e => ?_, g1.h, Same.froze g1.same h1, fun b hb' => ?_⟩
  · have q := g1.hb _ _ e
    rw [upd_ne (ne_of_none q hb)]
    exact q
  · by_cases q : b = a
    · subst q; exact .inr h0
    · rw [upd_ne q] at hb'; exact g1.new b hb'
theorem same_upd {Hb : Hp} {a : Addr} {o : HO} (hb : Hb a = none) : Same Hb (upd Hb a o) := fun b u e => by
  rw [upd_ne (ne_of_none e hb)]; exact e
theorem ev_ofO {f : VS} (h : PE X c (eO g f)) : PE X c (eV g (v1 slD f)) := PE_mono h fun σ H Q ⟨Γ, Hb, ow, d, ef, S, k⟩ => by
  obtain ⟨x, e1, ef⟩ := Option.bind_eq_some_iff.mp ef
  refine ⟨Γ, Hb, ow, x, e1, S, fun v Hb1 H1 g1 q1 => ?_⟩
  cases x with
  | val d' => cases ef; exact k v Hb1 H1 g1 q1
  | own m ds =>
    cases ef
    obtain ⟨a, vs, rfl, h0, hb, h1, h2⟩ := q1
    exact k _ _ H1 (froze g1 h0 hb h1) (rep_lst.mpr ⟨a, vs, rfl, upd_same, h2.same (same_upd hb)⟩)
  | odic m ks =>
    cases ef
    obtain ⟨a, rfl, h0, hb, h1⟩ := q1
    exact k _ _ H1 (froze g1 h0 hb h1) (rep_dic.mpr ⟨a, rfl, upd_same⟩)
  | net m size ps => cases ef
def slL : Sl → Option (List D)
  | .val (.lst ds) => some ds
  | .own _ ds => some ds
  | _ => none
def dL : D → Option (List D)
  | .lst ds => some ds
  | _ => none
def dM : D → Option (List Int)
  | .dic ds => some ds
  | _ => none
theorem el_ofV {f : VF} (h : PE X c (eV g f)) : PE X c (eL g (v1 dL f)) := PE_mono h fun σ H Q ⟨Γ, Hb, ow, d, ef, S, k⟩ => by
  obtain ⟨x, e1, ef⟩ := Option.bind_eq_some_iff.mp ef
  refine ⟨Γ, Hb, ow, x, e1, S, fun v Hb1 H1 g1 q1 => ?_⟩
  unfold dL at ef
  split at ef
  · cases ef
    obtain ⟨a, vs, rfl, h1, h2⟩ := rep_lst.mp (show Rep g.K Hb1 v (.lst d) from q1)
    exact k _ Hb1 H1 g1 ⟨a, vs, rfl, g1.same _ _ h1, h2⟩
  · cases ef
theorem em_ofV {f : VF} (h : PE X c (eV g f)) : PE X c (eK g rM (v1 dM f)) := PE_mono h fun σ H Q ⟨Γ, Hb, ow, d, ef, S, k⟩ => by
  obtain ⟨x, e1, ef⟩ := Option.bind_eq_some_iff.mp ef
  refine ⟨Γ, Hb, ow, x, e1, S, fun v Hb1 H1 g1 q1 => ?_⟩
  unfold dM at ef
  split at ef
  · cases ef
    obtain ⟨a, rfl, h1⟩ := rep_dic.mp (show Rep g.K Hb1 v (.dic d) from q1)
    exact k _ Hb1 H1 g1 ⟨a, rfl, g1.same _ _ h1⟩
  · cases ef
theorem el_ofO {f : VS} (h : PE X c (eO g f)) : PE X c (eL g (v1 slL f)) := PE_mono h fun σ H Q ⟨Γ, Hb, ow, d, ef, S, k⟩ => by
  obtain ⟨x, e1, ef⟩ := Option.bind_eq_some_iff.mp ef
  refine ⟨Γ, Hb, ow, x, e1, S, fun v Hb1 H1 g1 q1 => ?_⟩
  unfold slL at ef
  split at ef
  · cases ef
    obtain ⟨a, vs, rfl, h1, h2⟩ := rep_lst.mp (show Rep g.K Hb1 v (.lst d) from q1)
    exact k _ Hb1 H1 g1 ⟨a, vs, rfl, g1.same _ _ h1, h2⟩
  · cases ef
    obtain ⟨a, vs, rfl, h0, hb, h1, h2⟩ := q1
    exact k _ Hb1 H1 g1 ⟨a, vs, rfl, h1, h2⟩
  · cases ef
def dO : D → Option Sl := fun d => some (.val d)
theorem eo_ofV {f : VF} (h : PE X c (eV g f)) : PE X c (eO g (v1 dO f)) := PE_mono h fun σ H Q ⟨Γ, Hb, ow, d, ef, S, k⟩ => by
  obtain ⟨x, e1, ef⟩ := Option.bind_eq_some_iff.mp ef
  cases ef
  exact ⟨Γ, Hb, ow, x, e1, S, fun v Hb1 H1 g1 q1 => k v Hb1 H1 g1 q1⟩

/-! ### a look at all as if it were frozen, for what is no reference -/
def scalD : D → Bool
  | .non => true
  | .bl _ => true
  | .int _ => true
  | .str _ => true
  | _ => false
theorem scal_rep {K : PySem.W.Frag} {H H' : Hp} {v : V} {d : D} (s : scalD d = true) (h : Rep K H v d) : Rep K H' v d := by
  cases d with
  | non => exact rep_non.mpr (rep_non.mp h)
  | bl b => exact rep_bl.mpr (rep_bl.mp h)
  | int b => exact rep_int.mpr (rep_int.mp h)
  | str b => exact rep_str.mpr (rep_str.mp h)
  | lst b => cases s
  | tup b => cases s
  | dic b => cases s
  | scr b => cases s
def frzS : Sl → Sl
  | .own _ ds => .val (.lst ds)
  | .odic _ ks => .val (.dic ks)
  | s => s
def frz (Γ : En) : En := Γ.map fun s => s.map frzS
/-- the frozen part with all that is owned and is no net's -/
noncomputable def frzHb (Γ : En) (ow : Addr → Option Nat) (Hb H : Hp) : Hp := fun a => match Hb a with
  | some o => some o
  | none => match ow a with
    | some i => match Γ[i]? with
      | some (some (.own _ _)) => H a
      | some (some (.odic _ _)) => H a
      | _ => none
    | none => none
theorem frz_get {Γ : En} {i : Nat} : (frz Γ)[i]? = (Γ[i]?).map fun s => s.map frzS := by simp [frz]
theorem Sat.frz {Γ : En} {σ : SS} {Hb H : Hp} {ow : Addr → Option Nat} (S : Sat g Γ σ Hb H ow) : Sat g (frz Γ) σ (frzHb Γ ow Hb H) H (fun a => match ow a with | some i => (match Γ[i]? with | some (some (.net _ _ _)) => some i | _ => none) | none => none) := by
  have sb : Same Hb (frzHb Γ ow Hb H) := fun a o e => by unfold frzHb; rw [e]
  have low : ∀ {i : Nat} {m : Md} {ds : List D}, Γ[i]? = some (some (.own m ds)) → ∀ {a : Addr}, ow a = some i → frzHb Γ ow Hb H a = H a := fun {i m ds} e {a} q => by
    unfold frzHb; rw [(S.ows a i q).1]; simp only [q, e]
  have lod : ∀ {i : Nat} {m : Md} {ds : List Int}, Γ[i]? = some (some (.odic m ds)) → ∀ {a : Addr}, ow a = some i → frzHb Γ ow Hb H a = H a := fun {i m ds} e {a} q => by
    unfold frzHb; rw [(S.ows a i q).1]; simp only [q, e]
  refine ⟨fun a o e => ?_, fun a i e => ?_, fun i s e => ?_, by rw [← S.len]; simp [Z.frz]⟩
  · unfold frzHb at e
    split at e
    · rename_i o' e'
      cases e
      exact S.same _ _ e'
    · split at e
      · split at e
        · exact e
        · exact e
        · cases e
      · cases e
  · split at e
    · rename_i j ej
      split at e
      · rename_i n1 n2 n3 en
        have e := Option.some.inj e
        subst e
        obtain ⟨h1, h2⟩ := S.ows a _ ej
        refine ⟨?_, h2⟩
        unfold frzHb
        rw [h1]
        simp only [ej, en]
      · cases e
    · cases e
  · rw [frz_get] at e
    cases q : Γ[i]? with
    | none => rw [q] at e; cases e
    | some o =>
      cases o with
      | none => rw [q] at e; cases e
      | some t =>
        rw [q] at e
        cases e
        obtain ⟨v, q1, q2⟩ := S.slots i t q
        refine ⟨v, q1, ?_⟩
        cases t with
        | val d => exact Rep.same sb q2
        | own m ds =>
          obtain ⟨a, vs, rfl, o1, h1, h2⟩ := q2
          exact rep_lst.mpr ⟨a, vs, rfl, by rw [low q o1]; exact h1, h2.same sb⟩
        | odic m ks =>
          obtain ⟨a, rfl, o1, h1⟩ := q2
          exact (rep_dic (K := g.K)).mpr ⟨a, rfl, by rw [lod q o1]; exact h1⟩
        | net m size ps =>
          obtain ⟨a, dx, l, vs, rfl, o1, o2, h1, h2, h3⟩ := q2
          refine ⟨a, dx, l, vs, rfl, ?_, ?_, h1, h2, h3.same sb⟩
          · simp only [o1, q]
          · simp only [o2, q]
def vFrz (f : VF) : VF := fun Γ => (f (frz Γ)).bind fun d => if scalD d = true then some d else none
theorem ev_frz {f : VF} (h : PE X c (eV g f)) : PE X c (eV g (vFrz f)) := PE_mono h fun σ H Q ⟨Γ, Hb, ow, d, ef, S, k⟩ => by
  obtain ⟨x, e1, ef⟩ := Option.bind_eq_some_iff.mp ef
  split at ef
  · rename_i hs
    have ef := Option.some.inj ef
    subst ef
    exact ⟨frz Γ, _, _, x, e1, S.frz, fun v Hb1 H1 g1 q1 => k v Hb H1 ⟨Same.refl _, g1.h, S.same.trans g1.h, fun a h => .inl h⟩ (scal_rep hs q1)⟩
  · cases ef
def bFrz (f : VB) : VB := fun Γ => f (frz Γ)
theorem pt_frz {f : VB} (h : PT X c (eT g f)) : PT X c (eT g (bFrz f)) := PT_mono h fun σ H Q ⟨Γ, Hb, ow, d, ef, S, k⟩ =>
  ⟨frz Γ, _, _, d, ef, S.frz, fun Hb1 H1 g1 => k Hb H1 ⟨Same.refl _, g1.h, S.same.trans g1.h, fun a h => .inl h⟩⟩

/-! ### places -/
theorem atI_rep {K : PySem.W.Frag} {H : Hp} {ds : List D} {vs : List V} {i : Int} {d : D} (h : Reps K H vs ds) (e : atI ds i = some d) : ∃ v, atI vs i = some v ∧ Rep K H v d := by
  unfold atI at e ⊢
  obtain ⟨j, e1, e2⟩ := Option.bind_eq_some_iff.mp e
  obtain ⟨v, q1, q2⟩ := h.get e2
  exact ⟨v, by rw [h.len, e1]; exact q1, q2⟩
def fIxL : List D → D → Option D
  | ds, .int i => atI ds i
  | _, _ => none
theorem d_ixL : Op2 g (rIxL g.K) rL rD rD fIxL := op2_of fun x y d v u H0 H1 Hb H Q e s q q' k => by
  unfold fIxL at e
  split at e
  · obtain ⟨a, vs, rfl, h1, h2⟩ := q
    obtain ⟨w, e1, e2⟩ := atI_rep h2 e
    exact ⟨a, vs, _, w, rfl, rep_int.mp q', SqL.of h1, e1, k _ e2⟩
  · cases e
def fIx : D → D → Option D
  | .lst ds, .int i => atI ds i
  | .tup ds, .int i => atI ds i
  | .scr ns, .int i => (atI ns i).map .int
  | .str z, .int i => if decide (z.length ≤ 1000000) = true then (atI z.cps.toList i).map fun c => .str ⟨#[c]⟩ else none
  | _, _ => none
theorem atI_map {α β : Type} (F : α → β) (xs : List α) (i : Int) : atI (xs.map F) i = (atI xs i).map F := by
  unfold atI
  rw [List.length_map]
  cases ixN xs.length i with
  | none => rfl
  | some j => simp
theorem d_ix : Op2 g (rIx g.K) rD rD rD fIx := op2_of fun x y d v u H0 H1 Hb H Q e s q q' k => by
  unfold fIx at e
  split at e
  · obtain ⟨a, vs, rfl, h1, h2⟩ := rep_lst.mp q
    obtain ⟨w, e1, e2⟩ := atI_rep h2 e
    exact .inl ⟨a, vs, _, w, rfl, rep_int.mp q', SqL.of (s _ _ h1), e1, k _ e2⟩
  · obtain ⟨a, vs, rfl, h1, h2⟩ := rep_tup.mp q
    obtain ⟨w, e1, e2⟩ := atI_rep h2 e
    exact .inr (.inl ⟨a, vs, _, w, rfl, rep_int.mp q', SqT.of (s _ _ h1), e1, k _ e2⟩)
  · obtain ⟨a, rfl, h1⟩ := rep_scr.mp q
    obtain ⟨n, e1, rfl⟩ := Option.map_eq_some_iff.mp e
    exact .inl ⟨a, _, _, .int n, rfl, rep_int.mp q', s.seq h1, by rw [atI_map, e1]; rfl, k _ (rep_int.mpr rfl)⟩
  · split at e
    · rename_i hz
      obtain ⟨n, e1, rfl⟩ := Option.map_eq_some_iff.mp e
      exact .inr (.inr ⟨_, _, n, rep_str.mp q, rep_int.mp q', le_line (of_decide_eq_true hz), e1, k _ (rep_str.mpr rfl)⟩)
    · cases e
  · cases e

/-! ### in -/
def eqF : D → D → Bool
  | .non, .non => true
  | .bl a, .bl b => a == b
  | .bl a, .int b => (if a then 1 else 0) == b
  | .int a, .bl b => a == (if b then 1 else 0)
  | .int a, .int b => a == b
  | .str a, .str b => a == b
  | _, _ => false
theorem scal_flat {K : PySem.W.Frag} {H : Hp} {v : V} {d : D} (s : scalD d = true) (h : Rep K H v d) : flatV v = true := by
  cases d with
  | non => rw [rep_non.mp h]; rfl
  | bl b => rw [rep_bl.mp h]; rfl
  | int b => rw [rep_int.mp h]; rfl
  | str b => rw [rep_str.mp h]; rfl
  | _ => cases s
theorem eqF_rep {K K' : PySem.W.Frag} {H H' : Hp} {v u : V} {d x : D} (s : scalD d = true) (s' : scalD x = true) (h : Rep K H v d) (h' : Rep K' H' u x) : eqV v u = eqF d x := by
  cases d with
  | non =>
    rw [rep_non.mp h]
    cases x with
    | non => rw [rep_non.mp h']; rfl
    | bl b => rw [rep_bl.mp h']; rfl
    | int b => rw [rep_int.mp h']; rfl
    | str b => rw [rep_str.mp h']; rfl
    | _ => cases s'
  | bl a =>
    rw [rep_bl.mp h]
    cases x with
    | non => rw [rep_non.mp h']; rfl
    | bl b => rw [rep_bl.mp h']; rfl
    | int b => rw [rep_int.mp h']; rfl
    | str b => rw [rep_str.mp h']; rfl
    | _ => cases s'
  | int a =>
    rw [rep_int.mp h]
    cases x with
    | non => rw [rep_non.mp h']; rfl
    | bl b => rw [rep_bl.mp h']; rfl
    | int b => rw [rep_int.mp h']; rfl
    | str b => rw [rep_str.mp h']; rfl
    | _ => cases s'
  | str a =>
    rw [rep_str.mp h]
    cases x with
    | non => rw [rep_non.mp h']; rfl
    | bl b => rw [rep_bl.mp h']; rfl
    | int b => rw [rep_int.mp h']; rfl
    | str b => rw [rep_str.mp h']; rfl
    | _ => cases s'
  | _ => cases s
theorem flat_reps {K : PySem.W.Frag} {H : Hp} : ∀ {ds : List D} {vs : List V}, ds.all scalD = true → Reps K H vs ds → vs.all flatV = true
  | [], _, _, h => by rw [reps_nil.mp h]; rfl
  | d :: ds, _, f, h => by
    obtain ⟨v, r, rfl, h1, h2⟩ := reps_cons.mp h
    rw [List.all_cons, Bool.and_eq_true] at f ⊢
    exact ⟨scal_flat f.1 h1, flat_reps f.2 h2⟩
theorem inV_rep {K K' : PySem.W.Frag} {H H' : Hp} {x : D} {u : V} (s : scalD x = true) (hu : Rep K' H' u x) : ∀ {ds : List D} {vs : List V}, ds.all scalD = true → Reps K H vs ds → inV u vs = ds.any fun y => eqF y x
  | [], _, _, h => by rw [reps_nil.mp h]; rfl
  | d :: ds, _, f, h => by
    obtain ⟨v, r, rfl, h1, h2⟩ := reps_cons.mp h
    rw [List.all_cons, Bool.and_eq_true] at f
    have ih := inV_rep s hu f.2 h2
    unfold inV at ih ⊢
    rw [List.any_cons, List.any_cons, eqF_rep f.1 s h1 hu, ih]
def inD (x : D) (ds : List D) : Option Bool := if scalD x && ds.all scalD then some (ds.any fun y => eqF y x) else none
def fIn (neg : Bool) (x : D) (ds : List D) : Option D := (inD x ds).map fun b => .bl (if neg = true then !b else b)
theorem d_inL (neg : Bool) : Op2 g (rIn g.K neg) rD rL rD (fIn neg) := op2_of fun x y d v u H0 H1 Hb H Q e s q q' k => by
  obtain ⟨b, e1, rfl⟩ := Option.map_eq_some_iff.mp e
  unfold inD at e1
  split at e1
  · rename_i hs
    cases e1
    rw [Bool.and_eq_true] at hs
    obtain ⟨a, vs, rfl, h1, h2⟩ := q'
    refine ⟨a, vs, rfl, .inl (SqL.of h1), scal_flat hs.1 q, flat_reps hs.2 h2, ?_⟩
    rw [inV_rep hs.1 q hs.2 h2]
    exact k _ (rep_bl.mpr rfl)
  · cases e1
/-- x in a tuple -/
def dT : D → Option (List D)
  | .tup ds => some ds
  | _ => none
def fInT (neg : Bool) (x y : D) : Option D := (dT y).bind fun ds => fIn neg x ds
theorem d_inT (neg : Bool) : Op2 g (rIn g.K neg) rD rD rD (fInT neg) := op2_of fun x y d v u H0 H1 Hb H Q e s q q' k => by
  obtain ⟨ds, e0, e⟩ := Option.bind_eq_some_iff.mp e
  unfold dT at e0
  split at e0
  · cases e0
    obtain ⟨b, e1, rfl⟩ := Option.map_eq_some_iff.mp e
    unfold inD at e1
    split at e1
    · rename_i hs
      cases e1
      rw [Bool.and_eq_true] at hs
      obtain ⟨a, vs, rfl, h1, h2⟩ := rep_tup.mp q'
      refine ⟨a, vs, rfl, .inr (SqT.of (s _ _ h1)), scal_flat hs.1 q, flat_reps hs.2 h2, ?_⟩
      rw [inV_rep hs.1 q hs.2 h2]
      exact k _ (rep_bl.mpr rfl)
    · cases e1
  · cases e0

/-! ### dicts -/
theorem val_dk (n : Int) : ∀ ks : List Int, valV (dk ks) (Sum.inl n) = if n ∈ ks then some (V.bl true) else none
  | [] => rfl
  | k :: ks => by
    show valV ((Sum.inl k, V.bl true) :: dk ks) (Sum.inl n) = _
    by_cases e : k = n
    · subst e
      rw [valV_pos rfl]
      simp
    · rw [valV_neg (fun q => e (Sum.inl.inj q)), val_dk n ks]
      have e' : ¬ n = k := fun q => e q.symm
      simp [e']
def fInM (neg : Bool) : D → List Int → Option D
  | .int n, ks => some (.bl (if neg = true then !decide (n ∈ ks) else decide (n ∈ ks)))
  | _, _ => none
def rDIn (neg : Bool) : R2 := fun y x H Q => ∃ a o, x = .ref a ∧ DGet H a y o ∧ Q (.bl (if neg = true then !o.isSome else o.isSome)) H
theorem d_inM (neg : Bool) : Op2 g (rDIn neg) rD rM rD (fInM neg) := op2_of fun x y d v u H0 H1 Hb H Q e s q q' k => by
  unfold fInM at e
  split at e
  · rename_i ks n
    cases e
    obtain ⟨a, rfl, h1⟩ := q'
    refine ⟨a, _, rfl, by rw [rep_int.mp q]; exact DGet.k (k := Sum.inl n) h1, ?_⟩
    refine k _ ?_
    have e2 : (valV (dk y) (Sum.inl n)).isSome = decide (n ∈ y) := by
      rw [val_dk]
      by_cases hm : n ∈ y
      · rw [if_pos hm, decide_eq_true hm]; rfl
      · rw [if_neg hm, decide_eq_false hm]; rfl
    rw [e2]
    exact rep_bl.mpr rfl
  · cases e
theorem to_din {ty td : TE} (h : PE X c (tDIn ty td)) : PE X c (tOp (rDIn false) ty td) := PE_mono h fun σ H Q q => q
theorem to_dnotin {ty td : TE} (h : PE X c (tDNotIn ty td)) : PE X c (tOp (rDIn true) ty td) := PE_mono h fun σ H Q q => q

/-! ### calls of built-ins -/
def C1 (r : List V → Hp → VK → Prop) : V → Hp → VK → Prop := fun v H Q => r [v] H Q
theorem to_1 {r : List V → Hp → VK → Prop} {te : TE} (h : PE X c (tCB r (tCons te tNil))) : PE X c (tUn (C1 r) te) := PE_mono h fun σ H Q q => q
def C2 (r : List V → Hp → VK → Prop) : R2 := fun v u H Q => r [v, u] H Q
theorem to_2 {r : List V → Hp → VK → Prop} {te tu : TE} (h : PE X c (tCB r (tCons te (tCons tu tNil)))) : PE X c (tOp (C2 r) te tu) := PE_mono h fun σ H Q q => q
def fLenL (ds : List D) : Option D := some (.int ds.length)
def rLen (K : PySem.W.Frag) : List V → Hp → VK → Prop := fun xs H Q => ∃ x n, xs = [x] ∧ LenV K x H n ∧ Q (.int n) H
theorem d_lenL : Op1 g (C1 (rLen g.K)) rL rD fLenL := op1_of fun x d v H0 Hb H Q e s q k => by
  cases e
  obtain ⟨a, vs, rfl, h1, h2⟩ := q
  refine ⟨_, x.length, rfl, .inl ⟨vs, SqL.of h1, h2.len.symm⟩, k _ (rep_int.mpr rfl)⟩
def fLen : D → Option D
  | .lst ds => some (.int ds.length)
  | .tup ds => some (.int ds.length)
  | .scr ns => some (.int ns.length)
  | .str z => if decide (z.length ≤ 1000000) = true then some (.int z.length) else none
  | _ => none
theorem d_len : Op1 g (C1 (rLen g.K)) rD rD fLen := op1_of fun x d v H0 Hb H Q e s q k => by
  unfold fLen at e
  split at e
  · cases e
    obtain ⟨a, vs, rfl, h1, h2⟩ := rep_lst.mp q
    refine ⟨_, _, rfl, .inl ⟨vs, SqL.of (s _ _ h1), h2.len.symm⟩, k _ (rep_int.mpr rfl)⟩
  · cases e
    obtain ⟨a, vs, rfl, h1, h2⟩ := rep_tup.mp q
    refine ⟨_, _, rfl, .inr ⟨vs, SqT.of (s _ _ h1), h2.len.symm⟩, k _ (rep_int.mpr rfl)⟩
  · rename_i ns
    cases e
    obtain ⟨a, rfl, h1⟩ := rep_scr.mp q
    exact ⟨_, ns.length, rfl, .inl ⟨_, s.seq h1, (List.length_map ..).symm⟩, k _ (rep_int.mpr rfl)⟩
  · split at e
    · rename_i hz
      cases e
      exact ⟨v, _, rfl, by rw [rep_str.mp q]; exact ⟨le_line (of_decide_eq_true hz), rfl⟩, k _ (rep_int.mpr rfl)⟩
    · cases e
  · cases e
def rLenD : List V → Hp → VK → Prop := fun xs H Q => ∃ a kvs, xs = [V.ref a] ∧ H a = some (.dK kvs) ∧ Q (.int kvs.length) H
def fLenM (ks : List Int) : Option D := some (.int ks.length)
theorem d_lenM : Op1 g (C1 rLenD) rM rD fLenM := op1_of fun x d v H0 Hb H Q e s q k => by
  cases e
  obtain ⟨a, rfl, h1⟩ := q
  exact ⟨a, _, rfl, h1, k _ (rep_int.mpr (by simp [dk]))⟩
def fMin := i2 tt2 fun i j => .int (if j < i then j else i)
def fMax := i2 tt2 fun i j => .int (if j > i then j else i)
theorem d_min2 : Op2 g (C2 fun xs H Q => ∃ i j, xs = [.int i, .int j] ∧ Q (.int (if j < i then j else i)) H) rD rD rD fMin := op2_i (fun i j H Q _ q => ⟨i, j, rfl, q⟩) fun _ _ _ _ => rep_int.mpr rfl
theorem d_max2 : Op2 g (C2 fun xs H Q => ∃ i j, xs = [.int i, .int j] ∧ Q (.int (if j > i then j else i)) H) rD rD rD fMax := op2_i (fun i j H Q _ q => ⟨i, j, rfl, q⟩) fun _ _ _ _ => rep_int.mpr rfl
/-- int(a bool) -/
def fIntB : D → Option D
  | .bl b => some (.int (if b = true then 1 else 0))
  | .int i => some (.int i)
  | _ => none
theorem d_int1 : Op1 g (C1 fun xs H Q => (∃ i, xs = [.int i] ∧ Q (.int i) H) ∨ ∃ k, xs = [.bl k] ∧ Q (.int (if k then 1 else 0)) H) rD rD fIntB := op1_of fun x d v H0 Hb H Q e s q k => by
  unfold fIntB at e
  split at e
  · cases e
    exact .inr ⟨_, by rw [rep_bl.mp q], k _ (rep_int.mpr rfl)⟩
  · cases e
    exact .inl ⟨_, by rw [rep_int.mp q], k _ (rep_int.mpr rfl)⟩
  · cases e

/-! ### lists from lists -/
def oList (ds : List D) : Option Sl := if fewD ds = true then some (.own .loc ds) else none
/-- a new list is laid -/
theorem new_lst {Hb H : Hp} {p : Addr} {vs : List V} {ds : List D} {Q : VK} (s : Same Hb H) (hp : H p = none) (r : Reps g.K Hb vs ds) (k : ∀ v' Hb' H', Grow Hb H Hb' H' → rO g H Hb' H' v' (.own .loc ds) → Q v' H') : Q (.ref p) (upd H p (.lst vs)) :=
  k _ Hb _ (Grow.own s hp) ⟨p, vs, rfl, hp, s.free hp, upd_same, r⟩
def rListOf (K : PySem.W.Frag) : List V → Hp → VK → Prop := fun xs H Q => ∃ p ys, xs = [.ref p] ∧ (SqL K H p ys ∨ SqT K H p ys) ∧ ∀ l, H l = none → Q (.ref l) (upd H l (.lst ys))
def fList (ds : List D) : Option Sl := some (.own .loc ds)
theorem d_list : Op1 g (C1 (rListOf g.K)) rL rO fList := fun x d v H0 Hb H Q e s q k => by
  cases e
  obtain ⟨a, vs, rfl, h1, h2⟩ := q
  exact ⟨a, vs, rfl, .inl (SqL.of h1), fun l hl => new_lst s hl h2 k⟩
def fCat (ds es : List D) : Option Sl := if decide (ds.length + es.length ≤ 1000000) = true then some (.own .loc (ds ++ es)) else none
theorem d_cat : Op2 g rCat rL rL rO fCat := fun x y d v u H0 H1 Hb H Q e s q q' k => by
  unfold fCat at e
  split at e
  · rename_i hf
    cases e
    obtain ⟨a, vs, rfl, h1, h2⟩ := q
    obtain ⟨b, us, rfl, h3, h4⟩ := q'
    exact ⟨a, b, vs, us, rfl, rfl, h1, h3, by rw [h2.len, h4.len]; exact le_line (of_decide_eq_true hf), fun p hp => new_lst s hp (h2.append h4) k⟩
  · cases e
/-- the whole numbers of a list -/
def toI : D → Option Int
  | .int i => some i
  | _ => none
def toIs : List D → Option (List Int)
  | [] => some []
  | d :: ds => (toI d).bind fun i => (toIs ds).bind fun is => some (i :: is)
theorem toIs_some : ∀ {ds : List D} {ns : List Int}, toIs ds = some ns → ds = ns.map .int
  | [], _, h => by cases h; rfl
  | d :: ds, _, h => by
    obtain ⟨i, e1, h⟩ := Option.bind_eq_some_iff.mp h
    obtain ⟨is, e2, h⟩ := Option.bind_eq_some_iff.mp h
    cases h
    rw [toIs_some e2]
    unfold toI at e1
    split at e1
    · cases e1; rfl
    · cases e1
theorem toIs_map (ns : List Int) : toIs (ns.map .int) = some ns := by
  induction ns with
  | nil => rfl
  | cons n ns ih => simp [toIs, toI, ih]
/-- sorted -/
def srt (ns : List Int) : List Int := ns.mergeSort (fun a b => decide (a ≤ b))
theorem srt_perm (ns : List Int) : (srt ns).Perm ns := List.mergeSort_perm _ _
theorem srt_pairwise (ns : List Int) : (srt ns).Pairwise (· ≤ ·) := by
  have h := List.pairwise_mergeSort (le := fun (a b : Int) => decide (a ≤ b)) (fun a b c h1 h2 => by simp at *; omega) (fun a b => by simp; omega) ns
  exact h.imp fun h => by simpa using h
theorem perm_sorted_eq : ∀ {as bs : List Int}, as.Perm bs → as.Pairwise (· ≤ ·) → bs.Pairwise (· ≤ ·) → as = bs := fun {as bs} p h1 h2 =>
  p.eq_of_pairwise (le := fun (a b : Int) => a ≤ b) (fun a b _ _ q1 q2 => Int.le_antisymm q1 q2) h1 h2
theorem srt_eq {ns ns' : List Int} (p : ns'.Perm ns) (h : ns'.Pairwise (· ≤ ·)) : ns' = srt ns := perm_sorted_eq (p.trans (srt_perm ns).symm) h (srt_pairwise ns)
def fSorted (ds : List D) : Option Sl := (toIs ds).map fun ns => .own .loc ((srt ns).map .int)
theorem d_sorted : Op1 g (C1 (rSortedI g.K)) rL rO fSorted := fun x d v H0 Hb H Q e s q k => by
  obtain ⟨ns, e1, rfl⟩ := Option.map_eq_some_iff.mp e
  obtain ⟨a, vs, rfl, h1, h2⟩ := q
  cases toIs_some e1
  cases Reps.ints h2
  exact ⟨a, ns, rfl, SqL.of h1, fun ns' p pm so hp => by rw [srt_eq pm so]; exact new_lst s hp (Reps.of_ints _) k⟩
/-- min of a list -/
def minOf : List Int → Int
  | [] => 0
  | n :: ns => ns.foldl (fun a b => if b < a then b else a) n
theorem min_fold : ∀ (ns : List Int) (n : Int), (∀ y ∈ ns, ns.foldl (fun a b => if b < a then b else a) n ≤ y) ∧ ns.foldl (fun a b => if b < a then b else a) n ≤ n ∧ (ns.foldl (fun a b => if b < a then b else a) n = n ∨ ns.foldl (fun a b => if b < a then b else a) n ∈ ns)
  | [], n => ⟨fun y h => (nomatch h), Int.le_refl _, Or.inl rfl⟩
  | m :: ns, n => by
    obtain ⟨h1, h2, h3⟩ := min_fold ns (if m < n then m else n)
    rw [List.foldl_cons]
    refine ⟨fun y hy => ?_, ?_, ?_⟩
    · rcases List.mem_cons.mp hy with rfl | hy
      · refine Int.le_trans h2 ?_
        split <;> omega
      · exact h1 y hy
    · refine Int.le_trans h2 ?_
      split <;> omega
    · rcases h3 with h3 | h3
      · rw [h3]
        split
        · exact .inr (by simp)
        · exact .inl rfl
      · exact .inr (List.mem_cons_of_mem _ h3)
theorem minOf_mem {ns : List Int} (h : ns ≠ []) : minOf ns ∈ ns ∧ ∀ y ∈ ns, minOf ns ≤ y := by
  cases ns with
  | nil => exact absurd rfl h
  | cons n ns =>
    obtain ⟨h1, h2, h3⟩ := min_fold ns n
    refine ⟨?_, fun y hy => ?_⟩
    · show ns.foldl _ n ∈ _
      rcases h3 with h3 | h3
      · rw [h3]; simp
      · exact List.mem_cons_of_mem _ h3
    · rcases List.mem_cons.mp hy with rfl | hy
      · exact h2
      · exact h1 y hy
def fMinL (ds : List D) : Option D := (toIs ds).bind fun ns => if ns = [] then none else some (.int (minOf ns))
theorem d_minL : Op1 g (C1 (rMin g.K)) rL rD fMinL := op1_of fun x d v H0 Hb H Q e s q k => by
  obtain ⟨ns, e1, e⟩ := Option.bind_eq_some_iff.mp e
  split at e
  · cases e
  · rename_i hne
    cases e
    obtain ⟨a, vs, rfl, h1, h2⟩ := q
    cases toIs_some e1
    cases Reps.ints h2
    refine ⟨a, ns, rfl, SqL.of h1, List.length_pos_iff.mpr hne, fun m hm hl => k _ (rep_int.mpr ?_)⟩
    obtain ⟨z1, z2⟩ := minOf_mem hne
    have : m = minOf ns := Int.le_antisymm (hl _ z1) (z2 _ hm)
    rw [this]
/-- len(set(xs)), no number twice -/
def fLenSet (ds : List D) : Option D := (toIs ds).bind fun ns => if decide (ns.Nodup ∧ ns.length ≤ 4000) = true then some (.int ns.length) else none
def rLenSet (K : PySem.W.Frag) : V → Hp → VK → Prop := fun x H Q => ∃ (l : Addr) (ns : List Int), x = .ref l ∧ SqL K H l (ns.map V.int) ∧ ns.Nodup ∧ ns.length ≤ 4000 ∧ Q (.int (ns.length : Nat)) H
theorem to_lenSet {K : PySem.W.Frag} {te : TE} (h : PE X c (RZ.tLenSetI K te)) : PE X c (tUn (rLenSet K) te) := PE_mono h fun σ H Q q => q
theorem d_lenSet : Op1 g (rLenSet g.K) rL rD fLenSet := op1_of fun x d v H0 Hb H Q e s q k => by
  obtain ⟨ns, e1, e⟩ := Option.bind_eq_some_iff.mp e
  split at e
  · rename_i hn
    cases e
    have hn := of_decide_eq_true hn
    obtain ⟨a, vs, rfl, h1, h2⟩ := q
    cases toIs_some e1
    cases Reps.ints h2
    exact ⟨a, ns, rfl, SqL.of h1, hn.1, hn.2, k _ (rep_int.mpr rfl)⟩
  · cases e
/-- a copy of a dict -/
theorem call_dictD : CallR X (.type "dict") (fun xs H Q => ∃ a kvs, xs = [V.ref a] ∧ H a = some (.dK kvs) ∧ ∀ p, H p = none → Q (.ref p) (upd H p (.dK kvs))) := by
  intro pins s σ H xs us Q I r h
  obtain ⟨a, kvs, rfl, ha, q⟩ := h
  cases Vals.ref1 r
  exact d_copyOf I (.inl ha) fun p s' hp I' => ⟨.ref p, _, I', rfl, q p hp⟩
def rDictOf : List V → Hp → VK → Prop := fun xs H Q => ∃ a kvs, xs = [V.ref a] ∧ H a = some (.dK kvs) ∧ ∀ p, H p = none → Q (.ref p) (upd H p (.dK kvs))
def fDict (ks : List Int) : Option Sl := some (.odic .loc ks)
theorem d_dict : Op1 g (C1 rDictOf) rM rO fDict := fun x d v H0 Hb H Q e s q k => by
  cases e
  obtain ⟨a, rfl, h1⟩ := q
  exact ⟨a, _, rfl, h1, fun p hp => k _ Hb _ (Grow.own s hp) ⟨p, rfl, hp, s.free hp, upd_same⟩⟩
/-- {} -/
def oDic0 : VS := fun _ => some (.odic .loc [])
theorem eo_dic0 (h : PE X c tDNewK) : PE X c (eO g oDic0) := PE_mono h fun σ H Q ⟨Γ, Hb, ow, d, ef, S, k⟩ => by
  cases ef
  exact fun p hp => k _ Hb _ (Grow.own S.same hp) ⟨p, rfl, hp, S.same.free hp, upd_same⟩

/-! ### slices -/
def oN (g : Glo) (f : En → Option (Option Int)) : TO := fun σ H Q => ∃ Γ Hb ow x, f Γ = some x ∧ Sat g Γ σ Hb H ow ∧ ∀ Hb' H', Grow Hb H Hb' H' → Q x H'
theorem PO_mono {oe : Option Expr} {t t' : TO} (h : PO X oe t) (m : ∀ σ H Q, t' σ H Q → t σ H Q) : PO X oe t' := ⟨fun pins s σ H Q I hw => h.run pins s σ H Q I (m σ H Q hw)⟩
def pN : En → Option (Option Int) := fun _ => some none
def pI (f : VF) : En → Option (Option Int) := fun Γ => (f Γ).bind fun d => (toI d).map some
theorem po_n {oe : Option Expr} (h : PO X oe tNoPart) : PO X oe (oN g pN) := PO_mono h fun σ H Q ⟨Γ, Hb, ow, x, ef, S, k⟩ => by
  cases ef
  exact k Hb H (Grow.refl S.same)
theorem toI_some {d : D} {i : Int} (h : toI d = some i) : d = .int i := by
  unfold toI at h
  split at h
  · cases h; rfl
  · cases h
theorem po_i {oe : Option Expr} {f : VF} (h : PO X oe (tPart (eV g f))) : PO X oe (oN g (pI f)) := PO_mono h fun σ H Q ⟨Γ, Hb, ow, x, ef, S, k⟩ => by
  obtain ⟨d, e1, e2⟩ := Option.bind_eq_some_iff.mp ef
  obtain ⟨i, e3, rfl⟩ := Option.map_eq_some_iff.mp e2
  cases toI_some e3
  exact ⟨Γ, Hb, ow, _, e1, S, fun v Hb1 H1 g1 q1 => ⟨i, rep_int.mp q1, k Hb1 H1 g1⟩⟩
def cutD {α : Type} (xs : List α) (lo hi : Option Int) : List α := (xs.drop (HT.sIx xs.length 0 lo)).take (HT.sIx xs.length xs.length hi - HT.sIx xs.length 0 lo)
theorem cutD_reps {K : PySem.W.Frag} {H : Hp} {vs : List V} {ds : List D} (h : Reps K H vs ds) (lo hi : Option Int) : Reps K H (cutV vs lo hi) (cutD ds lo hi) := by
  unfold cutV cutD
  rw [h.len]
  exact (h.drop _).take _
def vCut {α : Type} (F : α → Option Int → Option Int → Option Sl) (f : En → Option α) (a b : En → Option (Option Int)) : VS := fun Γ => (f Γ).bind fun x => (a Γ).bind fun i => (b Γ).bind fun j => F x i j
def cutL (ds : List D) (lo hi : Option Int) : Option Sl := some (.own .loc (cutD ds lo hi))
theorem eo_cut {f : VL} {a b : En → Option (Option Int)} (h : PE X c (tSl (rSlL g.K) (eL g f) (oN g a) (oN g b))) : PE X c (eO g (vCut cutL f a b)) := PE_mono h fun σ H Q ⟨Γ, Hb, ow, x, ef, S, k⟩ => by
  obtain ⟨ds, e1, ef⟩ := Option.bind_eq_some_iff.mp ef
  obtain ⟨i, e2, ef⟩ := Option.bind_eq_some_iff.mp ef
  obtain ⟨j, e3, ef⟩ := Option.bind_eq_some_iff.mp ef
  cases ef
  refine ⟨Γ, Hb, ow, ds, e1, S, fun v Hb1 H1 g1 q1 => ⟨Γ, Hb1, ow, i, e2, S.grow g1, fun Hb2 H2 g2 => ⟨Γ, Hb2, ow, j, e3, (S.grow g1).grow g2, fun Hb3 H3 g3 => ?_⟩⟩⟩
  obtain ⟨l, vs, rfl, h1, h2⟩ := Mono.mono (r := rL) (g2.trans g3) q1
  refine ⟨l, vs, rfl, SqL.of h1, fun p hp => ?_⟩
  exact k _ Hb3 _ (((g1.trans g2).trans g3).trans (Grow.own g3.same hp)) ⟨p, _, rfl, ((g1.h.trans g2.h).trans g3.h).free hp, g3.same.free hp, upd_same, cutD_reps h2 _ _⟩
/-- a slice of the script -/
def cutS' (d : D) (lo hi : Option Int) : Option Sl := match d with
  | .scr ns => some (.own .loc ((cutD ns lo hi).map .int))
  | _ => none
theorem cut_map {α β : Type} (F : α → β) (xs : List α) (lo hi : Option Int) : cutD (xs.map F) lo hi = (cutD xs lo hi).map F := by
  unfold cutD
  rw [List.length_map, List.map_take, List.map_drop]
theorem eo_cutS {f : VF} {a b : En → Option (Option Int)} (h : PE X c (tSl (rSlL g.K) (eV g f) (oN g a) (oN g b))) : PE X c (eO g (vCut cutS' f a b)) := PE_mono h fun σ H Q ⟨Γ, Hb, ow, x, ef, S, k⟩ => by
  obtain ⟨ds, e1, ef⟩ := Option.bind_eq_some_iff.mp ef
  obtain ⟨i, e2, ef⟩ := Option.bind_eq_some_iff.mp ef
  obtain ⟨j, e3, ef⟩ := Option.bind_eq_some_iff.mp ef
  refine ⟨Γ, Hb, ow, ds, e1, S, fun v Hb1 H1 g1 q1 => ⟨Γ, Hb1, ow, i, e2, S.grow g1, fun Hb2 H2 g2 => ⟨Γ, Hb2, ow, j, e3, (S.grow g1).grow g2, fun Hb3 H3 g3 => ?_⟩⟩⟩
  cases ds with
  | scr ns =>
    cases ef
    obtain ⟨l, rfl, h1⟩ := rep_scr.mp q1
    refine ⟨l, _, rfl, ((g1.same.trans g2.h).trans g3.h).seq h1, fun p hp => ?_⟩
    refine k _ Hb3 _ (((g1.trans g2).trans g3).trans (Grow.own g3.same hp)) ⟨p, _, rfl, ((g1.h.trans g2.h).trans g3.h).free hp, g3.same.free hp, upd_same, ?_⟩
    show Reps g.K Hb3 (cutV (ns.map V.int) i j) _
    rw [show cutV (ns.map V.int) i j = cutD (ns.map V.int) i j from rfl, cut_map]
    exact Reps.of_ints _
  | _ => cases ef
end
end Z

set_option maxRecDepth 100000
namespace Z
open PySem PySem.Spec PyProof.Rows L2
section
variable {X : Cx} {g : Glo} {c e : Expr} {es : List Expr}

/-! ### arguments: data, or a slot that is handed on -/
inductive Ar where
  | v (d : D)
  | s (i : Nat)
abbrev VA := En → Option (List Ar)
def ArOk (K : PySem.W.Frag) (Hb : Hp) (σ : SS) (v : V) : Ar → Prop
  | .v d => Rep K Hb v d
  | .s i => σ[i]? = some (some v)
def ArsOk (K : PySem.W.Frag) (Hb : Hp) (σ : SS) (vs : List V) : List Ar → Prop
  | [] => vs = []
  | a :: as => ∃ v r, vs = v :: r ∧ ArOk K Hb σ v a ∧ ArsOk K Hb σ r as
def eAr (g : Glo) (f : VA) : TA := fun σ H Q => ∃ Γ Hb ow as, f Γ = some as ∧ Sat g Γ σ Hb H ow ∧ ∀ vs Hb' H', Grow Hb H Hb' H' → ArsOk g.K Hb' σ vs as → Q vs H'
def rNil : VA := fun _ => some []
def rV (f : VF) (fs : VA) : VA := fun Γ => (f Γ).bind fun x => (fs Γ).bind fun xs => some (.v x :: xs)
def rS (i : Nat) (fs : VA) : VA := fun Γ => (fs Γ).bind fun xs => match Γ[i]? with | some (some _) => some (.s i :: xs) | _ => none
theorem ear_nil (h : PA X es tNil) : PA X es (eAr g rNil) := PA_mono h fun σ H Q ⟨Γ, Hb, ow, d, ef, S, k⟩ => by
  cases ef
  exact k [] Hb H (Grow.refl S.same) rfl
theorem ear_v {f : VF} {fs : VA} (h : PA X es (tCons (eV g f) (eAr g fs))) : PA X es (eAr g (rV f fs)) := PA_mono h fun σ H Q ⟨Γ, Hb, ow, d, ef, S, k⟩ => by
  obtain ⟨x, e1, ef⟩ := Option.bind_eq_some_iff.mp ef
  obtain ⟨xs, e2, ef⟩ := Option.bind_eq_some_iff.mp ef
  cases ef
  exact ⟨Γ, Hb, ow, x, e1, S, fun v Hb1 H1 g1 q1 => ⟨Γ, Hb1, ow, xs, e2, S.grow g1, fun vs Hb2 H2 g2 q2 => k _ Hb2 H2 (g1.trans g2) ⟨v, vs, rfl, Rep.same g2.hb q1, q2⟩⟩⟩
theorem ear_s {i : Nat} {fs : VA} (h : PA X es (tCons (tVar i) (eAr g fs))) : PA X es (eAr g (rS i fs)) := PA_mono h fun σ H Q ⟨Γ, Hb, ow, d, ef, S, k⟩ => by
  obtain ⟨xs, e2, ef⟩ := Option.bind_eq_some_iff.mp ef
  split at ef
  · rename_i s e1
    cases ef
    obtain ⟨v, q1, q2⟩ := S.slots _ _ e1
    exact ⟨v, q1, Γ, Hb, ow, xs, e2, S, fun vs Hb2 H2 g2 q2 => k _ Hb2 H2 g2 ⟨v, vs, rfl, q1, q2⟩⟩
  · cases ef
def roS : Sl → Sl
  | .val d => .val d
  | .own _ ds => .own .ro ds
  | .odic _ ks => .odic .ro ks
  | .net _ size ps => .net .ro size ps
def arSl (Γ : En) : Ar → Option Sl
  | .v d => some (.val d)
  | .s i => match Γ[i]? with
    | some (some s) => some (roS s)
    | _ => none
theorem arSl_s {Γ : En} {i : Nat} {s : Sl} (h : arSl Γ (.s i) = some s) : ∃ s0, Γ[i]? = some (some s0) ∧ s = roS s0 := by
  simp only [arSl] at h
  split at h
  · exact ⟨_, by assumption, (Option.some.inj h).symm⟩
  · cases h
def arSls (Γ : En) : List Ar → Option (List Sl)
  | [] => some []
  | a :: as => (arSl Γ a).bind fun s => (arSls Γ as).bind fun ss => some (s :: ss)
/-- where the slot i is handed on -/
def ixA : List Ar → Nat → Option Nat
  | [], _ => none
  | .v _ :: as, i => (ixA as i).map (· + 1)
  | .s j :: as, i => if j = i then some 0 else (ixA as i).map (· + 1)
/-- no slot twice -/
def ndA : List Ar → Bool
  | [] => true
  | .v _ :: as => ndA as
  | .s j :: as => (ixA as j).isNone && ndA as
theorem ixA_at : ∀ {as : List Ar} {k i : Nat}, ndA as = true → as[k]? = some (.s i) → ixA as i = some k
  | [], _, _, _, e => by simp at e
  | .v d :: as, 0, i, h, e => by simp at e
  | .v d :: as, k + 1, i, h, e => by
    have := ixA_at (as := as) (k := k) h (by simpa using e)
    simp [ixA, this]
  | .s j :: as, 0, i, h, e => by
    simp at e
    subst e
    simp [ixA]
  | .s j :: as, k + 1, i, h, e => by
    simp only [ndA, Bool.and_eq_true] at h
    have q := ixA_at (as := as) (k := k) h.2 (by simpa using e)
    have ne : ¬ j = i := fun z => by subst z; rw [q] at h; simp at h
    simp [ixA, ne, q]
theorem arsOk_len {K : PySem.W.Frag} {Hb : Hp} {σ : SS} : ∀ {as : List Ar} {vs : List V}, ArsOk K Hb σ vs as → vs.length = as.length
  | [], _, h => by rw [show _ = _ from h]; rfl
  | a :: as, _, h => by
    obtain ⟨v, r, rfl, _, t⟩ := h
    simp [arsOk_len t]
theorem arsOk_get {K : PySem.W.Frag} {Hb : Hp} {σ : SS} : ∀ {as : List Ar} {vs : List V} {k : Nat} {a : Ar}, ArsOk K Hb σ vs as → as[k]? = some a → ∃ v, vs[k]? = some v ∧ ArOk K Hb σ v a
  | [], _, _, _, _, e => by simp at e
  | b :: as, _, 0, _, h, e => by
    obtain ⟨v, r, rfl, h1, _⟩ := h
    simp at e
    subst e
    exact ⟨v, by simp, h1⟩
  | b :: as, _, k + 1, _, h, e => by
    obtain ⟨v, r, rfl, _, t⟩ := h
    obtain ⟨u, q1, q2⟩ := arsOk_get (k := k) t (by simpa using e)
    exact ⟨u, by simpa using q1, q2⟩
theorem arSls_get {Γ : En} : ∀ {as : List Ar} {ss : List Sl} {k : Nat} {s : Sl}, arSls Γ as = some ss → ss[k]? = some s → ∃ a, as[k]? = some a ∧ arSl Γ a = some s
  | [], _, _, _, h, e => by cases h; simp at e
  | b :: as, _, 0, _, h, e => by
    obtain ⟨s0, e1, h⟩ := Option.bind_eq_some_iff.mp h
    obtain ⟨ss0, e2, h⟩ := Option.bind_eq_some_iff.mp h
    cases h
    simp at e
    subst e
    exact ⟨b, by simp, e1⟩
  | b :: as, _, k + 1, _, h, e => by
    obtain ⟨s0, e1, h⟩ := Option.bind_eq_some_iff.mp h
    obtain ⟨ss0, e2, h⟩ := Option.bind_eq_some_iff.mp h
    cases h
    obtain ⟨a, q1, q2⟩ := arSls_get (k := k) e2 (by simpa using e)
    exact ⟨a, by simpa using q1, q2⟩
theorem arSls_len {Γ : En} : ∀ {as : List Ar} {ss : List Sl}, arSls Γ as = some ss → ss.length = as.length
  | [], _, h => by cases h; rfl
  | b :: as, _, h => by
    obtain ⟨s0, e1, h⟩ := Option.bind_eq_some_iff.mp h
    obtain ⟨ss0, e2, h⟩ := Option.bind_eq_some_iff.mp h
    cases h
    simp [arSls_len e2]
theorem roS_ro (s : Sl) : roS (roS s) = roS s := by cases s <;> rfl
theorem arSls_ro {Γ : En} {as : List Ar} {ss : List Sl} (h : arSls Γ as = some ss) : ∀ s ∈ ss, roS s = s := fun s hs => by
  obtain ⟨k, hk⟩ := List.getElem?_of_mem hs
  obtain ⟨a, _, q⟩ := arSls_get h hk
  cases a with
  | v d => cases q; rfl
  | s i =>
    obtain ⟨s0, _, rfl⟩ := arSl_s q
    exact roS_ro s0
/-- who owns, as the callee sees it -/
def owA (ow : Addr → Option Nat) (as : List Ar) : Addr → Option Nat := fun a => match ow a with
  | some i => ixA as i
  | none => none
theorem owA_of {ow : Addr → Option Nat} {as : List Ar} {a : Addr} {i : Nat} (h : ow a = some i) : owA ow as a = ixA as i := by unfold owA; rw [h]
theorem Sat.args {Γ : En} {σ : SS} {Hb H : Hp} {ow : Addr → Option Nat} {as : List Ar} {ss : List Sl} {vs : List V} (S : Sat g Γ σ Hb H ow) (h1 : arSls Γ as = some ss) (h2 : ArsOk g.K Hb σ vs as) (nd : ndA as = true) :
    Sat g (ss.map some) (vs.map some) Hb H (owA ow as) := by
  refine ⟨S.same, fun a k e => ?_, fun k s e => ?_, by rw [List.length_map, List.length_map, arSls_len h1, arsOk_len h2]⟩
  · unfold owA at e
    split at e
    · rename_i i ei
      exact S.ows a i ei
    · cases e
  · rw [List.getElem?_map] at e
    obtain ⟨s', e1, e2⟩ := Option.map_eq_some_iff.mp e
    cases e2
    obtain ⟨a, q1, q2⟩ := arSls_get h1 e1
    obtain ⟨v, q3, q4⟩ := arsOk_get h2 q1
    refine ⟨v, by rw [List.getElem?_map, q3]; rfl, ?_⟩
    cases a with
    | v d => cases q2; exact q4
    | s i =>
      have ix := ixA_at nd q1
      obtain ⟨s0, e0, rfl⟩ := arSl_s q2
      · obtain ⟨v', z1, z2⟩ := S.slots i s0 e0
        have z3 : σ[i]? = some (some v) := q4
        rw [z1] at z3
        cases z3
        cases s0 with
        | val d => exact z2
        | own m ds =>
          obtain ⟨a, us, rfl, o1, o2⟩ := z2
          exact ⟨a, us, rfl, by rw [owA_of o1]; exact ix, o2⟩
        | odic m ds =>
          obtain ⟨a, rfl, o1, o2⟩ := z2
          exact ⟨a, rfl, by rw [owA_of o1]; exact ix, o2⟩
        | net m size ps =>
          obtain ⟨a, dx, l, us, rfl, o1, o2, o3⟩ := z2
          exact ⟨a, dx, l, us, rfl, by rw [owA_of o1]; exact ix, by rw [owA_of o2]; exact ix, o3⟩

/-! ### what a def promises that changes nothing -/
abbrev Rs := Sl ⊕ Ex
abbrev FN := List Sl → Option Rs
def RsK (g : Glo) (Hb H : Hp) (Q : VK) (E : XK) : Rs → Prop
  | .inl s => ∀ v Hb' H', Grow Hb H Hb' H' → rO g H Hb' H' v s → Q v H'
  | .inr x => ∀ Hb' H', Grow Hb H Hb' H' → E (.ref (g.cls x)) none H'
def spP (g : Glo) (n : Nat) (F : FN) : Sp := fun vs H Q E => vs.length = n ∧ ∃ ss r Hb ow, F ss = some r ∧ ss.length = n ∧ (∀ s ∈ ss, roS s = s) ∧ Sat g (ss.map some) (vs.map some) Hb H ow ∧
  RsK g Hb H Q E r
def eX (g : Glo) (W : WX) (f : En → Option Rs) : TE := fun σ H Q => ∃ Γ Hb ow r, f Γ = some r ∧ Sat g Γ σ Hb H ow ∧
  RsK g Hb H Q (WE W σ) r
def xCall (n : Nat) (F : FN) (fs : VA) : En → Option Rs := fun Γ => (fs Γ).bind fun as => if ndA as = true ∧ as.length = n then (arSls Γ as).bind F else none
theorem sp_call {n : Nat} {F : FN} {fs : VA} {W : WX} {σ : SS} {H : Hp} {Q : VK} {Γ : En} {Hb : Hp} {ow : Addr → Option Nat} {r : Rs} {as : List Ar} {vs : List V} {Hb1 H1 : Hp} (e1 : fs Γ = some as) (ef : xCall n F fs Γ = some r) (S : Sat g Γ σ Hb H ow)
    (k : RsK g Hb H Q (WE W σ) r)
    (g1 : Grow Hb H Hb1 H1) (q1 : ArsOk g.K Hb1 σ vs as) : spP g n F vs H1 Q (WE W σ) := by
  unfold xCall at ef
  rw [e1, Option.bind_some] at ef
  split at ef
  · rename_i hn
    obtain ⟨ss, e2, e3⟩ := Option.bind_eq_some_iff.mp ef
    refine ⟨by rw [arsOk_len q1]; exact hn.2, ss, r, Hb1, owA ow as, e3, by rw [arSls_len e2]; exact hn.2, arSls_ro e2, (S.grow g1).args e2 q1 hn.1, ?_⟩
    cases r with
    | inl s => exact fun v Hb2 H2 g2 q2 => k v Hb2 H2 (g1.trans g2) (Mono.back (frees g1.h) q2)
    | inr x => exact fun Hb2 H2 g2 => k Hb2 H2 (g1.trans g2)
  · cases ef
theorem xCall_args {n : Nat} {F : FN} {fs : VA} {Γ : En} {r : Rs} (ef : xCall n F fs Γ = some r) : ∃ as, fs Γ = some as := by
  unfold xCall at ef
  obtain ⟨as, e1, _⟩ := Option.bind_eq_some_iff.mp ef
  exact ⟨as, e1⟩
theorem ex_call {n : Nat} {F : FN} {fs : VA} {W : WX} (h : PE X c (tCallS (spP g n F) (WE W) (eAr g fs))) : PE X c (eX g W (xCall n F fs)) := PE_mono h fun σ H Q ⟨Γ, Hb, ow, r, ef, S, k⟩ => by
  obtain ⟨as, e1⟩ := xCall_args ef
  exact ⟨Γ, Hb, ow, as, e1, S, fun vs Hb1 H1 g1 q1 => sp_call e1 ef S k g1 q1⟩
def noW : WX := fun _ _ _ _ => False
def inlO : Rs → Option Sl
  | .inl s => some s
  | .inr _ => none
theorem eo_ofX {W : WX} {f : En → Option Rs} (h : PE X c (eX g W f)) : PE X c (eO g (v1 inlO f)) := PE_mono h fun σ H Q ⟨Γ, Hb, ow, s, ef, S, k⟩ => by
  obtain ⟨r, e1, ef⟩ := Option.bind_eq_some_iff.mp ef
  cases r with
  | inl s' => cases ef; exact ⟨Γ, Hb, ow, _, e1, S, k⟩
  | inr x => cases ef
theorem noPass0 {σ : SS} : PassesAt CX0 X σ (WE noW σ) := fun _ _ _ _ _ _ h => h.elim
theorem noPassX {σ : SS} : PassesAt (L2.CX X.prog X.w) X σ (WE noW σ) := fun _ _ _ _ _ _ h => by
  obtain ⟨_, _, _, _, _, _, _, _, _, _, _, _, z⟩ := h
  exact z.elim

/-! ### methods, by σ -/
section
variable {CX : CXT} {k : Nat} {f C : Addr} {fd : FuncData} {ps : List Str} {sp : Sp} {E : L2.St → XK} {x m : Str} {p pos apos : Pos} {o : Expr} {ta : TE} {t : TA}
def tMethE (C : Addr) (m : Str) (sp : Sp) (E : L2.St → XK) (ta : TE) (t : TA) : TE := fun σ H Q => ta σ H fun x H1 => ∃ a dx fs, x = .ref a ∧ H1 a = some (.ins C dx fs) ∧ fs.lookup m = none ∧ t σ H1 fun vs H2 => sp (x :: vs) H2 Q (E σ)
theorem pe_methE {pl : Sem Bool} (he : PE X o ta) (cl : Cls X.K C) (hm : Meth X.K C m f) (F : FnOk X.prog X.w X.K X.mg X.base CX k f fd ps sp) (hr : Room k X.A) (hb : Binds X.K fd ps []) (hx : ∀ σ, PassesAt CX X σ (E σ)) (ha : PA X (e :: es) t)
    (hst : starEach (e :: es) X.env = (false, eval e X.env) :: starEach es X.env := by rfl) (hpl : (backTo pos (starEach es X.env)).any (·.1) = false := by rfl)
    (ht : eval (.Call (.Attribute o m apos) (e :: es) [] pos) X.env = (do let ov ← eval o X.env; standAt apos.atName; let (f, first) ← holding [ov] (getMethod ov m pl); callWith pos f first (backTo pos (starEach (e :: es) X.env)) (backToKw pos (keywordEach [] X.env))) := by rfl) :
    PE X (.Call (.Attribute o m apos) (e :: es) [] pos) (tMethE C m sp E ta t) :=
  ⟨fun pins s σ H Q I h => PySem.W.methodCall_KW (pl := pl) (thn (he.run pins s σ H _ I h) fun u s1 ⟨y, H1, I1, rx, a, dx, fs, ex, ea, l, q⟩ => by
    subst ex
    cases (show u = Value.ref a from rx)
    exact getmeth_ok I1 ea cl hm l (PySem.W.callWith_K (first := [.ref a]) (h₀ := X.base) I.ok.mod.kin hm.kp
      (thn (ha.run pos pins s1 σ H1 _ I1 q) fun us s2 ⟨vs, H2, I2, r, q2⟩ => ⟨I2.kIn, run_fnS (us := .ref a :: us) (vs := .ref a :: vs) F hr hb (hx σ) I2 (.cons rfl r) q2⟩) hst hpl)) ht⟩
theorem pe_methE0 {pl : Sem Bool} (he : PE X o ta) (cl : Cls X.K C) (hm : Meth X.K C m f) (F : FnOk X.prog X.w X.K X.mg X.base CX k f fd ps sp) (hr : Room k X.A) (hb : Binds X.K fd ps []) (hx : ∀ σ, PassesAt CX X σ (E σ))
    (ht : eval (.Call (.Attribute o m apos) [] [] pos) X.env = (do let ov ← eval o X.env; standAt apos.atName; let (f, first) ← holding [ov] (getMethod ov m pl); callWith pos f first (backTo pos (starEach [] X.env)) (backToKw pos (keywordEach [] X.env))) := by rfl) :
    PE X (.Call (.Attribute o m apos) [] [] pos) (tMethE C m sp E ta tNil) :=
  ⟨fun pins s σ H Q I h => PySem.W.methodCall_KW (pl := pl) (thn (he.run pins s σ H _ I h) fun u s1 ⟨y, H1, I1, rx, a, dx, fs, ex, ea, l, q⟩ => by
    subst ex
    cases (show u = Value.ref a from rx)
    exact getmeth_ok I1 ea cl hm l (PySem.W.callWith_K0 (first := [.ref a]) I1.kIn hm.kp (run_fnS (us := [.ref a]) (vs := [.ref a]) F hr hb (hx σ) I1 (.cons rfl .nil) q))) ht⟩
end
/-- no field of a net has the name -/
def noFld (m : Str) : Prop := ∀ size l, (netF size l).lookup m = none
theorem noFld_of {m : Str} (h1 : (m == ("many" : Str)) = false) (h2 : (m == ("laid" : Str)) = false) : noFld m := fun size l => by
  show (match m == ("many" : Str) with | true => some (V.int size) | false => List.lookup m [(("laid" : Str), V.ref l)]) = none
  rw [h1]
  show (match m == ("laid" : Str) with | true => some (V.ref l) | false => List.lookup m []) = none
  rw [h2]
  rfl
def netAt (i : Nat) (Γ : En) : Bool := match Γ[i]? with
  | some (some (.net _ _ _)) => true
  | _ => false
def xMeth (n : Nat) (F : FN) (i : Nat) (fs : VA) : En → Option Rs := fun Γ => if netAt i Γ = true then xCall n F (rS i fs) Γ else none
theorem netAt_get {i : Nat} {Γ : En} (h : netAt i Γ = true) : ∃ m size ps, Γ[i]? = some (some (.net m size ps)) := by
  unfold netAt at h
  split at h
  · exact ⟨_, _, _, by assumption⟩
  · cases h
theorem ex_meth {n i : Nat} {m : Str} {F : FN} {fs : VA} {W : WX} (nf : noFld m) (h : PE X c (tMethE g.C m (spP g n F) (WE W) (tVar i) (eAr g fs))) : PE X c (eX g W (xMeth n F i fs)) := PE_mono h fun σ H Q ⟨Γ, Hb, ow, r, ef, S, k⟩ => by
  unfold xMeth at ef
  split at ef
  · rename_i hn
    obtain ⟨md, size, ps, e0⟩ := netAt_get hn
    obtain ⟨v, z1, a, dx, l, us, rfl, o1, o2, h1, h2, h3⟩ := S.slots i _ e0
    obtain ⟨as, e1⟩ := xCall_args ef
    have e1' := e1
    obtain ⟨as0, e2, e1'⟩ := Option.bind_eq_some_iff.mp e1'
    rw [e0] at e1'
    cases e1'
    refine ⟨_, z1, a, dx, _, rfl, h1, nf _ _, Γ, Hb, ow, as0, e2, S, fun vs Hb1 H1 g1 q1 => sp_call e1 ef S k g1 ⟨_, vs, rfl, z1, q1⟩⟩
  · cases ef
theorem ex_meth0 {n i : Nat} {m : Str} {F : FN} {W : WX} (nf : noFld m) (h : PE X c (tMethE g.C m (spP g n F) (WE W) (tVar i) tNil)) : PE X c (eX g W (xMeth n F i rNil)) := PE_mono h fun σ H Q ⟨Γ, Hb, ow, r, ef, S, k⟩ => by
  unfold xMeth at ef
  split at ef
  · rename_i hn
    obtain ⟨md, size, ps, e0⟩ := netAt_get hn
    obtain ⟨v, z1, a, dx, l, us, rfl, o1, o2, h1, h2, h3⟩ := S.slots i _ e0
    obtain ⟨as, e1⟩ := xCall_args ef
    have e1' := e1
    obtain ⟨as0, e2, e1'⟩ := Option.bind_eq_some_iff.mp e1'
    rw [e0] at e1'
    cases e1'
    cases e2
    exact ⟨_, z1, a, dx, _, rfl, h1, nf _ _, sp_call e1 ef S k (Grow.refl S.same) ⟨_, [], rfl, z1, rfl⟩⟩
  · cases ef

/-! ### what is walked -/
/-- what the walked thing leans on stands -/
def WkOk (g : Glo) (J : It) (ds : List D) (St : Hp → Hp → Prop) : Prop := ∀ i Hb H, Same Hb H → St Hb H → (∀ d, ds[i]? = some d → J.go i H ∧ ∀ x H', J.yld i H x H' → ∃ Hb', Grow Hb H Hb' H' ∧ Rep g.K Hb' x d) ∧ (ds[i]? = none → J.stop i H)
abbrev KpR := Hp → Hp → Hp → Hp → Prop
def KpS : KpR := fun Hb _ Hb' H' => Same Hb Hb' ∧ Same Hb' H'
def KpG : KpR := fun Hb H Hb' H' => Grow Hb H Hb' H'
def eI (g : Glo) (Kp : KpR) (f : VL) : TI := fun σ H R => ∃ Γ Hb ow ds, f Γ = some ds ∧ Sat g Γ σ Hb H ow ∧ ∀ J Hb' H' (St : Hp → Hp → Prop), Grow Hb H Hb' H' → WkOk g J ds St → St Hb' H' → (∀ Hb1 H1 Hb2 H2, St Hb1 H1 → Kp Hb1 H1 Hb2 H2 → St Hb2 H2) → R J H'
variable {tg it : Expr}
theorem PI_mono {w w' : TI} (h : PI X tg it w) (m : ∀ σ H Q, w' σ H Q → w σ H Q) : PI X tg it w' := ⟨fun pins s σ H R I hw => h.run pins s σ H R I (m σ H R hw)⟩
theorem ei_SG {f : VL} (h : PI X tg it (eI g KpS f)) : PI X tg it (eI g KpG f) := PI_mono h fun σ H Q ⟨Γ, Hb, ow, ds, ef, S, k⟩ =>
  ⟨Γ, Hb, ow, ds, ef, S, fun J Hb' H' St g1 wk st kp => k J Hb' H' St g1 wk st fun Hb1 H1 Hb2 H2 s1 q => kp Hb1 H1 Hb2 H2 s1 ⟨q.hb, q.same⟩⟩
theorem list_wk {a : Addr} {vs : List V} {ds : List D} {St : Hp → Hp → Prop} (hH : ∀ Hb H, Same Hb H → St Hb H → H a = some (.lst vs) ∧ Reps g.K Hb vs ds) : WkOk g (Itl g.K a) ds St := by
  intro i Hb H sm st
  obtain ⟨h1, h2⟩ := hH Hb H sm st
  refine ⟨fun d ed => ?_, fun ed => ?_⟩
  · obtain ⟨v, q1, q2⟩ := h2.get ed
    refine ⟨⟨vs, v, SqL.of h1, q1⟩, fun x H' y => ?_⟩
    obtain ⟨rfl, y⟩ := y
    have := y vs (SqL.of h1)
    rw [q1] at this
    cases this
    exact ⟨Hb, Grow.refl sm, q2⟩
  · refine ⟨vs, SqL.of h1, ?_⟩
    rw [h2.len]
    exact List.getElem?_eq_none_iff.mp ed
theorem ei_list {f : VF} (h : PI X tg it (iList g.K (eV g f))) : PI X tg it (eI g KpS (v1 dL f)) := PI_mono h fun σ H Q ⟨Γ, Hb, ow, ds, ef, S, k⟩ => by
  obtain ⟨d, e1, e2⟩ := Option.bind_eq_some_iff.mp ef
  unfold dL at e2
  split at e2
  · cases e2
    refine ⟨Γ, Hb, ow, _, e1, S, fun v Hb1 H1 g1 q1 => ?_⟩
    obtain ⟨a, vs, rfl, h1, h2⟩ := rep_lst.mp q1
    refine ⟨a, rfl, ⟨vs, SqL.of (g1.same _ _ h1)⟩, ?_⟩
    exact k _ Hb1 H1 (fun Hb _ => Hb a = some (.lst vs) ∧ Reps g.K Hb vs ds) g1 (list_wk fun Hb H sm st => ⟨sm _ _ st.1, st.2⟩) ⟨h1, h2⟩ fun Hb1 H1 Hb2 H2 st kp => ⟨kp.1 _ _ st.1, st.2.same kp.1⟩
  · cases e2
theorem ei_listL {f : VL} (h : PI X tg it (iList g.K (eL g f))) : PI X tg it (eI g KpG f) := PI_mono h fun σ H Q ⟨Γ, Hb, ow, ds, ef, S, k⟩ => by
  refine ⟨Γ, Hb, ow, _, ef, S, fun v Hb1 H1 g1 q1 => ?_⟩
  obtain ⟨a, vs, rfl, h1, h2⟩ := q1
  refine ⟨a, rfl, ⟨vs, SqL.of h1⟩, ?_⟩
  exact k _ Hb1 H1 (fun Hb H => H a = some (.lst vs) ∧ Reps g.K Hb vs ds) g1 (list_wk fun Hb H sm st => st) ⟨h1, h2⟩ fun Hb1 H1 Hb2 H2 st kp => ⟨kp.h _ _ st.1, st.2.same kp.hb⟩
def dRng (lo hi : Int) : List D := (List.range (hi - lo).toNat).map fun (i : Nat) => .int (lo + (i : Int))
theorem rng_wk (lo : Int) (n : Nat) : WkOk g (Itr lo n) ((List.range n).map fun (i : Nat) => .int (lo + (i : Int))) (fun _ _ => True) := by
  intro i Hb H sm _
  refine ⟨fun d ed => ?_, fun ed => ?_⟩
  · rw [List.getElem?_map] at ed
    obtain ⟨j, e1, rfl⟩ := Option.map_eq_some_iff.mp ed
    obtain ⟨h1, h2⟩ := List.getElem?_eq_some_iff.mp e1
    rw [List.getElem_range] at h2
    subst h2
    rw [List.length_range] at h1
    refine ⟨h1, fun x H' y => ?_⟩
    obtain ⟨rfl, rfl⟩ := y
    exact ⟨Hb, Grow.refl sm, rep_int.mpr rfl⟩
  · have := List.getElem?_eq_none_iff.mp ed
    rw [List.length_map, List.length_range] at this
    exact this
def inR (i : Int) : Bool := decide (-(2 ^ 62) ≤ i ∧ i < 2 ^ 62)
def lRng1 (f : VF) : VL := fun Γ => (f Γ).bind fun d => (toI d).bind fun j => if inR j = true then some (dRng 0 j) else none
def lRng2 (f h : VF) : VL := fun Γ => (f Γ).bind fun d => (toI d).bind fun i => (h Γ).bind fun d' => (toI d').bind fun j => if (inR i && inR j) = true then some (dRng i j) else none
theorem ei_rng1 {f : VF} (h : PI X tg it (iRng1 (tCons (eV g f) tNil))) : PI X tg it (eI g KpS (lRng1 f)) := PI_mono h fun σ H Q ⟨Γ, Hb, ow, ds, ef, S, k⟩ => by
  obtain ⟨d, e1, ef⟩ := Option.bind_eq_some_iff.mp ef
  obtain ⟨j, e2, ef⟩ := Option.bind_eq_some_iff.mp ef
  split at ef
  · rename_i hj
    have ef := Option.some.inj ef
    subst ef
    cases toI_some e2
    have hj := of_decide_eq_true hj
    refine ⟨Γ, Hb, ow, _, e1, S, fun v Hb1 H1 g1 q1 => ⟨j, by rw [rep_int.mp q1], hj.1, hj.2, ?_⟩⟩
    have w := rng_wk (g := g) 0 j.toNat
    have e : dRng 0 j = (List.range j.toNat).map fun (i : Nat) => D.int (0 + (i : Int)) := by unfold dRng; rw [Int.sub_zero]
    rw [e] at k
    exact k _ Hb1 H1 _ g1 w trivial fun _ _ _ _ _ _ => trivial
  · cases ef
theorem ei_rng2 {f h' : VF} (h : PI X tg it (iRng2 (tCons (eV g f) (tCons (eV g h') tNil)))) : PI X tg it (eI g KpS (lRng2 f h')) := PI_mono h fun σ H Q ⟨Γ, Hb, ow, ds, ef, S, k⟩ => by
  obtain ⟨d, e1, ef⟩ := Option.bind_eq_some_iff.mp ef
  obtain ⟨i, e2, ef⟩ := Option.bind_eq_some_iff.mp ef
  obtain ⟨d', e3, ef⟩ := Option.bind_eq_some_iff.mp ef
  obtain ⟨j, e4, ef⟩ := Option.bind_eq_some_iff.mp ef
  split at ef
  · rename_i hj
    have ef := Option.some.inj ef
    subst ef
    cases toI_some e2
    cases toI_some e4
    rw [Bool.and_eq_true] at hj
    have hi := of_decide_eq_true hj.1
    have hj := of_decide_eq_true hj.2
    refine ⟨Γ, Hb, ow, _, e1, S, fun v Hb1 H1 g1 q1 => ⟨Γ, Hb1, ow, _, e3, S.grow g1, fun v2 Hb2 H2 g2 q2 => ⟨i, j, by rw [rep_int.mp q1, rep_int.mp q2], ⟨hi.1, hi.2, hj.1, hj.2⟩, ?_⟩⟩⟩
    exact k _ Hb2 H2 _ (g1.trans g2) (rng_wk i _) trivial fun _ _ _ _ _ _ => trivial
  · cases ef
def enumF : Nat → List D → List D
  | _, [] => []
  | i, d :: ds => .tup [.int (i : Int), d] :: enumF (i + 1) ds
theorem enumF_get : ∀ (ds : List D) (k i : Nat), (enumF k ds)[i]? = (ds[i]?).map fun d => .tup [.int ((k + i : Nat) : Int), d]
  | [], _, _ => by simp [enumF]
  | d :: ds, k, 0 => by simp [enumF]
  | d :: ds, k, i + 1 => by
    have := enumF_get ds (k + 1) i
    simp only [enumF, List.getElem?_cons_succ, this]
    rw [show k + 1 + i = k + (i + 1) by omega]
theorem enum_wk {a : Addr} {vs : List V} {ds : List D} : WkOk g (Ite g.K a) (enumF 0 ds) (fun Hb _ => Hb a = some (.lst vs) ∧ Reps g.K Hb vs ds) := by
  intro i Hb H sm st
  obtain ⟨h1, h2⟩ := st
  have h1' := sm _ _ h1
  refine ⟨fun d ed => ?_, fun ed => ?_⟩
  · rw [enumF_get] at ed
    obtain ⟨d', e1, rfl⟩ := Option.map_eq_some_iff.mp ed
    obtain ⟨v, q1, q2⟩ := h2.get e1
    refine ⟨⟨vs, v, SqL.of h1', q1⟩, fun x H' y => ?_⟩
    obtain ⟨T, z, rfl, hT, rfl, hz⟩ := y
    have := hz vs (SqL.of h1')
    rw [q1] at this
    cases this
    have gp := Grow.put (o := .tup [.int (i : Nat), v]) sm hT
    refine ⟨_, gp, rep_tup.mpr ⟨T, _, rfl, upd_same, ?_⟩⟩
    rw [Nat.zero_add]
    exact Reps.cons (rep_int.mpr rfl) (Reps.one (Rep.same gp.hb q2))
  · rw [enumF_get, Option.map_eq_none_iff] at ed
    refine ⟨vs, SqL.of h1', ?_⟩
    rw [h2.len]
    exact List.getElem?_eq_none_iff.mp ed
def lEnum (f : VF) : VL := fun Γ => (f Γ).bind fun d => (dL d).map (enumF 0)
theorem ei_enum {f : VF} (h : PI X tg it (iEnum g.K (tCons (eV g f) tNil))) : PI X tg it (eI g KpS (lEnum f)) := PI_mono h fun σ H Q ⟨Γ, Hb, ow, ds, ef, S, k⟩ => by
  obtain ⟨d, e1, ef⟩ := Option.bind_eq_some_iff.mp ef
  obtain ⟨ds', e2, rfl⟩ := Option.map_eq_some_iff.mp ef
  unfold dL at e2
  split at e2
  · cases e2
    refine ⟨Γ, Hb, ow, _, e1, S, fun v Hb1 H1 g1 q1 => ?_⟩
    obtain ⟨a, vs, rfl, h1, h2⟩ := rep_lst.mp q1
    refine ⟨a, vs, rfl, SqL.of (g1.same _ _ h1), ?_⟩
    exact k _ Hb1 H1 _ g1 (enum_wk (vs := vs)) ⟨h1, h2⟩ fun Hb1 H1 Hb2 H2 st kp => ⟨kp.1 _ _ st.1, st.2.same kp.1⟩
  · cases e2

/-! ### targets -/
def dropOw (ow : Addr → Option Nat) (i : Nat) : Addr → Option Nat := fun a => if ow a = some i then none else ow a
theorem dropOw_ne {ow : Addr → Option Nat} {i j : Nat} {a : Addr} (h : j ≠ i) (e : ow a = some j) : dropOw ow i a = some j := by
  unfold dropOw
  rw [if_neg (by rw [e]; intro z; exact h (Option.some.inj z)), e]
theorem dropOw_some {ow : Addr → Option Nat} {i j : Nat} {a : Addr} (e : dropOw ow i a = some j) : ow a = some j ∧ j ≠ i := by
  unfold dropOw at e
  split at e
  · cases e
  · rename_i h
    exact ⟨e, fun z => h (by rw [e, z])⟩
theorem SlOk.ow {Hb H : Hp} {ow ow' : Addr → Option Nat} {i : Nat} {v : V} {s : Sl} (h : SlOk g Hb H ow i v s) (k : ∀ a, ow a = some i → ow' a = some i) : SlOk g Hb H ow' i v s := by
  cases s with
  | val d => exact h
  | own m ds => obtain ⟨a, vs, e, o, q⟩ := h; exact ⟨a, vs, e, k _ o, q⟩
  | odic m ks => obtain ⟨a, e, o, q⟩ := h; exact ⟨a, e, k _ o, q⟩
  | net m size ps => obtain ⟨a, dx, l, vs, e, o, ol, q⟩ := h; exact ⟨a, dx, l, vs, e, k _ o, k _ ol, q⟩
/-- a slot is filled with frozen data -/
theorem Sat.setVal {Γ : En} {σ : SS} {Hb H : Hp} {ow : Addr → Option Nat} {i : Nat} {v : V} {d : D} (S : Sat g Γ σ Hb H ow) (r : Rep g.K Hb v d) : Sat g (Γ.set i (some (.val d))) (σ.set i (some v)) Hb H (dropOw ow i) := by
  refine ⟨S.same, fun a j e => S.ows a j (dropOw_some e).1, fun j s e => ?_, by rw [List.length_set, List.length_set, S.len]⟩
  by_cases q : i = j
  · subst q
    rw [List.getElem?_set] at e
    simp only [if_true] at e
    split at e
    · rename_i hi
      cases e
      exact ⟨v, by rw [List.getElem?_set_self (by rw [← S.len]; exact hi)], r⟩
    · cases e
  · rw [List.getElem?_set_ne q] at e
    obtain ⟨u, q1, q2⟩ := S.slots j s e
    exact ⟨u, by rw [List.getElem?_set_ne q]; exact q1, q2.ow fun a o => dropOw_ne (fun z => q z.symm) o⟩
abbrev TgF := D → En → Option En
/-- a target, by values; vs: the slots that it may change -/
def TgOk (g : Glo) (t : TG) (gt : TgF) (vs : List Nat) : Prop := ∀ d Γ Γ1 v σ Hb H ow Q, gt d Γ = some Γ1 → Sat g Γ σ Hb H ow → Rep g.K Hb v d →
  (∀ σ1 ow1, Sat g Γ1 σ1 Hb H ow1 → (∀ j, j ∉ vs → σ1[j]? = σ[j]? ∧ Γ1[j]? = Γ[j]?) → (∀ a j, ow1 a = some j → ow a = some j) → (∀ a j, ow a = some j → j ∉ vs → ow1 a = some j) → Q σ1 H) → t v σ H Q
def gN (i : Nat) : TgF := fun d Γ => some (Γ.set i (some (.val d)))
theorem tg_name {i : Nat} : TgOk g (gName i) (gN i) [i] := fun d Γ Γ1 v σ Hb H ow Q e S r k => by
  cases e
  refine k _ _ (S.setVal r) (fun j hj => ?_) (fun a j e => (dropOw_some e).1) fun a j e hj => dropOw_ne (by simpa using hj) e
  have ne : i ≠ j := fun z => hj (by simp [z])
  rw [List.getElem?_set_ne ne, List.getElem?_set_ne ne]
  exact ⟨rfl, rfl⟩
def gsN : List Nat → List D → En → Option En
  | [], [], Γ => some Γ
  | i :: is, d :: ds, Γ => gsN is ds (Γ.set i (some (.val d)))
  | _, _, _ => none
def gT (is : List Nat) : TgF := fun d Γ => match d with
  | .tup ds => gsN is ds Γ
  | _ => none
def TgsOk (g : Glo) (t : TGs) (is : List Nat) : Prop := ∀ ds Γ Γ1 us σ Hb H ow Q, gsN is ds Γ = some Γ1 → Sat g Γ σ Hb H ow → Reps g.K Hb us ds →
  (∀ σ1 ow1, Sat g Γ1 σ1 Hb H ow1 → (∀ j, j ∉ is → σ1[j]? = σ[j]? ∧ Γ1[j]? = Γ[j]?) → (∀ a j, ow1 a = some j → ow a = some j) → (∀ a j, ow a = some j → j ∉ is → ow1 a = some j) → Q σ1 H) → t us σ H Q
theorem tgs_nil : TgsOk g gNil [] := fun ds Γ Γ1 us σ Hb H ow Q e S r k => by
  cases ds with
  | nil => cases e; exact ⟨reps_nil.mp r, k σ ow S (fun j _ => ⟨rfl, rfl⟩) (fun a j e => e) fun a j e _ => e⟩
  | cons d ds => cases e
theorem tgs_cons {i : Nat} {t : TGs} {is : List Nat} (h : TgsOk g t is) : TgsOk g (gCons (gName i) t) (i :: is) := fun ds Γ Γ1 us σ Hb H ow Q e S r k => by
  cases ds with
  | nil => cases e
  | cons d ds =>
    obtain ⟨v, us', rfl, r1, r2⟩ := reps_cons.mp r
    refine ⟨v, us', rfl, h ds _ Γ1 us' _ Hb H _ Q e (S.setVal r1) r2 fun σ1 ow1 S1 q1 q2 q3 => k σ1 ow1 S1 (fun j hj => ?_) (fun a j e => (dropOw_some (q2 a j e)).1) fun a j e hj => ?_⟩
    · have ne : i ≠ j := fun z => hj (by simp [z])
      obtain ⟨z1, z2⟩ := q1 j (fun z => hj (List.mem_cons_of_mem _ z))
      rw [List.getElem?_set_ne ne] at z1 z2
      exact ⟨z1, z2⟩
    · exact q3 a j (dropOw_ne (fun z => hj (by simp [z])) e) (fun z => hj (List.mem_cons_of_mem _ z))
theorem tg_tup {m : Nat} {t : TGs} {is : List Nat} (h : TgsOk g t is) (hm : is.length = m) : TgOk g (gTup g.K m t) (gT is) is := fun d Γ Γ1 v σ Hb H ow Q e S r k => by
  cases d with
  | tup ds =>
    obtain ⟨a, vs, rfl, h1, h2⟩ := rep_tup.mp r
    refine ⟨a, vs, rfl, SqT.of (S.same _ _ h1), ?_, h ds Γ Γ1 vs σ Hb H ow Q e S h2 k⟩
    rw [h2.len, ← hm]
    have : ∀ {is : List Nat} {ds : List D} {Γ Γ1 : En}, gsN is ds Γ = some Γ1 → ds.length = is.length := fun {is} => by
      induction is with
      | nil => intro ds Γ Γ1 e; cases ds with
        | nil => rfl
        | cons d ds => cases e
      | cons i is ih => intro ds Γ Γ1 e; cases ds with
        | nil => cases e
        | cons d ds => simp [ih (show gsN is ds _ = some _ from e)]
    exact this e
  | _ => cases e

/-! ### comprehensions -/
def wipeE (Γ : En) : List Nat → En
  | [] => Γ
  | v :: vs => (wipeE Γ vs).set v none
theorem wipeE_get {Γ : En} {i : Nat} {s : Sl} : ∀ {vs : List Nat}, (wipeE Γ vs)[i]? = some (some s) → Γ[i]? = some (some s) ∧ i ∉ vs
  | [], h => ⟨h, by simp⟩
  | v :: vs, h => by
    unfold wipeE at h
    by_cases hi : v = i
    · subst hi
      rw [List.getElem?_set] at h
      simp only [if_true] at h
      split at h
      · cases h
      · cases h
    · rw [List.getElem?_set_ne hi] at h
      obtain ⟨h1, h2⟩ := wipeE_get h
      exact ⟨h1, by simp only [List.mem_cons, not_or]; exact ⟨fun e => hi e.symm, h2⟩⟩
theorem wipeE_length (Γ : En) : ∀ vs : List Nat, (wipeE Γ vs).length = Γ.length
  | [] => rfl
  | v :: vs => by unfold wipeE; rw [List.length_set, wipeE_length Γ vs]
theorem wipe_get {σ : SS} {i : Nat} : ∀ {vs : List Nat}, i ∉ vs → (wipe σ vs)[i]? = σ[i]?
  | [], _ => rfl
  | v :: vs, h => by
    simp only [List.mem_cons, not_or] at h
    unfold wipe
    rw [List.getElem?_set_ne (fun e => h.1 e.symm), wipe_get h.2]
theorem wipe_at {σ : SS} {i : Nat} : ∀ {vs : List Nat}, i ∈ vs → (wipe σ vs)[i]? = if i < σ.length then some none else none
  | [], h => by cases h
  | v :: vs, h => by
    unfold wipe
    by_cases q : v = i
    · subst q
      rw [List.getElem?_set]
      simp [wipe_length]
    · rw [List.getElem?_set_ne q]
      rcases List.mem_cons.mp h with z | z
      · exact absurd z.symm q
      · exact wipe_at z
theorem wipe_ext {σ σ1 : SS} {vs : List Nat} (hl : σ1.length = σ.length) (h : ∀ j, j ∉ vs → σ1[j]? = σ[j]?) : wipe σ1 vs = wipe σ vs := by
  apply List.ext_getElem?
  intro j
  by_cases q : j ∈ vs
  · rw [wipe_at q, wipe_at q, hl]
  · rw [wipe_get q, wipe_get q, h j q]
theorem Sat.wiped {Γ : En} {σ : SS} {Hb H : Hp} {ow : Addr → Option Nat} (S : Sat g Γ σ Hb H ow) (vs : List Nat) : Sat g (wipeE Γ vs) (wipe σ vs) Hb H ow := by
  refine ⟨S.same, S.ows, fun i s e => ?_, by rw [wipe_length, wipeE_length, S.len]⟩
  obtain ⟨h1, h2⟩ := wipeE_get e
  obtain ⟨v, q1, q2⟩ := S.slots i s h1
  exact ⟨v, by rw [wipe_get h2]; exact q1, q2⟩
def lcGo (step : D → Option (Option D)) : List D → Option (List D)
  | [] => some []
  | d :: ds => (step d).bind fun o => (lcGo step ds).bind fun r => some (match o with | some y => y :: r | none => r)
def lcStep (gt : TgF) (t : VB) (e : VF) (Γ : En) (d : D) : Option (Option D) := (gt d Γ).bind fun Γ1 => (t Γ1).bind fun b => if b = true then (e Γ1).map some else some none
def vLc (vs : List Nat) (f : VL) (gt : TgF) (t : VB) (e : VF) : VS := fun Γ => (f Γ).bind fun ds => if fewD ds = true then (lcGo (lcStep gt t e (wipeE Γ vs)) ds).map fun out => .own .loc out else none
def bT : VB := fun _ => some true
theorem pts_yes {ifs : List Expr} (h : PTs X ifs tYes) : PTs X ifs (eT g bT) := ⟨fun pins s σ H Q I hw => h.run pins s σ H Q I (by
  obtain ⟨Γ, Hb, ow, d, ef, S, k⟩ := hw
  cases ef
  exact k Hb H (Grow.refl S.same))⟩
theorem Grow.setD {Hb H Hb1 H1 : Hp} {a : Addr} {o : HO} (gr : Grow Hb H Hb1 H1) (h0 : H a = none) (hb : Hb1 a = none) : Grow Hb H Hb1 (upd H1 a o) := by
  refine ⟨gr.hb, fun b u e => ?_, fun b u e => ?_, gr.new⟩
  · rw [upd_ne (ne_of_none e h0)]; exact gr.h _ _ e
  · rw [upd_ne (ne_of_none e hb)]; exact gr.same _ _ e
theorem lc_read {vs : List Nat} {f : VL} {tgt : TG} {gt : TgF} {t : VB} {e : VF} {σ : SS} {H : Hp} {Q : VK} (ht : TgOk g tgt gt vs) (tgLen : ∀ {d Γ Γ1}, gt d Γ = some Γ1 → Γ1.length = Γ.length) (h : eO g (vLc vs f gt t e) σ H Q) : tLc (eI g KpG f) tgt (eT g t) (eV g e) vs σ H Q := by
  obtain ⟨Γ, Hb, ow, s, ef, S, k⟩ := h
  obtain ⟨ds, e1, ef⟩ := Option.bind_eq_some_iff.mp ef
  split at ef
  · rename_i hf
    have hf := of_decide_eq_true hf
    obtain ⟨out, e2, rfl⟩ := Option.map_eq_some_iff.mp ef
    refine ⟨Γ, Hb, ow, ds, e1, S, fun J Hb1 H1 St g1 wk st kp D hD => ?_⟩
    refine ⟨fun i m H' => m = ds.length - i ∧ i ≤ ds.length ∧ ∃ Hb' acc oacc rest, Grow Hb1 H1 Hb' H' ∧ Hb' D = none ∧ H' D = some (.lst acc) ∧ Reps g.K Hb' acc oacc ∧ acc.length ≤ i ∧ lcGo (lcStep gt t e (wipeE Γ vs)) (ds.drop i) = some rest ∧ out = oacc ++ rest,
      ⟨_, rfl, Nat.zero_le _, Hb1, [], [], out, (Grow.refl g1.same).setD hD (g1.same.free hD), g1.same.free hD, upd_same, Reps.nil, Nat.le_refl _, e2, rfl⟩, ?_⟩
    rintro i m H' ⟨rfl, hi, Hb', acc, oacc, rest, gr, hbD, hHD, ra, hla, er, eo⟩
    have st' : St Hb' H' := kp _ _ _ _ st gr
    obtain ⟨w1, w2⟩ := wk i Hb' H' gr.same st'
    by_cases hlt : i < ds.length
    · obtain ⟨go, yl⟩ := w1 (ds[i]) (by simp [hlt])
      rw [List.drop_eq_getElem_cons hlt] at er
      obtain ⟨o, e3, er⟩ := Option.bind_eq_some_iff.mp er
      obtain ⟨r, e4, er⟩ := Option.bind_eq_some_iff.mp er
      refine .inr ⟨go, fun H'' => ∃ Hb'' acc' oacc' rest', Grow Hb1 H1 Hb'' H'' ∧ Hb'' D = none ∧ H'' D = some (.lst acc') ∧ Reps g.K Hb'' acc' oacc' ∧ acc'.length ≤ i + 1 ∧ lcGo (lcStep gt t e (wipeE Γ vs)) (ds.drop (i + 1)) = some rest' ∧ out = oacc' ++ rest',
        fun H'' q => ⟨ds.length - (i + 1), by omega, rfl, hlt, q⟩, fun x Hx y => ?_⟩
      obtain ⟨Hb2, g2, r2⟩ := yl x Hx y
      obtain ⟨Γ1, e5, e3⟩ := Option.bind_eq_some_iff.mp e3
      obtain ⟨b, e6, e3⟩ := Option.bind_eq_some_iff.mp e3
      have S2 := ((S.grow g1).grow (gr.trans g2)).wiped vs
      refine ht _ _ Γ1 x _ Hb2 Hx ow _ e5 S2 r2 fun σ1 ow1 S3 same1 _ _ => ⟨?_, Γ1, Hb2, ow1, b, e6, S3, fun Hb3 H3 g3 => ?_⟩
      · refine Eq.trans (wipe_ext (σ := wipe σ vs) (by rw [← S3.len, ← S2.len]; exact tgLen e5) fun j hj => (same1 j hj).1) ?_
        exact wipe_ext (by rw [wipe_length]) fun j hj => wipe_get hj
      · have HD3 : H3 D = some (.lst acc) := g3.h _ _ (g2.h _ _ hHD)
        have hbD3 : Hb3 D = none := g3.keepNone (g2.keepNone hbD (some_ne hHD)) (some_ne (g2.h _ _ hHD))
        cases b with
        | true =>
          rw [if_pos rfl] at e3
          obtain ⟨y', e7, rfl⟩ := Option.map_eq_some_iff.mp e3
          refine iteT ⟨Γ1, Hb3, ow1, y', e7, S3.grow g3, fun v Hb4 H4 g4 r4 => ?_⟩
          have HD4 := g4.h _ _ HD3
          have hbD4 := g4.keepNone hbD3 (some_ne HD3)
          refine ⟨acc, HD4, lt_line (by omega), Hb4, acc ++ [v], oacc ++ [y'], r, (((gr.trans g2).trans g3).trans g4).setD hD hbD4, hbD4, upd_same, ?_, by simp; omega, e4, ?_⟩
          · exact (((ra.same g2.hb).same g3.hb).same g4.hb).append (Reps.one r4)
          · have er := Option.some.inj er
            rw [eo, ← er]
            simp
        | false =>
          rw [if_neg (by simp)] at e3
          cases e3
          refine iteF ⟨Hb3, acc, oacc, r, (gr.trans g2).trans g3, hbD3, HD3, (ra.same g2.hb).same g3.hb, by omega, e4, ?_⟩
          have er := Option.some.inj er
          rw [eo, ← er]
    · have : i = ds.length := by omega
      subst this
      rw [List.drop_length] at er
      cases er
      refine .inl ⟨w2 (by simp), ?_⟩
      rw [List.append_nil] at eo
      subst eo
      exact k _ Hb' H' (g1.trans gr) ⟨D, acc, rfl, g1.h.free hD, hbD, hHD, ra⟩
  · cases ef
theorem gN_len {i : Nat} {d : D} {Γ Γ1 : En} (h : gN i d Γ = some Γ1) : Γ1.length = Γ.length := by cases h; simp
theorem gsN_len : ∀ {is : List Nat} {ds : List D} {Γ Γ1 : En}, gsN is ds Γ = some Γ1 → Γ1.length = Γ.length
  | [], [], _, _, h => by cases h; rfl
  | i :: is, d :: ds, Γ, Γ1, h => by
    have := gsN_len (show gsN is ds _ = some Γ1 from h)
    simpa using this
  | [], d :: ds, _, _, h => by cases h
  | i :: is, [], _, _, h => by cases h
theorem gT_len {is : List Nat} {d : D} {Γ Γ1 : En} (h : gT is d Γ = some Γ1) : Γ1.length = Γ.length := by
  cases d with
  | tup ds => exact gsN_len (show gsN is ds Γ = some Γ1 from h)
  | _ => cases h
theorem eo_lc {vs : List Nat} {f : VL} {tgt : TG} {gt : TgF} {t : VB} {e : VF} (ht : TgOk g tgt gt vs) (tl : ∀ {d Γ Γ1}, gt d Γ = some Γ1 → Γ1.length = Γ.length) (h : PE X c (tLc (eI g KpG f) tgt (eT g t) (eV g e) vs)) : PE X c (eO g (vLc vs f gt t e)) := PE_mono h fun σ H Q q => lc_read ht tl q
end
end Z

set_option maxRecDepth 100000
namespace Z
open PySem PySem.Spec PyProof.Rows L2

/-! ### statements by values -/
inductive Out where
  | nx (Γ : En)
  | rt (s : Sl) (Γ : En)
  | bk (Γ : En)
  | ct (Γ : En)
  | ex (x : Ex) (Γ : En)
abbrev VT := (Out → Prop) → En → Prop
/-- the entry: frozen part, heap, what may be changed, the arguments, the number of slots, what is kept meanwhile -/
structure Ct where
  Hb : Hp
  H : Hp
  mu : Addr → Option Nat
  vs : List V
  kp : Addr → Option HO
def mdS : Sl → Option Md
  | .val _ => none
  | .own m _ => some m
  | .odic m _ => some m
  | .net m _ _ => some m
structure Frm (c : Ct) (Γ : En) (σ : SS) (Hb H : Hp) (ow : Addr → Option Nat) : Prop where
  hb : Same c.Hb Hb
  h : ∀ a o, c.H a = some o → c.mu a = none → H a = some o
  th : ∀ a, c.H a ≠ none → H a ≠ none
  new : ∀ a, Hb a ≠ none → c.Hb a ≠ none ∨ c.H a = none
  md : ∀ (a : Addr) (i : Nat) (s : Sl), ow a = some i → Γ[i]? = some (some s) → (mdS s = some .loc → c.H a = none) ∧ (mdS s = some .mut → c.mu a = some i)
  pin : ∀ (i : Nat) (s : Sl), Γ[i]? = some (some s) → mdS s = some .mut → ∃ v, c.vs[i]? = some v ∧ σ[i]? = some (some v)
  keep : ∀ a o, c.kp a = some o → H a = some o
  kpo : ∀ (a : Addr) (i : Nat) (s : Sl), ow a = some i → Γ[i]? = some (some s) → (mdS s = some .loc ∨ mdS s = some .mut) → c.kp a = none
theorem not_none_iff {α : Type} {o : Option α} : ¬ o ≠ none ↔ o = none := Decidable.not_not
theorem Frm.free {c : Ct} {Γ : En} {σ : SS} {Hb H : Hp} {ow : Addr → Option Nat} (F : Frm c Γ σ Hb H ow) {a : Addr} (h : H a = none) : c.H a = none := by
  cases e : c.H a with
  | none => rfl
  | some o => exact absurd h (F.th a (by rw [e]; simp))
theorem Frm.grow {c : Ct} {Γ : En} {σ : SS} {Hb H Hb' H' : Hp} {ow : Addr → Option Nat} (F : Frm c Γ σ Hb H ow) (gr : Grow Hb H Hb' H') : Frm c Γ σ Hb' H' ow := by
  refine ⟨F.hb.trans gr.hb, fun a o e n => gr.h _ _ (F.h a o e n), fun a e => ne_none_of_same gr.h (F.th a e), fun a e => ?_, F.md, F.pin, fun a o e => gr.h _ _ (F.keep a o e), F.kpo⟩
  rcases gr.new a e with q | q
  · exact F.new a q
  · exact .inr (F.free q)

/-- what is wanted behind, by values and by heaps -/
structure Lk (g : Glo) (c : Ct) (W : WX) (Q : Out → Prop) (De : Ends) : Prop where
  nx : ∀ Γ σ Hb H ow, Q (.nx Γ) → Sat g Γ σ Hb H ow → Frm c Γ σ Hb H ow → De.nx σ H
  bk : ∀ Γ σ Hb H ow, Q (.bk Γ) → Sat g Γ σ Hb H ow → Frm c Γ σ Hb H ow → De.bk σ H
  ct : ∀ Γ σ Hb H ow, Q (.ct Γ) → Sat g Γ σ Hb H ow → Frm c Γ σ Hb H ow → De.ct σ H
  rt : ∀ s Γ σ v Hb H ow, Q (.rt s Γ) → Sat g Γ σ Hb H ow → Frm c Γ σ Hb H ow → rO g c.H Hb H v s → De.rt v H
  ex : ∀ x Γ σ Hb H ow, Q (.ex x Γ) → Sat g Γ σ Hb H ow → Frm c Γ σ Hb H ow → W (.ref (g.cls x)) none σ H
def sV (g : Glo) (W : WX) (T : VT) : TS := fun De σ H => ∃ c Q Γ Hb ow, T Q Γ ∧ Sat g Γ σ Hb H ow ∧ Frm c Γ σ Hb H ow ∧ Lk g c W Q De

section
variable {X : Cx} {g : Glo} {e : Expr} {st : Stmt} {sts : List Stmt} {W : WX}

/-! ### blocks -/
def skipT : VT := fun Q Γ => Q (.nx Γ)
def thenQ (T : VT) (Q : Out → Prop) : Out → Prop
  | .nx Γ => T Q Γ
  | o => Q o
def seqT (T U : VT) : VT := fun Q Γ => T (thenQ U Q) Γ
theorem ss_nil (h : PSs X sts tNext) : PSs X sts (sV g W skipT) := PSs_mono h fun De σ H ⟨c, Q, Γ, Hb, ow, t, S, F, L⟩ => L.nx _ _ _ _ _ t S F
theorem ss_seq {T U : VT} (h : PSs X sts (tSeq (sV g W T) (sV g W U))) : PSs X sts (sV g W (seqT T U)) := PSs_mono h fun De σ H ⟨c, Q, Γ, Hb, ow, t, S, F, L⟩ =>
  ⟨c, thenQ U Q, Γ, Hb, ow, t, S, F, ⟨fun Γ1 σ1 Hb1 H1 ow1 q S1 F1 => ⟨c, Q, Γ1, Hb1, ow1, q, S1, F1, L⟩, L.bk, L.ct, L.rt, L.ex⟩⟩
theorem ss_cons {T U : VT} (h1 : PS X st (sV g W T)) (h2 : PSs X sts (sV g W U)) : PSs X (st :: sts) (sV g W (seqT T U)) := ss_seq (pss_cons h1 h2)

/-! ### return -/
def retV (f : VF) : VT := fun Q Γ => ∃ d, f Γ = some d ∧ Q (.rt (.val d) Γ)
def retO (f : VS) : VT := fun Q Γ => ∃ s, f Γ = some s ∧ Q (.rt s Γ)
theorem s_retV {f : VF} (h : PS X st (tRet (eV g f))) : PS X st (sV g W (retV f)) := PS_mono h fun De σ H ⟨c, Q, Γ, Hb, ow, ⟨d, e1, q⟩, S, F, L⟩ =>
  ⟨Γ, Hb, ow, d, e1, S, fun v Hb1 H1 g1 r => L.rt (.val d) Γ σ v Hb1 H1 ow q (S.grow g1) (F.grow g1) r⟩
theorem s_retO {f : VS} (h : PS X st (tRet (eO g f))) : PS X st (sV g W (retO f)) := PS_mono h fun De σ H ⟨c, Q, Γ, Hb, ow, ⟨s, e1, q⟩, S, F, L⟩ =>
  ⟨Γ, Hb, ow, s, e1, S, fun v Hb1 H1 g1 r => L.rt s Γ σ v Hb1 H1 ow q (S.grow g1) (F.grow g1) (Mono.back (fun a => F.free) r)⟩
def retN : VT := fun Q Γ => Q (.rt (.val .non) Γ)
theorem s_retN (h : PS X st tRetN) : PS X st (sV g W retN) := PS_mono h fun De σ H ⟨c, Q, Γ, Hb, ow, q, S, F, L⟩ => L.rt (.val .non) Γ σ .non Hb H ow q S F (show Rep g.K Hb .non .non from rep_non.mpr rfl)
def isLoc (s : Sl) : Bool := decide (mdS s = some .loc)
/-- return of a slot's own thing -/
def retS (i : Nat) : VT := fun Q Γ => ∃ s, Γ[i]? = some (some s) ∧ isLoc s = true ∧ Q (.rt s (Γ.set i none))
theorem set_none_get {Γ : En} {i j : Nat} {s : Sl} (h : (Γ.set i none)[j]? = some (some s)) : Γ[j]? = some (some s) ∧ i ≠ j := by
  by_cases q : i = j
  · subst q
    rw [List.getElem?_set] at h
    simp only [if_true] at h
    split at h
    · cases h
    · cases h
  · rw [List.getElem?_set_ne q] at h
    exact ⟨h, q⟩
theorem s_retS {i : Nat} (h : PS X st (tRet (tVar i))) : PS X st (sV g W (retS i)) := PS_mono h fun De σ H ⟨c, Q, Γ, Hb, ow, ⟨s, e1, hl, q⟩, S, F, L⟩ => by
  obtain ⟨v, z1, z2⟩ := S.slots i s e1
  have hl := of_decide_eq_true hl
  refine ⟨v, z1, L.rt s _ σ v Hb H ow q ⟨S.same, S.ows, fun j t e => S.slots j t (set_none_get e).1, by rw [List.length_set]; exact S.len⟩
    ⟨F.hb, F.h, F.th, F.new, fun a j t o e => F.md a j t o (set_none_get e).1, fun j t e => F.pin j t (set_none_get e).1, F.keep, fun a j t o e => F.kpo a j t o (set_none_get e).1⟩ ?_⟩
  have fresh : ∀ a, ow a = some i → c.H a = none ∧ Hb a = none := fun a o => ⟨(F.md a i s o e1).1 hl, (S.ows a i o).1⟩
  cases s with
  | val d => cases hl
  | own m ds =>
    obtain ⟨a, vs, rfl, o, h1, h2⟩ := z2
    exact ⟨a, vs, rfl, (fresh a o).1, (fresh a o).2, h1, h2⟩
  | odic m ks =>
    obtain ⟨a, rfl, o, h1⟩ := z2
    exact ⟨a, rfl, (fresh a o).1, (fresh a o).2, h1⟩
  | net m size ps =>
    obtain ⟨a, dx, l, vs, rfl, o, ol, h1, h2, h3⟩ := z2
    exact ⟨a, dx, l, vs, rfl, (fresh a o).1, (fresh a o).2, (fresh l ol).1, (fresh l ol).2, h1, h2, h3⟩

/-! ### a slot's own thing is frozen for good -/
def frzI (i : Nat) (Γ : En) : En := match Γ[i]? with
  | some (some s) => if isLoc s = true then Γ.set i (some (frzS s)) else Γ
  | _ => Γ
def frzT (i : Nat) (T : VT) : VT := fun Q Γ => T Q (frzI i Γ)
theorem frz_one {Γ : En} {σ : SS} {Hb H : Hp} {ow : Addr → Option Nat} {c : Ct} {i : Nat} {a : Addr} {o : HO} {s : Sl} {d : D} {v : V} (S : Sat g Γ σ Hb H ow) (F : Frm c Γ σ Hb H ow) (e1 : Γ[i]? = some (some s)) (hl : mdS s = some .loc) (hv : σ[i]? = some (some v))
    (oa : ow a = some i) (ha : H a = some o) (hr : Rep g.K (upd Hb a o) v d) : ∃ Hb' ow', Sat g (Γ.set i (some (.val d))) σ Hb' H ow' ∧ Frm c (Γ.set i (some (.val d))) σ Hb' H ow' := by
  have hb := (S.ows a i oa).1
  have sb := same_upd (o := o) hb
  refine ⟨upd Hb a o, dropOw ow i, ⟨Same.froze S.same ha, fun b j e => ?_, fun j t e => ?_, by rw [List.length_set]; exact S.len⟩, ?_⟩
  · obtain ⟨e, ne⟩ := dropOw_some e
    have nb : b ≠ a := fun z => by subst z; rw [oa] at e; exact ne (Option.some.inj e).symm
    rw [upd_ne nb]
    exact S.ows b j e
  · by_cases q : i = j
    · subst q
      rw [List.getElem?_set] at e
      simp only [if_true] at e
      split at e
      · cases e
        exact ⟨v, hv, hr⟩
      · cases e
    · rw [List.getElem?_set_ne q] at e
      obtain ⟨u, q1, q2⟩ := S.slots j t e
      refine ⟨u, q1, ?_⟩
      have q3 := q2.ow (ow' := dropOw ow i) fun a o => dropOw_ne (fun z => q z.symm) o
      cases t with
      | val d => exact Rep.same sb q3
      | own m ds => obtain ⟨b, vs, z1, z2, z3, z4⟩ := q3; exact ⟨b, vs, z1, z2, z3, z4.same sb⟩
      | odic m ks => exact q3
      | net m size ps => obtain ⟨b, dx, l, vs, z1, z2, z3, z4, z5, z6⟩ := q3; exact ⟨b, dx, l, vs, z1, z2, z3, z4, z5, z6.same sb⟩
  · have get : ∀ {j t}, j ≠ i → (Γ.set i (some (.val d)))[j]? = some (some t) → Γ[j]? = some (some t) := fun {j t} q e => by rw [List.getElem?_set_ne (Ne.symm q)] at e; exact e
    refine ⟨F.hb.trans sb, F.h, F.th, fun b e => ?_, fun b j t e e2 => ?_, fun j t e2 hm => ?_, F.keep, fun b j t e e2 => ?_⟩
    · by_cases q : b = a
      · subst q; exact .inr ((F.md b i s oa e1).1 hl)
      · rw [upd_ne q] at e; exact F.new b e
    · obtain ⟨e, ne⟩ := dropOw_some e
      exact F.md b j t e (get ne e2)
    · by_cases q : j = i
      · subst q
        rw [List.getElem?_set] at e2
        simp only [if_true] at e2
        split at e2
        · cases e2; cases hm
        · cases e2
      · exact F.pin j t (get q e2) hm
    · obtain ⟨e, ne⟩ := dropOw_some e
      exact F.kpo b j t e (get ne e2)
theorem frzI_ok {Γ : En} {σ : SS} {Hb H : Hp} {ow : Addr → Option Nat} {c : Ct} {i : Nat} (S : Sat g Γ σ Hb H ow) (F : Frm c Γ σ Hb H ow) : ∃ Hb' ow', Sat g (frzI i Γ) σ Hb' H ow' ∧ Frm c (frzI i Γ) σ Hb' H ow' := by
  unfold frzI
  split
  · rename_i s e1
    split
    · rename_i hl
      have hl := of_decide_eq_true hl
      obtain ⟨v, z1, z2⟩ := S.slots i s e1
      cases s with
      | val d => cases hl
      | own m ds =>
        obtain ⟨a, vs, rfl, o, h1, h2⟩ := z2
        exact frz_one S F e1 hl z1 o h1 (rep_lst.mpr ⟨a, vs, rfl, upd_same, h2.same (same_upd (S.ows a i o).1)⟩)
      | odic m ks =>
        obtain ⟨a, rfl, o, h1⟩ := z2
        exact frz_one S F e1 hl z1 o h1 (rep_dic.mpr ⟨a, rfl, upd_same⟩)
      | net m size ps =>
        refine ⟨Hb, ow, ?_⟩
        have e2 : Γ.set i (some (frzS (.net m size ps))) = Γ := by
          apply List.ext_getElem?
          intro j
          by_cases q : i = j
          · subst q
            rw [List.getElem?_set_self (List.getElem?_eq_some_iff.mp e1).1, e1]
            rfl
          · rw [List.getElem?_set_ne q]
        rw [e2]
        exact ⟨S, F⟩
    · exact ⟨Hb, ow, S, F⟩
  · exact ⟨Hb, ow, S, F⟩
theorem s_frz {i : Nat} {T : VT} (h : PS X st (sV g W T)) : PS X st (sV g W (frzT i T)) := PS_mono h fun De σ H ⟨c, Q, Γ, Hb, ow, t, S, F, L⟩ => by
  obtain ⟨Hb', ow', S', F'⟩ := frzI_ok (i := i) S F
  exact ⟨c, Q, _, Hb', ow', t, S', F', L⟩

/-! ### a name is stored -/
def asgV (i : Nat) (f : VF) : VT := fun Q Γ => ∃ d, f Γ = some d ∧ Q (.nx (Γ.set i (some (.val d))))
theorem Frm.setSl {Γ : En} {σ : SS} {Hb H : Hp} {ow ow' : Addr → Option Nat} {c : Ct} {i : Nat} {v : V} {s : Sl} (F : Frm c Γ σ Hb H ow) (hm : mdS s ≠ some .mut) (h1 : ∀ a j, ow' a = some j → j ≠ i → ow a = some j) (h2 : ∀ a, ow' a = some i → mdS s = some .loc → c.H a = none) (hk : ∀ a, ow' a = some i → mdS s ≠ none → c.kp a = none) :
    Frm c (Γ.set i (some s)) (σ.set i (some v)) Hb H ow' := by
  have at_i : ∀ {t}, (Γ.set i (some s))[i]? = some (some t) → t = s := fun {t} e => by
    rw [List.getElem?_set] at e
    simp only [if_true] at e
    split at e
    · cases e; rfl
    · cases e
  refine ⟨F.hb, F.h, F.th, F.new, fun a j t o e => ?_, fun j t e ht => ?_, F.keep, fun a j t o e ht => ?_⟩
  · by_cases q : j = i
    · subst q
      cases at_i e
      exact ⟨h2 a o, fun z => absurd z hm⟩
    · rw [List.getElem?_set_ne (Ne.symm q)] at e
      exact F.md a j t (h1 a j o q) e
  · by_cases q : j = i
    · subst q
      cases at_i e
      exact absurd ht hm
    · rw [List.getElem?_set_ne (Ne.symm q)] at e ⊢
      exact F.pin j t e ht
  · by_cases q : j = i
    · subst q
      cases at_i e
      exact hk a o (by rcases ht with z | z <;> rw [z] <;> simp)
    · rw [List.getElem?_set_ne (Ne.symm q)] at e
      exact F.kpo a j t (h1 a j o q) e ht
theorem Frm.setVal {Γ : En} {σ : SS} {Hb H : Hp} {ow : Addr → Option Nat} {c : Ct} {i : Nat} {v : V} {d : D} (F : Frm c Γ σ Hb H ow) : Frm c (Γ.set i (some (.val d))) (σ.set i (some v)) Hb H (dropOw ow i) :=
  F.setSl (by intro z; cases z) (fun a j e _ => (dropOw_some e).1) (fun a o z => by cases z) fun a o _ => absurd rfl (dropOw_some o).2
theorem s_asgV {i : Nat} {f : VF} (h : PS X st (tAsg (eV g f) (gName i))) : PS X st (sV g W (asgV i f)) := PS_mono h fun De σ H ⟨c, Q, Γ, Hb, ow, ⟨d, e1, q⟩, S, F, L⟩ =>
  ⟨Γ, Hb, ow, d, e1, S, fun v Hb1 H1 g1 r => L.nx _ _ Hb1 H1 _ q ((S.grow g1).setVal r) ((F.grow g1).setVal)⟩
def locS : Sl → Sl
  | .val d => .val d
  | .own _ ds => .own .loc ds
  | .odic _ ks => .odic .loc ks
  | .net _ size ps => .net .loc size ps
theorem set_at {Γ : En} {i : Nat} {s t : Sl} (e : (Γ.set i (some s))[i]? = some (some t)) : t = s := by
  rw [List.getElem?_set] at e
  simp only [if_true] at e
  split at e
  · cases e; rfl
  · cases e
/-- a new thing comes into the slot i -/
theorem setO2 {Γ : En} {σ : SS} {Hb1 H H1 : Hp} {ow : Addr → Option Nat} {c : Ct} {i : Nat} {v : V} {s : Sl} (S1 : Sat g Γ σ Hb1 H1 ow) (F1 : Frm c Γ σ Hb1 H1 ow) (hw : ∀ a j, ow a = some j → H a ≠ none) (hkp : ∀ a o, c.kp a = some o → H a = some o) (hf : ∀ a, H a = none → c.H a = none) (r : rO g H Hb1 H1 v s) :
    ∃ ow', Sat g (Γ.set i (some (locS s))) (σ.set i (some v)) Hb1 H1 ow' ∧ Frm c (Γ.set i (some (locS s))) (σ.set i (some v)) Hb1 H1 ow' := by
  -- what is owned from now on, by a look at the addresses
  have main : ∀ (own : Addr → Prop) [DecidablePred own], (∀ a, own a → H a = none ∧ Hb1 a = none ∧ H1 a ≠ none) → (SlOk g Hb1 H1 (fun a => if own a then some i else dropOw ow i a) i v (locS s)) → mdS (locS s) ≠ some .mut →
      ∃ ow', Sat g (Γ.set i (some (locS s))) (σ.set i (some v)) Hb1 H1 ow' ∧ Frm c (Γ.set i (some (locS s))) (σ.set i (some v)) Hb1 H1 ow' := fun own _ ho sl hm => by
    refine ⟨fun a => if own a then some i else dropOw ow i a, ⟨S1.same, fun a j e => ?_, fun j t e => ?_, by rw [List.length_set, List.length_set, S1.len]⟩, ?_⟩
    · split at e
      · rename_i h
        exact ⟨(ho a h).2.1, (ho a h).2.2⟩
      · exact S1.ows a j (dropOw_some e).1
    · by_cases q : i = j
      · subst q
        have hi : i < Γ.length := by
          have := (List.getElem?_eq_some_iff.mp e).1
          simpa using this
        cases set_at e
        exact ⟨v, by rw [List.getElem?_set_self (by rw [← S1.len]; exact hi)], sl⟩
      · rw [List.getElem?_set_ne q] at e
        obtain ⟨u, q1, q2⟩ := S1.slots j t e
        refine ⟨u, by rw [List.getElem?_set_ne q]; exact q1, q2.ow fun a o => ?_⟩
        have na : ¬ own a := fun z => by
          exact hw a j o (ho a z).1
        show (if own a then some i else dropOw ow i a) = some j
        rw [if_neg na]
        exact dropOw_ne (fun z => q z.symm) o
    · refine F1.setSl hm (fun a j e hj => ?_) (fun a e _ => ?_) (fun a e _ => ?_)
      · split at e
        · exact absurd (Option.some.inj e).symm hj
        · exact (dropOw_some e).1
      · split at e
        · rename_i h
          exact hf a (ho a h).1
        · exact absurd rfl (dropOw_some e).2
      · split at e
        · rename_i h
          cases z : c.kp a with
          | none => rfl
          | some o =>
            have q := (ho a h).1
            rw [hkp a o z] at q
            cases q
        · exact absurd rfl (dropOw_some e).2
  cases s with
  | val d => exact main (fun _ => False) (fun a h => h.elim) r (by intro z; cases z)
  | own m ds =>
    obtain ⟨a, vs, rfl, h0, hb, h1, h2⟩ := r
    refine main (fun b => b = a) (fun b e => by subst e; exact ⟨h0, hb, some_ne h1⟩) ⟨a, vs, rfl, by simp, h1, h2⟩ (by intro z; cases z)
  | odic m ks =>
    obtain ⟨a, rfl, h0, hb, h1⟩ := r
    refine main (fun b => b = a) (fun b e => by subst e; exact ⟨h0, hb, some_ne h1⟩) ⟨a, rfl, by simp, h1⟩ (by intro z; cases z)
  | net m size ps =>
    obtain ⟨a, dx, l, vs, rfl, h0, hb, l0, lb, h1, h2, h3⟩ := r
    refine main (fun b => b = a ∨ b = l) (fun b e => by
      rcases e with rfl | rfl
      · exact ⟨h0, hb, some_ne h1⟩
      · exact ⟨l0, lb, some_ne h2⟩) ⟨a, dx, l, vs, rfl, by simp, by simp, h1, h2, h3⟩ (by intro z; cases z)
theorem setO {Γ : En} {σ : SS} {Hb H Hb1 H1 : Hp} {ow : Addr → Option Nat} {c : Ct} {i : Nat} {v : V} {s : Sl} (S : Sat g Γ σ Hb H ow) (F : Frm c Γ σ Hb H ow) (g1 : Grow Hb H Hb1 H1) (r : rO g H Hb1 H1 v s) :
    ∃ ow', Sat g (Γ.set i (some (locS s))) (σ.set i (some v)) Hb1 H1 ow' ∧ Frm c (Γ.set i (some (locS s))) (σ.set i (some v)) Hb1 H1 ow' :=
  setO2 (S.grow g1) (F.grow g1) (fun a j o => (S.ows a j o).2) (fun a o e => F.keep a o e) (fun a => F.free) r
def asgO (i : Nat) (f : VS) : VT := fun Q Γ => ∃ s, f Γ = some s ∧ Q (.nx (Γ.set i (some (locS s))))
theorem s_asgO {i : Nat} {f : VS} (h : PS X st (tAsg (eO g f) (gName i))) : PS X st (sV g W (asgO i f)) := PS_mono h fun De σ H ⟨c, Q, Γ, Hb, ow, ⟨s, e1, q⟩, S, F, L⟩ =>
  ⟨Γ, Hb, ow, s, e1, S, fun v Hb1 H1 g1 r => by
    obtain ⟨ow', S', F'⟩ := setO S F g1 r
    exact L.nx _ _ Hb1 H1 _ q S' F'⟩
def rsT (Q : Out → Prop) (Γ : En) (k : Sl → Prop) : Rs → Prop
  | .inl s => k s
  | .inr x => Q (.ex x Γ)
def asgX (i : Nat) (f : En → Option Rs) : VT := fun Q Γ => ∃ r, f Γ = some r ∧ rsT Q Γ (fun s => Q (.nx (Γ.set i (some (locS s))))) r
theorem s_asgX {i : Nat} {f : En → Option Rs} (h : PS X st (tAsg (eX g W f) (gName i))) : PS X st (sV g W (asgX i f)) := PS_mono h fun De σ H ⟨c, Q, Γ, Hb, ow, ⟨r, e1, q⟩, S, F, L⟩ => by
  refine ⟨Γ, Hb, ow, r, e1, S, ?_⟩
  cases r with
  | inl s =>
    intro v Hb1 H1 g1 r
    obtain ⟨ow', S', F'⟩ := setO S F g1 r
    exact L.nx _ _ Hb1 H1 _ q S' F'
  | inr x => exact fun Hb1 H1 g1 => L.ex x Γ σ Hb1 H1 ow q (S.grow g1) (F.grow g1)
def exprX (f : En → Option Rs) : VT := fun Q Γ => ∃ r, f Γ = some r ∧ rsT Q Γ (fun _ => Q (.nx Γ)) r
theorem s_exprX {f : En → Option Rs} (h : PS X st (tDrop (eX g W f))) : PS X st (sV g W (exprX f)) := PS_mono h fun De σ H ⟨c, Q, Γ, Hb, ow, ⟨r, e1, q⟩, S, F, L⟩ => by
  refine ⟨Γ, Hb, ow, r, e1, S, ?_⟩
  cases r with
  | inl s => exact fun v Hb1 H1 g1 r => L.nx Γ σ Hb1 H1 ow q (S.grow g1) (F.grow g1)
  | inr x => exact fun Hb1 H1 g1 => L.ex x Γ σ Hb1 H1 ow q (S.grow g1) (F.grow g1)
def raiseT (x : Ex) : VT := fun Q Γ => Q (.ex x Γ)
theorem s_raise {x : Ex} (h : PS X st (fun _ σ H => W (.ref (g.cls x)) none σ H)) : PS X st (sV g W (raiseT x)) := PS_mono h fun De σ H ⟨c, Q, Γ, Hb, ow, q, S, F, L⟩ => L.ex x Γ σ Hb H ow q S F

/-! ### if, while, for -/
def ifT (t : VB) (T U : VT) : VT := fun Q Γ => ∃ b, t Γ = some b ∧ (b = true → T Q Γ) ∧ (b = false → U Q Γ)
theorem s_if {t : VB} {T U : VT} (h : PS X st (tIfS (eT g t) (sV g W T) (sV g W U))) : PS X st (sV g W (ifT t T U)) := PS_mono h fun De σ H ⟨c, Q, Γ, Hb, ow, ⟨b, e1, q1, q2⟩, S, F, L⟩ =>
  ⟨Γ, Hb, ow, b, e1, S, fun Hb1 H1 g1 => by
    cases b with
    | true => exact iteT ⟨c, Q, Γ, Hb1, ow, q1 rfl, S.grow g1, F.grow g1, L⟩
    | false => exact iteF ⟨c, Q, Γ, Hb1, ow, q2 rfl, S.grow g1, F.grow g1, L⟩⟩
def loopQ (k : En → Prop) (Q : Out → Prop) : Out → Prop
  | .nx Γ => k Γ
  | .ct Γ => k Γ
  | .bk Γ => Q (.nx Γ)
  | o => Q o
def whileT (t : VB) (T : VT) : VT := fun Q Γ => ∃ I : Nat → En → Prop, (∃ m, I m Γ) ∧ ∀ m Γ, I m Γ → ∃ b, t Γ = some b ∧ (b = true → T (loopQ (fun Γ' => ∃ m', m' < m ∧ I m' Γ') Q) Γ) ∧ (b = false → Q (.nx Γ))
theorem s_while {t : VB} {T : VT} (h : PS X st (tWhile (eT g t) (sV g W T))) : PS X st (sV g W (whileT t T)) := PS_mono h fun De σ H ⟨c, Q, Γ, Hb, ow, ⟨I, ⟨m0, i0⟩, turn⟩, S, F, L⟩ => by
  refine ⟨fun m σ H => ∃ Γ Hb ow, I m Γ ∧ Sat g Γ σ Hb H ow ∧ Frm c Γ σ Hb H ow, ⟨m0, Γ, Hb, ow, i0, S, F⟩, ?_⟩
  rintro m σ1 H1 ⟨Γ1, Hb1, ow1, i1, S1, F1⟩
  obtain ⟨b, e1, q1, q2⟩ := turn m Γ1 i1
  refine ⟨Γ1, Hb1, ow1, b, e1, S1, fun Hb2 H2 g2 => ?_⟩
  cases b with
  | true =>
    refine iteT ⟨fun σ H => ∃ m', m' < m ∧ ∃ Γ Hb ow, I m' Γ ∧ Sat g Γ σ Hb H ow ∧ Frm c Γ σ Hb H ow, fun σ' H' ⟨m', hm, q⟩ => ⟨m', hm, q⟩, c, _, Γ1, Hb2, ow1, q1 rfl, S1.grow g2, F1.grow g2, ?_⟩
    exact ⟨fun Γ σ Hb H ow ⟨m', hm, q⟩ S F => ⟨m', hm, Γ, Hb, ow, q, S, F⟩, fun Γ σ Hb H ow q S F => L.nx Γ σ Hb H ow q S F, fun Γ σ Hb H ow ⟨m', hm, q⟩ S F => ⟨m', hm, Γ, Hb, ow, q, S, F⟩, L.rt, L.ex⟩
  | false => exact iteF (L.nx Γ1 σ1 Hb2 H2 ow1 (q2 rfl) (S1.grow g2) (F1.grow g2))
def loopT (gt : TgF) (T : VT) : List D → VT
  | [] => fun Q Γ => Q (.nx Γ)
  | d :: ds => fun Q Γ => ∃ Γ1, gt d Γ = some Γ1 ∧ T (loopQ (fun Γ' => loopT gt T ds Q Γ') Q) Γ1
def forT (f : VL) (gt : TgF) (T : VT) : VT := fun Q Γ => ∃ ds, f Γ = some ds ∧ loopT gt T ds Q Γ
/-- as c, with the frozen part of now, and more kept -/
theorem Frm.target {Γ Γ1 : En} {σ σ1 : SS} {Hb H : Hp} {ow ow1 : Addr → Option Nat} {c : Ct} {vs : List Nat} (F : Frm c Γ σ Hb H ow) (h1 : ∀ j, j ∉ vs → σ1[j]? = σ[j]? ∧ Γ1[j]? = Γ[j]?) (h2 : ∀ a j, ow1 a = some j → ow a = some j) (hv : ∀ j ∈ vs, ∀ s, Γ1[j]? = some (some s) → mdS s = none) : Frm c Γ1 σ1 Hb H ow1 := by
  refine ⟨F.hb, F.h, F.th, F.new, fun a j t o e => ?_, fun j t e ht => ?_, F.keep, fun a j t o e ht => ?_⟩
  · by_cases q : j ∈ vs
    · rw [hv j q t e]
      exact ⟨fun z => (nomatch z), fun z => (nomatch z)⟩
    · rw [(h1 j q).2] at e
      exact F.md a j t (h2 a j o) e
  · by_cases q : j ∈ vs
    · rw [hv j q t e] at ht
      cases ht
    · rw [(h1 j q).2] at e
      rw [(h1 j q).1]
      exact F.pin j t e ht
  · by_cases q : j ∈ vs
    · rw [hv j q t e] at ht
      rcases ht with z | z <;> cases z
    · rw [(h1 j q).2] at e
      exact F.kpo a j t (h2 a j o) e ht

def valD (Γ Γ1 : En) : Prop := True
theorem gN_val {i : Nat} {d : D} {Γ Γ1 : En} (h : gN i d Γ = some Γ1) : ∀ j ∈ [i], ∀ s, Γ1[j]? = some (some s) → mdS s = none := by
  cases h
  intro j hj s e
  simp only [List.mem_singleton] at hj
  subst hj
  cases set_at e
  rfl
theorem gsN_val : ∀ {is : List Nat} {ds : List D} {Γ Γ1 : En}, gsN is ds Γ = some Γ1 → (∀ j ∈ is, ∀ (s : Sl), Γ1[j]? = some (some s) → mdS s = none) ∧ ∀ (j : Nat), (∀ (s : Sl), Γ[j]? = some (some s) → mdS s = none) → ∀ (s : Sl), Γ1[j]? = some (some s) → mdS s = none
  | [], [], Γ, Γ1, h => by cases h; exact ⟨fun j hj => (nomatch hj), fun j q => q⟩
  | i :: is, d :: ds, Γ, Γ1, h => by
    obtain ⟨q1, q2⟩ := gsN_val (show gsN is ds _ = some Γ1 from h)
    refine ⟨fun j hj => ?_, fun j q => q2 j fun s e => ?_⟩
    · rcases List.mem_cons.mp hj with rfl | hj
      · exact q2 j fun s e => by cases set_at e; rfl
      · exact q1 j hj
    · by_cases z : i = j
      · subst z; cases set_at e; rfl
      · rw [List.getElem?_set_ne z] at e; exact q s e
  | [], d :: ds, _, _, h => by cases h
  | i :: is, [], _, _, h => by cases h
/-- what a target stores is frozen data -/
def TgV (gt : TgF) (vs : List Nat) : Prop := ∀ d Γ Γ1, gt d Γ = some Γ1 → ∀ j ∈ vs, ∀ s, Γ1[j]? = some (some s) → mdS s = none
theorem tv_name {i : Nat} : TgV (gN i) [i] := fun d Γ Γ1 h => gN_val h
theorem tv_tup {is : List Nat} : TgV (gT is) is := fun d Γ Γ1 h => by
  cases d with
  | tup ds => exact (gsN_val (show gsN is ds Γ = some Γ1 from h)).1
  | _ => cases h
theorem loop_read {f : VL} {tgt : TG} {gt : TgF} {vs : List Nat} {T : VT} {J : It} {ds : List D} {St : Hp → Hp → Prop} {c : Ct} {Q : Out → Prop} {De : Ends} {Γ : En} {σ : SS} {Hb H : Hp} {ow : Addr → Option Nat} (ht : TgOk g tgt gt vs) (hv : TgV gt vs)
    (wk : WkOk g J ds St) (st : St Hb H) (stk : ∀ Γ' σ' Hb' H' ow', Frm c Γ' σ' Hb' H' ow' → Same Hb' H' → St Hb' H') (t : loopT gt T ds Q Γ) (S : Sat g Γ σ Hb H ow) (F : Frm c Γ σ Hb H ow) (L : Lk g c W Q De) :
    ∃ W' : Nat → Nat → SS → Hp → Prop, (∃ m, W' 0 m σ H) ∧ ∀ i m σ H, W' i m σ H → (J.stop i H ∧ De.nx σ H) ∨ (J.go i H ∧ ∃ N : SS → Hp → Prop, (∀ σ' H', N σ' H' → ∃ m', m' < m ∧ W' (i + 1) m' σ' H') ∧ ∀ x H', J.yld i H x H' → tgt x σ H' fun σ2 H2 => sV g W T { De with nx := N, ct := N, bk := De.nx } σ2 H2) := by
  refine ⟨fun i m σ H => m = ds.length - i ∧ i ≤ ds.length ∧ ∃ Γ Hb ow, loopT gt T (ds.drop i) Q Γ ∧ Sat g Γ σ Hb H ow ∧ Frm c Γ σ Hb H ow, ⟨_, rfl, Nat.zero_le _, Γ, Hb, ow, t, S, F⟩, ?_⟩
  rintro i m σ1 H1 ⟨rfl, hi, Γ1, Hb1, ow1, t1, S1, F1⟩
  obtain ⟨w1, w2⟩ := wk i Hb1 H1 S1.same (stk _ _ _ _ _ F1 S1.same)
  by_cases hlt : i < ds.length
  · obtain ⟨go, yl⟩ := w1 (ds[i]) (by simp [hlt])
    rw [List.drop_eq_getElem_cons hlt] at t1
    obtain ⟨Γ2, e2, t2⟩ := t1
    refine .inr ⟨go, fun σ H => ∃ Γ Hb ow, loopT gt T (ds.drop (i + 1)) Q Γ ∧ Sat g Γ σ Hb H ow ∧ Frm c Γ σ Hb H ow, fun σ' H' q => ⟨_, by omega, rfl, hlt, q⟩, fun x H' y => ?_⟩
    obtain ⟨Hb2, g2, r2⟩ := yl x H' y
    refine ht _ _ Γ2 x σ1 Hb2 H' ow1 _ e2 (S1.grow g2) r2 fun σ2 ow2 S2 same2 h2 _ => ?_
    refine ⟨c, _, Γ2, Hb2, ow2, t2, S2, (F1.grow g2).target same2 h2 (hv _ _ _ e2), ?_⟩
    exact ⟨fun Γ σ Hb H ow q S F => ⟨Γ, Hb, ow, q, S, F⟩, fun Γ σ Hb H ow q S F => L.nx Γ σ Hb H ow q S F, fun Γ σ Hb H ow q S F => ⟨Γ, Hb, ow, q, S, F⟩, L.rt, L.ex⟩
  · have : i = ds.length := by omega
    subst this
    rw [List.drop_length] at t1
    exact .inl ⟨w2 (by simp), L.nx Γ1 σ1 Hb1 H1 ow1 t1 S1 F1⟩
theorem s_for {f : VL} {tgt : TG} {gt : TgF} {vs : List Nat} {T : VT} (ht : TgOk g tgt gt vs) (hv : TgV gt vs) (h : PS X st (tFor (eI g KpS f) tgt (sV g W T))) : PS X st (sV g W (forT f gt T)) := PS_mono h fun De σ H ⟨c, Q, Γ, Hb, ow, ⟨ds, e1, t⟩, S, F, L⟩ => by
  refine ⟨Γ, Hb, ow, ds, e1, S, fun J Hb1 H1 St g1 wk st kp => ?_⟩
  -- from here on the frozen part is looked at from Hb1
  have back : ∀ {Γ' σ' Hb' H' ow'}, Frm { c with Hb := Hb1 } Γ' σ' Hb' H' ow' → Frm c Γ' σ' Hb' H' ow' := fun {Γ' σ' Hb' H' ow'} F' =>
    ⟨(F.hb.trans g1.hb).trans F'.hb, F'.h, F'.th, fun a e => (F'.new a e).elim (fun q => (F.grow g1).new a q) .inr, F'.md, F'.pin, F'.keep, F'.kpo⟩
  have F1 : Frm { c with Hb := Hb1 } Γ σ Hb1 H1 ow := by
    have z := F.grow g1
    exact ⟨Same.refl _, z.h, z.th, fun a e => .inl e, z.md, z.pin, z.keep, z.kpo⟩
  have L1 : Lk g { c with Hb := Hb1 } W Q De := ⟨fun Γ σ Hb H ow q S F => L.nx Γ σ Hb H ow q S (back F), fun Γ σ Hb H ow q S F => L.bk Γ σ Hb H ow q S (back F), fun Γ σ Hb H ow q S F => L.ct Γ σ Hb H ow q S (back F),
    fun s Γ σ v Hb H ow q S F => L.rt s Γ σ v Hb H ow q S (back F), fun x Γ σ Hb H ow q S F => L.ex x Γ σ Hb H ow q S (back F)⟩
  exact loop_read (c := { c with Hb := Hb1 }) (f := f) ht hv wk st (fun Γ' σ' Hb' H' ow' F' sm => kp _ _ _ _ st ⟨F'.hb, sm⟩) t (S.grow g1) F1 L1
/-- over a list that a slot may only read -/
def roL (i : Nat) : VL := fun Γ => match Γ[i]? with
  | some (some (.own .ro ds)) => some ds
  | some (some (.val (.lst ds))) => some ds
  | _ => none
theorem s_forRo {i : Nat} {tgt : TG} {gt : TgF} {vs : List Nat} {T : VT} (ht : TgOk g tgt gt vs) (hv : TgV gt vs) (h : PS X st (tFor (iList g.K (tVar i)) tgt (sV g W T))) : PS X st (sV g W (forT (roL i) gt T)) := PS_mono h fun De σ H ⟨c, Q, Γ, Hb, ow, ⟨ds, e1, t⟩, S, F, L⟩ => by
  unfold roL at e1
  split at e1
  · rename_i ds' e0
    cases e1
    obtain ⟨v, z1, a, us, rfl, o, h1, h2⟩ := S.slots i _ e0
    refine ⟨_, z1, a, rfl, ⟨us, SqL.of h1⟩, ?_⟩
    have back : ∀ {Γ' σ' Hb' H' ow'}, Frm { c with Hb := Hb, kp := fun b => if b = a then some (.lst us) else c.kp b } Γ' σ' Hb' H' ow' → Frm c Γ' σ' Hb' H' ow' := fun {Γ' σ' Hb' H' ow'} F' => by
      refine ⟨F.hb.trans F'.hb, F'.h, F'.th, fun a e => (F'.new a e).elim (fun q => F.new a q) .inr, F'.md, F'.pin, fun b o e => F'.keep b o ?_, fun b j s o e m => ?_⟩
      · show (if b = a then some (HO.lst us) else c.kp b) = some o
        split
        · rename_i hb
          subst hb
          rw [F.keep _ _ e] at h1
          exact h1.symm
        · exact e
      · have q := F'.kpo b j s o e m
        dsimp only at q
        split at q
        · cases q
        · exact q
    have F1 : Frm { c with Hb := Hb, kp := fun b => if b = a then some (.lst us) else c.kp b } Γ σ Hb H ow := by
      refine ⟨Same.refl _, F.h, F.th, fun a e => .inl e, F.md, F.pin, fun b o' e => ?_, fun b j s o' e m => ?_⟩
      · dsimp only at e
        split at e
        · rename_i hb; subst hb; cases e; exact h1
        · exact F.keep b o' e
      · dsimp only
        split
        · rename_i hb
          subst hb
          rw [o] at o'
          cases o'
          rw [e0] at e
          cases e
          rcases m with m | m <;> cases m
        · exact F.kpo b j s o' e m
    have L1 : Lk g { c with Hb := Hb, kp := fun b => if b = a then some (.lst us) else c.kp b } W Q De := ⟨fun Γ σ Hb H ow q S F => L.nx Γ σ Hb H ow q S (back F), fun Γ σ Hb H ow q S F => L.bk Γ σ Hb H ow q S (back F), fun Γ σ Hb H ow q S F => L.ct Γ σ Hb H ow q S (back F),
      fun s Γ σ v Hb H ow q S F => L.rt s Γ σ v Hb H ow q S (back F), fun x Γ σ Hb H ow q S F => L.ex x Γ σ Hb H ow q S (back F)⟩
    refine loop_read (c := { c with Hb := Hb, kp := fun b => if b = a then some (.lst us) else c.kp b }) (f := roL i) ht hv (list_wk (vs := us) (St := fun Hb H => H a = some (.lst us) ∧ Reps g.K Hb us ds) fun Hb H sm st => st) ⟨h1, h2⟩ (fun Γ' σ' Hb' H' ow' F' sm => ⟨F'.keep a _ (if_pos rfl), h2.same F'.hb⟩) t S F1 L1
  · rename_i ds' e0
    cases e1
    obtain ⟨v, z1, z2⟩ := S.slots i _ e0
    obtain ⟨a, us, rfl, h1, h2⟩ := rep_lst.mp (show Rep g.K Hb v (.lst ds) from z2)
    refine ⟨_, z1, a, rfl, ⟨us, SqL.of (S.same _ _ h1)⟩, ?_⟩
    have back : ∀ {Γ' σ' Hb' H' ow'}, Frm { c with Hb := Hb } Γ' σ' Hb' H' ow' → Frm c Γ' σ' Hb' H' ow' := fun {Γ' σ' Hb' H' ow'} F' =>
      ⟨F.hb.trans F'.hb, F'.h, F'.th, fun a e => (F'.new a e).elim (fun q => F.new a q) .inr, F'.md, F'.pin, F'.keep, F'.kpo⟩
    have L1 : Lk g { c with Hb := Hb } W Q De := ⟨fun Γ σ Hb H ow q S F => L.nx Γ σ Hb H ow q S (back F), fun Γ σ Hb H ow q S F => L.bk Γ σ Hb H ow q S (back F), fun Γ σ Hb H ow q S F => L.ct Γ σ Hb H ow q S (back F),
      fun s Γ σ v Hb H ow q S F => L.rt s Γ σ v Hb H ow q S (back F), fun x Γ σ Hb H ow q S F => L.ex x Γ σ Hb H ow q S (back F)⟩
    exact loop_read (c := { c with Hb := Hb }) (f := roL i) ht hv (list_wk (vs := us) (St := fun Hb H => Hb a = some (.lst us) ∧ Reps g.K Hb us ds) fun Hb H sm st => ⟨sm _ _ st.1, st.2⟩) ⟨h1, h2⟩ (fun Γ' σ' Hb' H' ow' F' sm => ⟨F'.hb _ _ h1, h2.same F'.hb⟩) t S
      ⟨Same.refl _, F.h, F.th, fun a e => .inl e, F.md, F.pin, F.keep, F.kpo⟩ L1
  · cases e1

/-! ### what a slot owns is changed -/
theorem Sat.change {Γ : En} {σ : SS} {Hb H : Hp} {ow : Addr → Option Nat} {i : Nat} {a : Addr} {o : HO} {s' : Sl} {v : V} (S : Sat g Γ σ Hb H ow) (oa : ow a = some i) (hv : σ[i]? = some (some v)) (hs : SlOk g Hb (upd H a o) ow i v s') : Sat g (Γ.set i (some s')) σ Hb (upd H a o) ow := by
  refine ⟨fun b u e => ?_, fun b j e => ?_, fun j t e => ?_, by rw [List.length_set]; exact S.len⟩
  · have nb : b ≠ a := fun z => by subst z; rw [(S.ows b i oa).1] at e; cases e
    rw [upd_ne nb]
    exact S.same b u e
  · obtain ⟨h1, h2⟩ := S.ows b j e
    refine ⟨h1, ?_⟩
    by_cases q : b = a
    · subst q; rw [upd_same]; simp
    · rw [upd_ne q]; exact h2
  · by_cases q : i = j
    · subst q
      cases set_at e
      exact ⟨v, hv, hs⟩
    · rw [List.getElem?_set_ne q] at e
      obtain ⟨u, q1, q2⟩ := S.slots j t e
      refine ⟨u, q1, ?_⟩
      have ne : ∀ b, ow b = some j → b ≠ a := fun b hb z => by subst z; rw [oa] at hb; exact q (Option.some.inj hb)
      cases t with
      | val d => exact q2
      | own m ds => obtain ⟨b, vs, z1, z2, z3, z4⟩ := q2; exact ⟨b, vs, z1, z2, by rw [upd_ne (ne b z2)]; exact z3, z4⟩
      | odic m ks => obtain ⟨b, z1, z2, z3⟩ := q2; exact ⟨b, z1, z2, by rw [upd_ne (ne b z2)]; exact z3⟩
      | net m size ps => obtain ⟨b, dx, l, vs, z1, z2, z3, z4, z5, z6⟩ := q2; exact ⟨b, dx, l, vs, z1, z2, z3, by rw [upd_ne (ne b z2)]; exact z4, by rw [upd_ne (ne l z3)]; exact z5, z6⟩
theorem Frm.change {Γ : En} {σ : SS} {Hb H : Hp} {ow : Addr → Option Nat} {c : Ct} {i : Nat} {a : Addr} {o : HO} {s s' : Sl} (F : Frm c Γ σ Hb H ow) (oa : ow a = some i) (e1 : Γ[i]? = some (some s)) (hm : mdS s = some .loc ∨ mdS s = some .mut) (he : mdS s' = mdS s) : Frm c (Γ.set i (some s')) σ Hb (upd H a o) ow := by
  have kn := F.kpo a i s oa e1 hm
  have get : ∀ {j t}, (Γ.set i (some s'))[j]? = some (some t) → ∃ t', Γ[j]? = some (some t') ∧ mdS t' = mdS t := fun {j t} e => by
    by_cases q : i = j
    · subst q; cases set_at e; exact ⟨s, e1, he.symm⟩
    · rw [List.getElem?_set_ne q] at e; exact ⟨t, e, rfl⟩
  refine ⟨F.hb, fun b u e nm => ?_, fun b e => ?_, F.new, fun b j t e e2 => ?_, fun j t e ht => ?_, fun b u e => ?_, fun b j t e e2 ht => ?_⟩
  · have nb : b ≠ a := fun z => by
      subst z
      rcases hm with hm | hm
      · rw [(F.md b i s oa e1).1 hm] at e; cases e
      · rw [(F.md b i s oa e1).2 hm] at nm; cases nm
    rw [upd_ne nb]
    exact F.h b u e nm
  · by_cases q : b = a
    · subst q; rw [upd_same]; simp
    · rw [upd_ne q]; exact F.th b e
  · obtain ⟨t', z1, z2⟩ := get e2
    rw [← z2]
    exact F.md b j t' e z1
  · obtain ⟨t', z1, z2⟩ := get e
    rw [← z2] at ht
    exact F.pin j t' z1 ht
  · have nb : b ≠ a := fun z => by subst z; rw [kn] at e; cases e
    rw [upd_ne nb]
    exact F.keep b u e
  · obtain ⟨t', z1, z2⟩ := get e2
    rw [← z2] at ht
    exact F.kpo b j t' e z1 ht
def ownT (i : Nat) (K : Md → List D → Prop) (Γ : En) : Prop := match Γ[i]? with
  | some (some (.own m ds)) => m ≠ .ro ∧ K m ds
  | _ => False
theorem ownT_get {i : Nat} {K : Md → List D → Prop} {Γ : En} (h : ownT i K Γ) : ∃ m ds, Γ[i]? = some (some (.own m ds)) ∧ m ≠ .ro ∧ K m ds := by
  unfold ownT at h
  split at h
  · exact ⟨_, _, by assumption, h.1, h.2⟩
  · exact h.elim
theorem md_cases {m : Md} (h : m ≠ .ro) : some m = some Md.loc ∨ some m = some Md.mut := by
  cases m <;> simp_all
def appT (i : Nat) (f : VF) : VT := fun Q Γ => ownT i (fun m ds => ∃ d, f Γ = some d ∧ ds.length ≤ 1000000 ∧ Q (.nx (Γ.set i (some (.own m (ds ++ [d])))))) Γ
theorem tyV_lst {K : PySem.W.Frag} {a : Addr} {vs : List V} {H : Hp} (h : H a = some (.lst vs)) : tyV K "list" (.ref a) H := .inl ⟨rfl, _, SqL.of h⟩
theorem s_app {i : Nat} {f : VF} (h : PS X st (tDrop (tBM g.K "list" rAppend (tVar i) (tCons (eV g f) tNil)))) : PS X st (sV g W (appT i f)) := PS_mono h fun De σ H ⟨c, Q, Γ, Hb, ow, t, S, F, L⟩ => by
  obtain ⟨m, ds, e0, hm, d, e1, hl, q⟩ := ownT_get t
  obtain ⟨v, z1, a, vs, rfl, o, h1, h2⟩ := S.slots i _ e0
  refine ⟨_, z1, tyV_lst h1, Γ, Hb, ow, d, e1, S, fun u Hb1 H1 g1 r => ?_⟩
  have h1' := g1.h _ _ h1
  refine ⟨a, vs, u, rfl, rfl, h1', lt_line (by rw [h2.len]; exact hl), ?_⟩
  exact L.nx _ σ Hb1 _ ow q ((S.grow g1).change o z1 ⟨a, _, rfl, o, upd_same, (h2.same g1.hb).append (Reps.one r)⟩) ((F.grow g1).change o e0 (md_cases hm) rfl)
/-- x[k] = e -/
def setT (i : Nat) (fi fv : VF) : VT := fun Q Γ => ownT i (fun m ds => ∃ d k j, fv Γ = some d ∧ fi Γ = some (.int k) ∧ ixN ds.length k = some j ∧ Q (.nx (Γ.set i (some (.own m (ds.set j d)))))) Γ
theorem s_set {i : Nat} {fi fv : VF} (h : PS X st (tAsg (eV g fv) (gSub (tVar i) (eV g fi) rSetL))) : PS X st (sV g W (setT i fi fv)) := PS_mono h fun De σ H ⟨c, Q, Γ, Hb, ow, t, S, F, L⟩ => by
  obtain ⟨m, ds, e0, hm, d, k, j, e1, e2, e3, q⟩ := ownT_get t
  obtain ⟨v, z1, a, vs, rfl, o, h1, h2⟩ := S.slots i _ e0
  refine ⟨Γ, Hb, ow, d, e1, S, fun u Hb1 H1 g1 r => ⟨_, z1, Γ, Hb1, ow, _, e2, S.grow g1, fun w Hb2 H2 g2 r2 => ?_⟩⟩
  have h1' := g2.h _ _ (g1.h _ _ h1)
  refine ⟨a, vs, k, j, rfl, rep_int.mp r2, h1', by rw [h2.len]; exact e3, ?_⟩
  have g12 := g1.trans g2
  exact L.nx _ σ Hb2 _ ow q ((S.grow g12).change o z1 ⟨a, _, rfl, o, upd_same, (h2.same g12.hb).set (Rep.same g2.hb r)⟩) ((F.grow g12).change o e0 (md_cases hm) rfl)
def dicT (i : Nat) (K : Md → List Int → Prop) (Γ : En) : Prop := match Γ[i]? with
  | some (some (.odic m ds)) => m ≠ .ro ∧ K m ds
  | _ => False
theorem dicT_get {i : Nat} {K : Md → List Int → Prop} {Γ : En} (h : dicT i K Γ) : ∃ m ds, Γ[i]? = some (some (.odic m ds)) ∧ m ≠ .ro ∧ K m ds := by
  unfold dicT at h
  split at h
  · exact ⟨_, _, by assumption, h.1, h.2⟩
  · exact h.elim
def putI (ks : List Int) (n : Int) : List Int := if n ∈ ks then ks else ks ++ [n]
theorem put_dk (n : Int) (ks : List Int) : putK (dk ks) (Sum.inl n) (.bl true) = dk (putI ks n) := by
  unfold putI
  by_cases h : n ∈ ks
  · rw [if_pos h]
    unfold putK
    have e : ((dk ks).any fun kv => decide (kv.1 = (Sum.inl n : Key))) = true := by
      rw [valV_any, val_dk, if_pos h]; rfl
    rw [if_pos e]
    unfold dk
    rw [List.map_map]
    apply List.map_congr_left
    intro k _
    show (if (Sum.inl k : Key) = Sum.inl n then ((Sum.inl k : Key), V.bl true) else (Sum.inl k, V.bl true)) = (Sum.inl k, V.bl true)
    split <;> rfl
  · rw [if_neg h, putK_new _ (by rw [val_dk, if_neg h])]
    simp [dk]
def dputT (i : Nat) (fk : VF) : VT := fun Q Γ => dicT i (fun m ks => ∃ k, fk Γ = some (.int k) ∧ ks.length ≤ 1000000 ∧ Q (.nx (Γ.set i (some (.odic m (putI ks k)))))) Γ
theorem s_dput {i : Nat} {fk fv : VF} (hv : fv = vC (.bl true)) (h : PS X st (sDPut (tVar i) (eV g fk) (eV g fv))) : PS X st (sV g W (dputT i fk)) := PS_mono h fun De σ H ⟨c, Q, Γ, Hb, ow, t, S, F, L⟩ => by
  obtain ⟨m, ks, e0, hm, k, e1, hl, q⟩ := dicT_get t
  obtain ⟨v, z1, a, rfl, o, h1⟩ := S.slots i _ e0
  refine ⟨Γ, Hb, ow, .bl true, by rw [hv]; rfl, S, fun u Hb1 H1 g1 r => ⟨_, z1, Γ, Hb1, ow, _, e1, S.grow g1, fun w Hb2 H2 g2 r2 => ?_⟩⟩
  have h1' := g2.h _ _ (g1.h _ _ h1)
  have g12 := g1.trans g2
  cases rep_int.mp r2
  cases rep_bl.mp r
  refine ⟨a, _, rfl, DPut.k (k := Sum.inl k) h1' (lt_line (by simpa [dk] using hl)), ?_⟩
  rw [put_dk]
  exact L.nx _ σ Hb2 _ ow q ((S.grow g12).change o z1 ⟨a, rfl, o, upd_same⟩) ((F.grow g12).change o e0 (md_cases hm) rfl)
theorem drop_dk (n : Int) (ks : List Int) : dropK (dk ks) (Sum.inl n) = dk (ks.filter fun k => decide (k ≠ n)) := by
  unfold dropK dk
  induction ks with
  | nil => rfl
  | cons k ks ih =>
    rw [List.map_cons, List.filter_cons, List.filter_cons, ih]
    by_cases e : k = n
    · subst e; simp
    · have e' : ¬ (Sum.inl k : Key) = Sum.inl n := fun q => e (Sum.inl.inj q)
      simp [e, e']
def dpopT (i : Nat) (fk : VF) : VT := fun Q Γ => dicT i (fun m ks => ∃ k, fk Γ = some (.int k) ∧ k ∈ ks ∧ Q (.nx (Γ.set i (some (.odic m (ks.filter fun x => decide (x ≠ k))))))) Γ
theorem s_dpop {i : Nat} {fk : VF} (h : PS X st (tDrop (tDPop1 (tVar i) (eV g fk)))) : PS X st (sV g W (dpopT i fk)) := PS_mono h fun De σ H ⟨c, Q, Γ, Hb, ow, t, S, F, L⟩ => by
  obtain ⟨m, ks, e0, hm, k, e1, hk, q⟩ := dicT_get t
  obtain ⟨v, z1, a, rfl, o, h1⟩ := S.slots i _ e0
  refine ⟨_, z1, a, rfl, .inl ⟨_, .inl h1⟩, Γ, Hb, ow, _, e1, S, fun w Hb1 H1 g1 r => ?_⟩
  have h1' := g1.h _ _ h1
  refine ⟨dk ks, Sum.inl k, .bl true, h1', rep_int.mp r, by rw [val_dk, if_pos hk], ?_⟩
  rw [drop_dk]
  exact L.nx _ σ Hb1 _ ow q ((S.grow g1).change o z1 ⟨a, rfl, o, upd_same⟩) ((F.grow g1).change o e0 (md_cases hm) rfl)
end
end Z

set_option maxRecDepth 100000
namespace Z
open PySem PySem.Spec PyProof.Rows L2

/-! ### a def by its body's values -/
def En0 (ss : List Sl) (n : Nat) : En := ss.map some ++ List.replicate (n - ss.length) none
def postP (r : Rs) : Out → Prop
  | .rt s _ => r = .inl s
  | .nx _ => r = .inl (.val .non)
  | .ex x _ => r = .inr x
  | _ => False
section
variable {P : Program} {w : World} {g : Glo} {mg : Str → Option Value} {base : Heap}
theorem start_get {ss : List Sl} {vs : List V} {n i : Nat} {s : Sl} (N : List Str) (h : (En0 ss n)[i]? = some (some s)) : (ss.map some)[i]? = some (some s) := by
  unfold En0 at h
  by_cases q : i < ss.length
  · rw [List.getElem?_append_left (by simpa using q)] at h
    exact h
  · rw [List.getElem?_append_right (by simpa using Nat.le_of_not_lt q)] at h
    rw [List.getElem?_replicate] at h
    split at h
    · cases h
    · cases h
theorem start_v {N : List Str} {vs : List V} {i : Nat} {v : V} (h : (vs.map some)[i]? = some (some v)) : (L2.start N vs)[i]? = some (some v) := by
  unfold L2.start
  have hi := (List.getElem?_eq_some_iff.mp h).1
  rw [List.getElem?_append_left hi]
  exact h
theorem start_len {N : List Str} {vs : List V} (h : vs.length ≤ N.length) : (L2.start N vs).length = N.length := by
  unfold L2.start
  simp
  omega
theorem Sat.start {ss : List Sl} {vs : List V} {N : List Str} {Hb H : Hp} {ow : Addr → Option Nat} (S : Sat g (ss.map some) (vs.map some) Hb H ow) (hl : vs.length ≤ N.length) : Sat g (En0 ss N.length) (L2.start N vs) Hb H ow :=
  ⟨S.same, S.ows, fun i s e => by
    obtain ⟨v, q1, q2⟩ := S.slots i s (start_get (vs := vs) N e)
    exact ⟨v, start_v q1, q2⟩, by
    have h1 := S.len
    simp only [List.length_map] at h1
    rw [start_len hl]
    unfold En0
    simp
    omega⟩
theorem ro_md {s : Sl} (h : roS s = s) : mdS s = none ∨ mdS s = some .ro := by
  cases s with
  | val d => exact .inl rfl
  | own m ds => injection h with h; subst h; exact .inr rfl
  | odic m ds => injection h with h; subst h; exact .inr rfl
  | net m a b => injection h with h; subst h; exact .inr rfl
/-- the entry's frame of a def that changes nothing -/
theorem Frm.entry {ss : List Sl} {vs : List V} {N : List Str} {Hb H : Hp} {ow : Addr → Option Nat} (sm : Same Hb H) (ro : ∀ s ∈ ss, roS s = s) (hl : vs.length ≤ N.length) :
    Frm ⟨Hb, H, fun _ => none, vs, fun _ => none⟩ (En0 ss N.length) (L2.start N vs) Hb H ow := by
  have key : ∀ {i s}, (En0 ss N.length)[i]? = some (some s) → mdS s = none ∨ mdS s = some .ro := fun {i s} e => by
    have q := start_get (vs := vs) N e
    rw [List.getElem?_map] at q
    obtain ⟨t, z1, z2⟩ := Option.map_eq_some_iff.mp q
    cases z2
    exact ro_md (ro _ (List.mem_of_getElem? z1))
  refine ⟨Same.refl _, fun a o e _ => e, fun a e => e, fun a e => .inl e, fun a i s o e => ?_, fun i s e m => ?_, fun a o e => (nomatch e), fun a i s o e m => rfl⟩
  · rcases key e with q | q <;> rw [q] <;> exact ⟨fun z => (nomatch z), fun z => (nomatch z)⟩
  · rcases key e with q | q <;> rw [q] at m <;> cases m
theorem Frm.toGrow {vs : List V} {Hb H Hb' H' : Hp} {Γ : En} {σ : SS} {ow : Addr → Option Nat} (F : Frm ⟨Hb, H, fun _ => none, vs, fun _ => none⟩ Γ σ Hb' H' ow) (sm : Same Hb' H') : Grow Hb H Hb' H' :=
  ⟨F.hb, fun a o e => F.h a o e rfl, sm, F.new⟩
theorem body_read {F : FN} {np : Nat} {N : List Str} {T : VT} {vs : List V} {H : Hp} {Q : VK} {E : XK} (hnp : np ≤ N.length) (hv : ∀ ss r, ss.length = np → F ss = some r → T (postP r) (En0 ss N.length)) (h : spP g np F vs H Q E) :
    sV g (fun cls d _ H => E cls d H) T { nx := fun _ H' => Q .non H', rt := Q } (L2.start N vs) H := by
  obtain ⟨hl, ss, r, Hb, ow, e1, hs, ro, S, k⟩ := h
  refine ⟨⟨Hb, H, fun _ => none, vs, fun _ => none⟩, postP r, En0 ss N.length, Hb, ow, hv ss r hs e1, S.start (by omega), Frm.entry S.same ro (by omega), ?_⟩
  refine ⟨fun Γ σ Hb' H' ow' q S' F' => ?_, fun _ _ _ _ _ q => q.elim, fun _ _ _ _ _ q => q.elim, fun s Γ σ v Hb' H' ow' q S' F' rr => ?_, fun x Γ σ Hb' H' ow' q S' F' => ?_⟩
  · have q : r = .inl (.val .non) := q
    subst q
    exact k _ Hb' H' (F'.toGrow S'.same) (show Rep g.K Hb' .non .non from rep_non.mpr rfl)
  · have q : r = .inl s := q
    subst q
    exact k _ Hb' H' (F'.toGrow S'.same) rr
  · have q : r = .inr x := q
    subst q
    exact k Hb' H' (F'.toGrow S'.same)
theorem spP_len {n : Nat} {F : FN} {vs : List V} {H : Hp} {Q : VK} {E : XK} (h : spP g n F vs H Q E) : vs.length = n := h.1
/-- a def that may raise -/
theorem ok_fnX {F : FN} {T : VT} {x qual : Str} {st : Stmt} {f : Addr} {fd : FuncData} {N ps : List Str} {k : Nat} (Fn : Fun g.K x qual st f fd) (S : FnScope N ps (defScope st)) (hN : ps.length ≤ N.length)
    (hb : ∀ (cdv : Value) (A : Around) (outer : List Env) (s : Shared) (H : Hp) (E : XK), Room k (A.deeper (envOfC qual (defScope st) s.heap.objs.size f cdv)) →
      PSs (cxOf (L2.CX P w) P w g.K mg base N qual (defScope st) f cdv A outer s H E) (defBody st) (sV g (fun cls d _ H => E cls d H) T))
    (hv : ∀ ss r, ss.length = ps.length → F ss = some r → T (postP r) (En0 ss N.length)) : FnOk P w g.K mg base (L2.CX P w) (k + 1) f fd ps (spP g ps.length F) :=
  Fn.okX S (fun vs H Q E h => spP_len h) fun cdv A outer s H vs Q E hr h => ⟨_, hb cdv A outer s H E hr, body_read hN hv h⟩
/-- a def that never does -/
theorem ok_fn {F : FN} {T : VT} {x qual : Str} {st : Stmt} {f : Addr} {fd : FuncData} {N ps : List Str} {k : Nat} (Fn : Fun g.K x qual st f fd) (S : FnScope N ps (defScope st)) (hN : ps.length ≤ N.length)
    (hb : ∀ (cdv : Value) (A : Around) (outer : List Env) (s : Shared) (H : Hp) (E : XK), Room k (A.deeper (envOfC qual (defScope st) s.heap.objs.size f cdv)) →
      PSs (cxOf CX0 P w g.K mg base N qual (defScope st) f cdv A outer s H E).nox (defBody st) (sV g noW T))
    (hv : ∀ ss r, ss.length = ps.length → F ss = some r → T (postP r) (En0 ss N.length) ∧ ∃ s, r = .inl s) : FnOk P w g.K mg base CX0 (k + 1) f fd ps (spP g ps.length F) :=
  Fn.ok S (fun vs H Q E h => spP_len h) fun cdv A outer s H vs Q E hr h => ⟨_, hb cdv A outer s H E hr, by
    have h' : spP g ps.length F vs H Q (fun _ _ _ => False) := by
      obtain ⟨hl, ss, r, Hb, ow, e1, hs, ro, S, k⟩ := h
      obtain ⟨_, s, rfl⟩ := hv ss r hs e1
      exact ⟨hl, ss, _, Hb, ow, e1, hs, ro, S, k⟩
    exact body_read (E := fun _ _ _ => False) hN (fun ss r hs e => (hv ss r hs e).1) h'⟩
end
end Z

set_option maxRecDepth 100000
namespace Z
open PySem PySem.Spec PyProof.Rows L2

/-! ### defs that change what they are handed -/
abbrev FM := List Sl → Option (Rs × List Sl)
structure Chg (M : Addr → Option Nat) (Hb H Hb' H' : Hp) : Prop where
  hb : Same Hb Hb'
  h : ∀ a o, H a = some o → M a = none → H' a = some o
  th : ∀ a, H a ≠ none → H' a ≠ none
  same : Same Hb' H'
  new : ∀ a, Hb' a ≠ none → Hb a ≠ none ∨ H a = none
def MsK (g : Glo) (ow : Addr → Option Nat) (vs : List V) (Hb H : Hp) (Q : VK) (E : XK) (ss' : List Sl) : Rs → Prop
  | .inl s => ∀ v Hb' H', Chg ow Hb H Hb' H' → Sat g (ss'.map some) (vs.map some) Hb' H' ow → rO g H Hb' H' v s → Q v H'
  | .inr x => ∀ Hb' H', Chg ow Hb H Hb' H' → Sat g (ss'.map some) (vs.map some) Hb' H' ow → E (.ref (g.cls x)) none H'
def spM (g : Glo) (n : Nat) (F : FM) : Sp := fun vs H Q E => vs.length = n ∧ ∃ ss r ss' Hb ow, F ss = some (r, ss') ∧ ss.length = n ∧ (∀ s ∈ ss, mdS s = none ∨ mdS s = some .mut) ∧ Sat g (ss.map some) (vs.map some) Hb H ow ∧ MsK g ow vs Hb H Q E ss' r
def mutS : Sl → Sl
  | .val d => .val d
  | .own _ ds => .own .mut ds
  | .odic _ ks => .odic .mut ks
  | .net _ size ps => .net .mut size ps
def reM (m : Option Md) (s : Sl) : Sl := match m with
  | none => s
  | some m => match s with
    | .val d => .val d
    | .own _ ds => .own m ds
    | .odic _ ks => .odic m ks
    | .net _ size ps => .net m size ps
def amSl (Γ : En) : Ar → Option Sl
  | .v d => some (.val d)
  | .s i => match Γ[i]? with
    | some (some s) => if mdS s = some .loc ∨ mdS s = some .mut then some (mutS s) else none
    | _ => none
def amSls (Γ : En) : List Ar → Option (List Sl)
  | [] => some []
  | a :: as => (amSl Γ a).bind fun s => (amSls Γ as).bind fun ss => some (s :: ss)
/-- the slots behind the call -/
def putGo (as : List Ar) (ss' : List Sl) : Nat → En → En
  | _, [] => []
  | j, o :: Γ => (match o with
    | some s => (match ixA as j with
      | some k => (match ss'[k]? with
        | some s' => some (reM (mdS s) s')
        | none => none)
      | none => some s)
    | none => none) :: putGo as ss' (j + 1) Γ
section
variable {X : Cx} {g : Glo} {c e : Expr} {es : List Expr} {st : Stmt} {W : WX}
theorem amSl_s {Γ : En} {i : Nat} {s : Sl} (h : amSl Γ (.s i) = some s) : ∃ s0, Γ[i]? = some (some s0) ∧ (mdS s0 = some .loc ∨ mdS s0 = some .mut) ∧ s = mutS s0 := by
  simp only [amSl] at h
  split at h
  · split at h
    · exact ⟨_, by assumption, by assumption, (Option.some.inj h).symm⟩
    · cases h
  · cases h
theorem amSls_get {Γ : En} : ∀ {as : List Ar} {ss : List Sl} {k : Nat} {s : Sl}, amSls Γ as = some ss → ss[k]? = some s → ∃ a, as[k]? = some a ∧ amSl Γ a = some s
  | [], _, _, _, h, e => by cases h; simp at e
  | b :: as, _, 0, _, h, e => by
    obtain ⟨s0, e1, h⟩ := Option.bind_eq_some_iff.mp h
    obtain ⟨ss0, e2, h⟩ := Option.bind_eq_some_iff.mp h
    cases h
    simp at e
    subst e
    exact ⟨b, by simp, e1⟩
  | b :: as, _, k + 1, _, h, e => by
    obtain ⟨s0, e1, h⟩ := Option.bind_eq_some_iff.mp h
    obtain ⟨ss0, e2, h⟩ := Option.bind_eq_some_iff.mp h
    cases h
    obtain ⟨a, q1, q2⟩ := amSls_get (k := k) e2 (by simpa using e)
    exact ⟨a, by simpa using q1, q2⟩
theorem amSls_at {Γ : En} : ∀ {as : List Ar} {ss : List Sl} {k : Nat} {a : Ar}, amSls Γ as = some ss → as[k]? = some a → ∃ s, ss[k]? = some s ∧ amSl Γ a = some s
  | [], _, _, _, h, e => by simp at e
  | b :: as, _, 0, _, h, e => by
    obtain ⟨s0, e1, h⟩ := Option.bind_eq_some_iff.mp h
    obtain ⟨ss0, e2, h⟩ := Option.bind_eq_some_iff.mp h
    cases h
    simp at e
    subst e
    exact ⟨s0, by simp, e1⟩
  | b :: as, _, k + 1, _, h, e => by
    obtain ⟨s0, e1, h⟩ := Option.bind_eq_some_iff.mp h
    obtain ⟨ss0, e2, h⟩ := Option.bind_eq_some_iff.mp h
    cases h
    obtain ⟨s, q1, q2⟩ := amSls_at (k := k) e2 (by simpa using e)
    exact ⟨s, by simpa using q1, q2⟩
theorem amSls_len {Γ : En} : ∀ {as : List Ar} {ss : List Sl}, amSls Γ as = some ss → ss.length = as.length
  | [], _, h => by cases h; rfl
  | b :: as, _, h => by
    obtain ⟨s0, e1, h⟩ := Option.bind_eq_some_iff.mp h
    obtain ⟨ss0, e2, h⟩ := Option.bind_eq_some_iff.mp h
    cases h
    simp [amSls_len e2]
theorem mutS_md (s : Sl) : mdS (mutS s) = none ∨ mdS (mutS s) = some .mut := by cases s <;> simp [mutS, mdS]
theorem amSls_mut {Γ : En} {as : List Ar} {ss : List Sl} (h : amSls Γ as = some ss) : ∀ s ∈ ss, mdS s = none ∨ mdS s = some .mut := fun s hs => by
  obtain ⟨k, hk⟩ := List.getElem?_of_mem hs
  obtain ⟨a, _, q⟩ := amSls_get h hk
  cases a with
  | v d => cases q; exact .inl rfl
  | s i =>
    obtain ⟨s0, _, _, rfl⟩ := amSl_s q
    exact mutS_md s0
theorem ixA_inv : ∀ {as : List Ar} {k i : Nat}, ixA as i = some k → as[k]? = some (.s i)
  | [], _, _, e => by cases e
  | .v d :: as, k, i, e => by
    obtain ⟨k', e1, rfl⟩ := Option.map_eq_some_iff.mp (show (ixA as i).map (· + 1) = some k from e)
    simpa using ixA_inv e1
  | .s j :: as, k, i, e => by
    have e2 : (if j = i then some 0 else (ixA as i).map (· + 1)) = some k := e
    by_cases h : j = i
    · rw [if_pos h] at e2
      subst h
      have e2 := Option.some.inj e2
      subst e2
      rfl
    · rw [if_neg h] at e2
      obtain ⟨k', e1, rfl⟩ := Option.map_eq_some_iff.mp e2
      simpa using ixA_inv e1
theorem SlOk.md {Hb H : Hp} {ow : Addr → Option Nat} {i : Nat} {v : V} {s s' : Sl} (h : SlOk g Hb H ow i v s) (e : mutS s = mutS s') : SlOk g Hb H ow i v s' := by
  cases s <;> cases s' <;> simp only [mutS, Sl.val.injEq, Sl.own.injEq, Sl.odic.injEq, Sl.net.injEq, reduceCtorEq, true_and] at e
  · subst e; exact h
  · subst e; exact h
  · subst e; exact h
  · obtain ⟨rfl, rfl⟩ := e; exact h
theorem mutS_reM (m : Option Md) (s : Sl) : mutS (reM m s) = mutS s := by
  cases m <;> cases s <;> rfl
theorem mutS_mutS (s : Sl) : mutS (mutS s) = mutS s := by cases s <;> rfl
theorem Sat.margs {Γ : En} {σ : SS} {Hb H : Hp} {ow : Addr → Option Nat} {as : List Ar} {ss : List Sl} {vs : List V} (S : Sat g Γ σ Hb H ow) (h1 : amSls Γ as = some ss) (h2 : ArsOk g.K Hb σ vs as) (nd : ndA as = true) :
    Sat g (ss.map some) (vs.map some) Hb H (owA ow as) := by
  refine ⟨S.same, fun a k e => ?_, fun k s e => ?_, by rw [List.length_map, List.length_map, amSls_len h1, arsOk_len h2]⟩
  · unfold owA at e
    split at e
    · rename_i i ei
      exact S.ows a i ei
    · cases e
  · rw [List.getElem?_map] at e
    obtain ⟨s', e1, e2⟩ := Option.map_eq_some_iff.mp e
    cases e2
    obtain ⟨a, q1, q2⟩ := amSls_get h1 e1
    obtain ⟨v, q3, q4⟩ := arsOk_get h2 q1
    refine ⟨v, by rw [List.getElem?_map, q3]; rfl, ?_⟩
    cases a with
    | v d => cases q2; exact q4
    | s i =>
      have ix := ixA_at nd q1
      obtain ⟨s0, e0, _, rfl⟩ := amSl_s q2
      obtain ⟨v', z1, z2⟩ := S.slots i s0 e0
      have z3 : σ[i]? = some (some v) := q4
      rw [z1] at z3
      cases z3
      refine SlOk.md (s := s0) ?_ (mutS_mutS s0).symm
      cases s0 with
      | val d => exact z2
      | own m ds =>
        obtain ⟨a, us, rfl, o1, o2⟩ := z2
        exact ⟨a, us, rfl, by rw [owA_of o1]; exact ix, o2⟩
      | odic m ds =>
        obtain ⟨a, rfl, o1, o2⟩ := z2
        exact ⟨a, rfl, by rw [owA_of o1]; exact ix, o2⟩
      | net m size ps =>
        obtain ⟨a, dx, l, us, rfl, o1, o2, o3⟩ := z2
        exact ⟨a, dx, l, us, rfl, by rw [owA_of o1]; exact ix, by rw [owA_of o2]; exact ix, o3⟩
def putF' (as : List Ar) (ss' : List Sl) (j : Nat) : Option Sl → Option Sl
  | some s => (match ixA as j with
    | some k => (match ss'[k]? with
      | some s' => some (reM (mdS s) s')
      | none => none)
    | none => some s)
  | none => none
theorem putGo_get {as : List Ar} {ss' : List Sl} : ∀ {Γ : En} {j i : Nat}, (putGo as ss' j Γ)[i]? = (Γ[i]?).map (putF' as ss' (j + i))
  | [], _, _ => by simp [putGo]
  | o :: Γ, j, 0 => by simp [putGo, putF']
  | o :: Γ, j, i + 1 => by
    have := putGo_get (as := as) (ss' := ss') (Γ := Γ) (j := j + 1) (i := i)
    simp only [putGo, List.getElem?_cons_succ, this]
    rw [show j + 1 + i = j + (i + 1) by omega]
theorem putGo_len {as : List Ar} {ss' : List Sl} : ∀ {Γ : En} {j : Nat}, (putGo as ss' j Γ).length = Γ.length
  | [], _ => rfl
  | o :: Γ, j => by simp [putGo, putGo_len (Γ := Γ)]
def putA (Γ : En) (as : List Ar) (ss' : List Sl) : En := putGo as ss' 0 Γ
theorem putA_get {as : List Ar} {ss' : List Sl} {Γ : En} {i : Nat} {t : Sl} (h : (putA Γ as ss')[i]? = some (some t)) : ∃ s, Γ[i]? = some (some s) ∧ ((ixA as i = none ∧ t = s) ∨ ∃ k s', ixA as i = some k ∧ ss'[k]? = some s' ∧ t = reM (mdS s) s') := by
  unfold putA at h
  rw [putGo_get, Nat.zero_add] at h
  obtain ⟨o, e1, e2⟩ := Option.map_eq_some_iff.mp h
  cases o with
  | none => cases e2
  | some s =>
    refine ⟨s, e1, ?_⟩
    simp only [putF'] at e2
    split at e2
    · rename_i k ek
      split at e2
      · rename_i s' es
        exact .inr ⟨k, s', ek, es, (Option.some.inj e2).symm⟩
      · cases e2
    · exact .inl ⟨by assumption, (Option.some.inj e2).symm⟩
theorem Sat.after {Γ : En} {σ : SS} {Hb H Hb' H' : Hp} {ow : Addr → Option Nat} {as : List Ar} {ss' : List Sl} {vs : List V} (S : Sat g Γ σ Hb H ow) (ch : Chg (owA ow as) Hb H Hb' H') (S' : Sat g (ss'.map some) (vs.map some) Hb' H' (owA ow as)) (h2 : ArsOk g.K Hb σ vs as) :
    Sat g (putA Γ as ss') σ Hb' H' ow := by
  refine ⟨ch.same, fun a i e => ?_, fun i t e => ?_, by unfold putA; rw [putGo_len, S.len]⟩
  · obtain ⟨h1, h3⟩ := S.ows a i e
    refine ⟨?_, ch.th a h3⟩
    cases z : Hb' a with
    | none => rfl
    | some o =>
      rcases ch.new a (by rw [z]; simp) with q | q
      · exact absurd h1 q
      · exact absurd q h3
  · obtain ⟨s, e1, ⟨q1, rfl⟩ | ⟨k, s', q1, q2, rfl⟩⟩ := putA_get e
    · obtain ⟨v, z1, z2⟩ := S.slots i _ e1
      refine ⟨v, z1, ?_⟩
      have out : ∀ a, ow a = some i → owA ow as a = none := fun a o => by rw [owA_of o]; exact q1
      cases t with
      | val d => exact Rep.same ch.hb z2
      | own m ds => obtain ⟨a, us, y1, y2, y3, y4⟩ := z2; exact ⟨a, us, y1, y2, ch.h a _ y3 (out a y2), y4.same ch.hb⟩
      | odic m ds => obtain ⟨a, y1, y2, y3⟩ := z2; exact ⟨a, y1, y2, ch.h a _ y3 (out a y2)⟩
      | net m size ps => obtain ⟨a, dx, l, us, y1, y2, y3, y4, y5, y6⟩ := z2; exact ⟨a, dx, l, us, y1, y2, y3, ch.h a _ y4 (out a y2), ch.h l _ y5 (out l y3), y6.same ch.hb⟩
    · obtain ⟨v, z1, z2⟩ := S'.slots k s' (by rw [List.getElem?_map, q2]; rfl)
      have ak := ixA_inv q1
      obtain ⟨v', y1, y2⟩ := arsOk_get h2 ak
      rw [List.getElem?_map, y1] at z1
      cases z1
      refine ⟨_, y2, SlOk.md (s := s') ?_ (mutS_reM _ _).symm⟩
      have back : ∀ a, owA ow as a = some k → ow a = some i := fun a o => by
        unfold owA at o
        split at o
        · rename_i j ej
          have := ixA_inv o
          rw [ak] at this
          cases this
          exact ej
        · cases o
      cases s' with
      | val d => exact z2
      | own m ds => obtain ⟨a, us, y1, y2, q⟩ := z2; exact ⟨a, us, y1, back a y2, q⟩
      | odic m ds => obtain ⟨a, y1, y2, q⟩ := z2; exact ⟨a, y1, back a y2, q⟩
      | net m size ps => obtain ⟨a, dx, l, us, y1, y2, y3, q⟩ := z2; exact ⟨a, dx, l, us, y1, back a y2, back l y3, q⟩
theorem mdS_reM {m : Option Md} {s : Sl} (h : mdS (reM m s) ≠ none) : m = none ∧ mdS (reM m s) = mdS s ∨ mdS (reM m s) = m := by
  cases m with
  | none => exact .inl ⟨rfl, rfl⟩
  | some m => cases s <;> simp_all [reM, mdS]
/-- every slot that is handed on may be changed -/
theorem Frm.after {Γ : En} {σ : SS} {Hb H Hb' H' : Hp} {ow : Addr → Option Nat} {c : Ct} {as : List Ar} {ss ss' : List Sl} (F : Frm c Γ σ Hb H ow) (ch : Chg (owA ow as) Hb H Hb' H') (h1 : amSls Γ as = some ss) : Frm c (putA Γ as ss') σ Hb' H' ow := by
  have mo : ∀ {i k s}, ixA as i = some k → Γ[i]? = some (some s) → mdS s = some .loc ∨ mdS s = some .mut := fun {i k s} q e => by
    obtain ⟨s1, _, z2⟩ := amSls_at h1 (ixA_inv q)
    obtain ⟨s0, y1, y2, _⟩ := amSl_s z2
    rw [e] at y1
    cases y1
    exact y2
  -- a slot's mode stands
  have md : ∀ {i t}, (putA Γ as ss')[i]? = some (some t) → ∃ s, Γ[i]? = some (some s) ∧ (mdS t = none ∨ mdS t = mdS s) := fun {i t} e => by
    obtain ⟨s, e1, ⟨q1, rfl⟩ | ⟨k, s', q1, q2, rfl⟩⟩ := putA_get e
    · exact ⟨_, e1, .inr rfl⟩
    · refine ⟨s, e1, ?_⟩
      have hm := mo q1 e1
      by_cases z : mdS (reM (mdS s) s') = none
      · exact .inl z
      · rcases mdS_reM z with ⟨y, _⟩ | y
        · rw [y] at hm; rcases hm with hm | hm <;> cases hm
        · exact .inr y
  -- what is owned by a slot that is handed on, may be changed by the entry's leave
  have leave : ∀ a, owA ow as a ≠ none → (c.H a = none ∨ c.mu a ≠ none) ∧ c.kp a = none := fun a h => by
    cases z : owA ow as a with
    | none => exact absurd z h
    | some k =>
      unfold owA at z
      split at z
      · rename_i i ei
        obtain ⟨s1, _, z2⟩ := amSls_at h1 (ixA_inv z)
        obtain ⟨s0, y1, y2, _⟩ := amSl_s z2
        refine ⟨?_, F.kpo a i s0 ei y1 y2⟩
        rcases y2 with y2 | y2
        · exact .inl ((F.md a i s0 ei y1).1 y2)
        · exact .inr (by rw [(F.md a i s0 ei y1).2 y2]; simp)
      · cases z
  have none_of : ∀ a, ¬ owA ow as a ≠ none → owA ow as a = none := fun a h => Decidable.not_not.mp h
  refine ⟨F.hb.trans ch.hb, fun a o e n => ch.h a o (F.h a o e n) (none_of a fun z => ?_), fun a e => ch.th a (F.th a e), fun a e => ?_, fun a i t o e => ?_, fun i t e ht => ?_, fun a o e => ch.h a o (F.keep a o e) (none_of a fun z => ?_), fun a i t o e ht => ?_⟩
  · rcases (leave a z).1 with q | q
    · rw [q] at e; cases e
    · exact q n
  · rcases ch.new a e with q | q
    · exact F.new a q
    · exact .inr (F.free q)
  · obtain ⟨s, e1, q⟩ := md e
    rcases q with q | q
    · rw [q]; exact ⟨fun z => (nomatch z), fun z => (nomatch z)⟩
    · rw [q]; exact F.md a i s o e1
  · obtain ⟨s, e1, q⟩ := md e
    rcases q with q | q
    · rw [q] at ht; cases ht
    · rw [q] at ht; exact F.pin i s e1 ht
  · rw [(leave a z).2] at e; cases e
  · obtain ⟨s, e1, q⟩ := md e
    rcases q with q | q
    · rw [q] at ht; rcases ht with ht | ht <;> cases ht
    · rw [q] at ht; exact F.kpo a i s o e1 ht
/-- a call that changes, as a statement; its result into the slot i -/
def dstT (dst : Option Nat) (s : Sl) (Γ : En) : En := match dst with
  | some i => Γ.set i (some (locS s))
  | none => Γ
def cmT (dst : Option Nat) (n : Nat) (F : FM) (fs : VA) : VT := fun Q Γ => ∃ as ss r ss', fs Γ = some as ∧ (ndA as = true ∧ as.length = n) ∧ amSls Γ as = some ss ∧ F ss = some (r, ss') ∧ rsT Q (putA Γ as ss') (fun s => Q (.nx (dstT dst s (putA Γ as ss')))) r
theorem chg_grow {M : Addr → Option Nat} {Hb H Hb1 H1 Hb2 H2 : Hp} (a : Grow Hb H Hb1 H1) (b : Chg M Hb1 H1 Hb2 H2) : Chg M Hb H Hb2 H2 :=
  ⟨a.hb.trans b.hb, fun x o e m => b.h x o (a.h _ _ e) m, fun x e => b.th x (ne_none_of_same a.h e), b.same, fun x e => (b.new x e).elim (fun q => a.new x q) fun q => .inr (a.h.free q)⟩
theorem cm_read {dst : Option Nat} {n : Nat} {F : FM} {De : Ends} {σ : SS} {H : Hp} {c : Ct} {Q : Out → Prop} {Γ : En} {Hb : Hp} {ow : Addr → Option Nat} {as : List Ar} {ss : List Sl} {r : Rs} {ss' : List Sl} {vs : List V} {Hb1 H1 : Hp} {K : V → Hp → Prop}
    (h2 : ndA as = true ∧ as.length = n) (h3 : amSls Γ as = some ss) (h4 : F ss = some (r, ss')) (q : rsT Q (putA Γ as ss') (fun s => Q (.nx (dstT dst s (putA Γ as ss')))) r) (S : Sat g Γ σ Hb H ow) (Fm : Frm c Γ σ Hb H ow) (L : Lk g c W Q De)
    (hK : ∀ v H', (match dst with | some i => De.nx (σ.set i (some v)) H' | none => De.nx σ H') → K v H') (g1 : Grow Hb H Hb1 H1) (q1 : ArsOk g.K Hb1 σ vs as) : spM g n F vs H1 K (WE W σ) := by
  refine ⟨by rw [arsOk_len q1]; exact h2.2, ss, r, ss', Hb1, owA ow as, h4, by rw [amSls_len h3]; exact h2.2, amSls_mut h3, (S.grow g1).margs h3 q1 h2.1, ?_⟩
  cases r with
  | inl s =>
    intro v Hb2 H2 ch S2 rr
    have SA := (S.grow g1).after ch S2 q1
    have FA := (Fm.grow g1).after (ss' := ss') ch h3
    refine hK v H2 ?_
    cases dst with
    | none => exact L.nx _ σ Hb2 H2 ow q SA FA
    | some i =>
      -- the result is new
      obtain ⟨ow', S', F'⟩ := setO2 SA FA (H := H1) (fun a j o => ((S.grow g1).ows a j o).2) (fun a o e => (Fm.grow g1).keep a o e) (fun a => (Fm.grow g1).free) rr
      exact L.nx _ _ Hb2 H2 ow' q S' F'
  | inr x =>
    intro Hb2 H2 ch S2
    exact L.ex x _ σ Hb2 H2 ow q ((S.grow g1).after ch S2 q1) ((Fm.grow g1).after (ss' := ss') ch h3)
end
end Z

set_option maxRecDepth 100000
namespace Z
open PySem PySem.Spec PyProof.Rows L2

/-- the handed slots at the end -/
def agr : List Sl → List Sl → En → Prop
  | [], [], _ => True
  | s :: ss, s' :: ss', o :: Γ => ((mdS s' = some .mut ∧ o = some s') ∨ (mdS s' = none ∧ s = s')) ∧ agr ss ss' Γ
  | _, _, _ => False
def postM (r : Rs) (ss ss' : List Sl) : Out → Prop
  | .rt s Γ => r = .inl s ∧ agr ss ss' Γ
  | .nx Γ => r = .inl (.val .non) ∧ agr ss ss' Γ
  | .ex x Γ => r = .inr x ∧ agr ss ss' Γ
  | _ => False
theorem agr_get : ∀ {ss ss' : List Sl} {Γ : En} {i : Nat} {s' : Sl}, agr ss ss' Γ → ss'[i]? = some s' → (mdS s' = some .mut ∧ Γ[i]? = some (some s')) ∨ (mdS s' = none ∧ ss[i]? = some s')
  | [], [], _, _, _, _, e => by simp at e
  | s :: ss, t :: ss', o :: Γ, 0, _, h, e => by
    simp at e
    subst e
    rcases h.1 with ⟨q1, rfl⟩ | ⟨q1, rfl⟩
    · exact .inl ⟨q1, rfl⟩
    · exact .inr ⟨q1, rfl⟩
  | s :: ss, t :: ss', o :: Γ, i + 1, _, h, e => by simpa using agr_get (i := i) h.2 (by simpa using e)
  | [], _ :: _, _, _, _, h, _ => h.elim
  | _ :: _, [], _, _, _, h, _ => h.elim
  | _ :: _, _ :: _, [], _, _, h, _ => h.elim
theorem agr_len : ∀ {ss ss' : List Sl} {Γ : En}, agr ss ss' Γ → ss'.length = ss.length
  | [], [], _, _ => rfl
  | s :: ss, t :: ss', o :: Γ, h => by simp [agr_len h.2]
  | [], _ :: _, _, h => h.elim
  | _ :: _, [], _, h => h.elim
  | _ :: _, _ :: _, [], h => h.elim
section
variable {P : Program} {w : World} {g : Glo} {mg : Str → Option Value} {base : Heap}
theorem Frm.entryM {ss : List Sl} {vs : List V} {N : List Str} {Hb H : Hp} {ow : Addr → Option Nat} (S : Sat g (ss.map some) (vs.map some) Hb H ow) (mo : ∀ s ∈ ss, mdS s = none ∨ mdS s = some .mut) :
    Frm ⟨Hb, H, ow, vs, fun _ => none⟩ (En0 ss N.length) (L2.start N vs) Hb H ow := by
  have key : ∀ {i s}, (En0 ss N.length)[i]? = some (some s) → (ss.map some)[i]? = some (some s) ∧ (mdS s = none ∨ mdS s = some .mut) := fun {i s} e => by
    have q := start_get (vs := vs) N e
    refine ⟨q, ?_⟩
    rw [List.getElem?_map] at q
    obtain ⟨t, z1, z2⟩ := Option.map_eq_some_iff.mp q
    cases z2
    exact mo _ (List.mem_of_getElem? z1)
  refine ⟨Same.refl _, fun a o e _ => e, fun a e => e, fun a e => .inl e, fun a i s o e => ⟨fun z => ?_, fun _ => o⟩, fun i s e m => ?_, fun a o e => (nomatch e), fun a i s o e m => rfl⟩
  · rcases (key e).2 with q | q <;> rw [q] at z <;> cases z
  · obtain ⟨v, q1, q2⟩ := S.slots i s (key e).1
    refine ⟨v, ?_, start_v q1⟩
    rw [List.getElem?_map] at q1
    obtain ⟨v', z1, z2⟩ := Option.map_eq_some_iff.mp q1
    cases z2
    exact z1
theorem exitM {ss ss' : List Sl} {vs : List V} {Hb H Hb' H' : Hp} {ow ow' : Addr → Option Nat} {Γ : En} {σ : SS} (S : Sat g (ss.map some) (vs.map some) Hb H ow) (F : Frm ⟨Hb, H, ow, vs, fun _ => none⟩ Γ σ Hb' H' ow') (S' : Sat g Γ σ Hb' H' ow') (ag : agr ss ss' Γ) :
    Chg ow Hb H Hb' H' ∧ Sat g (ss'.map some) (vs.map some) Hb' H' ow := by
  refine ⟨⟨F.hb, F.h, F.th, S'.same, F.new⟩, S'.same, fun a i e => ?_, fun i t e => ?_, ?_⟩
  · obtain ⟨h1, h2⟩ := S.ows a i e
    refine ⟨?_, F.th a h2⟩
    cases z : Hb' a with
    | none => rfl
    | some o =>
      rcases F.new a (by rw [z]; simp) with q | q
      · exact absurd h1 q
      · exact absurd q h2
  · rw [List.getElem?_map] at e
    obtain ⟨s', e1, e2⟩ := Option.map_eq_some_iff.mp e
    cases e2
    rcases agr_get ag e1 with ⟨q1, q2⟩ | ⟨q1, q2⟩
    · obtain ⟨v, z1, z2⟩ := S'.slots i _ q2
      obtain ⟨v', y1, y2⟩ := F.pin i _ q2 q1
      rw [z1] at y2
      cases y2
      have y1 : vs[i]? = some v := y1
      exact ⟨v, by rw [List.getElem?_map, y1]; rfl, z2.ow fun a o => (F.md a i _ o q2).2 q1⟩
    · obtain ⟨v, z1, z2⟩ := S.slots i _ (by rw [List.getElem?_map, q2]; rfl)
      refine ⟨v, z1, ?_⟩
      cases t with
      | val d => exact Rep.same F.hb z2
      | own m ds => cases q1
      | odic m ds => cases q1
      | net m a b => cases q1
  · have h1 := S.len
    simp only [List.length_map] at h1 ⊢
    rw [agr_len ag, h1]
theorem body_readM {F : FM} {np : Nat} {N : List Str} {T : VT} {vs : List V} {H : Hp} {Q : VK} {E : XK} (hnp : np ≤ N.length) (hv : ∀ ss r ss', ss.length = np → F ss = some (r, ss') → T (postM r ss ss') (En0 ss N.length)) (h : spM g np F vs H Q E) :
    sV g (fun cls d _ H => E cls d H) T { nx := fun _ H' => Q .non H', rt := Q } (L2.start N vs) H := by
  obtain ⟨hl, ss, r, ss', Hb, ow, e1, hs, mo, S, k⟩ := h
  refine ⟨⟨Hb, H, ow, vs, fun _ => none⟩, postM r ss ss', En0 ss N.length, Hb, ow, hv ss r ss' hs e1, S.start (by omega), Frm.entryM S mo, ?_⟩
  refine ⟨fun Γ σ Hb' H' ow' q S' F' => ?_, fun _ _ _ _ _ q => q.elim, fun _ _ _ _ _ q => q.elim, fun s Γ σ v Hb' H' ow' q S' F' rr => ?_, fun x Γ σ Hb' H' ow' q S' F' => ?_⟩
  · obtain ⟨rfl, ag⟩ := q
    obtain ⟨c1, c2⟩ := exitM S F' S' ag
    exact k _ Hb' H' c1 c2 (show Rep g.K Hb' .non .non from rep_non.mpr rfl)
  · obtain ⟨rfl, ag⟩ := q
    obtain ⟨c1, c2⟩ := exitM S F' S' ag
    exact k _ Hb' H' c1 c2 rr
  · obtain ⟨rfl, ag⟩ := q
    obtain ⟨c1, c2⟩ := exitM S F' S' ag
    exact k Hb' H' c1 c2
theorem ok_fnM {F : FM} {T : VT} {x qual : Str} {st : Stmt} {f : Addr} {fd : FuncData} {N ps : List Str} {k : Nat} (Fn : Fun g.K x qual st f fd) (S : FnScope N ps (defScope st)) (hN : ps.length ≤ N.length)
    (hb : ∀ (cdv : Value) (A : Around) (outer : List Env) (s : Shared) (H : Hp) (E : XK), Room k (A.deeper (envOfC qual (defScope st) s.heap.objs.size f cdv)) →
      PSs (cxOf (L2.CX P w) P w g.K mg base N qual (defScope st) f cdv A outer s H E) (defBody st) (sV g (fun cls d _ H => E cls d H) T))
    (hv : ∀ ss r ss', ss.length = ps.length → F ss = some (r, ss') → T (postM r ss ss') (En0 ss N.length)) : FnOk P w g.K mg base (L2.CX P w) (k + 1) f fd ps (spM g ps.length F) :=
  Fn.okX S (fun vs H Q E h => h.1) fun cdv A outer s H vs Q E hr h => ⟨_, hb cdv A outer s H E hr, body_readM hN hv h⟩

/-! ### what a caller knows of a def -/
structure Cal (P : Program) (w : World) (g : Glo) (mg : Str → Option Value) (base : Heap) (CX : CXT) (x : Str) (k : Nat) (sp : Sp) : Prop where
  ex : ∃ f fd ps, mg x = some (.ref f) ∧ PySem.W.keepIn g.K (.ref f) = true ∧ Binds g.K fd ps [] ∧ FnOk P w g.K mg base CX k f fd ps sp
structure Cam (P : Program) (w : World) (g : Glo) (mg : Str → Option Value) (base : Heap) (CX : CXT) (m : Str) (k : Nat) (sp : Sp) : Prop where
  ex : ∃ f fd ps, Meth g.K g.C m f ∧ Binds g.K fd ps [] ∧ FnOk P w g.K mg base CX k f fd ps sp
end
section
variable {X : Cx} {g : Glo} {c e : Expr} {es : List Expr} {st : Stmt} {W : WX} {CX : CXT} {x m : Str} {k n i : Nat} {F : FN} {G : FM} {fs : VA} {p pos apos : Pos}
theorem pe_cal {sp : Sp} {t : TA} (C : Cal X.prog X.w g X.mg X.base CX x k sp) (hK : X.K = g.K) (hr : Room k X.A) (hg : Gl X x) (hx : ∀ σ, PassesAt CX X σ (WE W σ)) (ha : PA X (e :: es) t) (hdb : (x == ("__debug__" : Str)) = false := by decide)
    (he : starEach (e :: es) X.env = (false, eval e X.env) :: starEach es X.env := by rfl) (hpl : (backTo pos (starEach es X.env)).any (·.1) = false := by rfl) : PE X (.Call (.Name x p) (e :: es) [] pos) (tCallS sp (WE W) t) := by
  obtain ⟨f, fd, ps, h1, h2, h3, h4⟩ := C.ex
  rw [← hK] at h2 h3 h4
  exact pe_callS h4 hr hg h1 h2 h3 hx ha hdb he hpl
theorem ex_cal (C : Cal X.prog X.w g X.mg X.base CX x k (spP g n F)) (hK : X.K = g.K) (hr : Room k X.A) (hg : Gl X x) (hx : ∀ σ, PassesAt CX X σ (WE W σ)) (ha : PA X (e :: es) (eAr g fs)) (hdb : (x == ("__debug__" : Str)) = false := by decide)
    (he : starEach (e :: es) X.env = (false, eval e X.env) :: starEach es X.env := by rfl) (hpl : (backTo pos (starEach es X.env)).any (·.1) = false := by rfl) : PE X (.Call (.Name x p) (e :: es) [] pos) (eX g W (xCall n F fs)) :=
  ex_call (pe_cal C hK hr hg hx ha hdb he hpl)
theorem pe_cam {sp : Sp} {t : TA} {pl : Sem Bool} {o : Expr} (C : Cam X.prog X.w g X.mg X.base CX m k sp) (hK : X.K = g.K) (cl : Cls g.K g.C) (hr : Room k X.A) (hx : ∀ σ, PassesAt CX X σ (WE W σ)) (ho : PE X o (tVar i)) (ha : PA X (e :: es) t)
    (hst : starEach (e :: es) X.env = (false, eval e X.env) :: starEach es X.env := by rfl) (hpl : (backTo pos (starEach es X.env)).any (·.1) = false := by rfl)
    (ht : eval (.Call (.Attribute o m apos) (e :: es) [] pos) X.env = (do let ov ← eval o X.env; standAt apos.atName; let (f, first) ← holding [ov] (getMethod ov m pl); callWith pos f first (backTo pos (starEach (e :: es) X.env)) (backToKw pos (keywordEach [] X.env))) := by rfl) :
    PE X (.Call (.Attribute o m apos) (e :: es) [] pos) (tMethE g.C m sp (WE W) (tVar i) t) := by
  obtain ⟨f, fd, ps, h1, h2, h3⟩ := C.ex
  rw [← hK] at h1 h2 h3 cl
  exact pe_methE ho cl h1 h3 hr h2 hx ha hst hpl ht
theorem pe_cam0 {sp : Sp} {pl : Sem Bool} {o : Expr} (C : Cam X.prog X.w g X.mg X.base CX m k sp) (hK : X.K = g.K) (cl : Cls g.K g.C) (hr : Room k X.A) (hx : ∀ σ, PassesAt CX X σ (WE W σ)) (ho : PE X o (tVar i))
    (ht : eval (.Call (.Attribute o m apos) [] [] pos) X.env = (do let ov ← eval o X.env; standAt apos.atName; let (f, first) ← holding [ov] (getMethod ov m pl); callWith pos f first (backTo pos (starEach [] X.env)) (backToKw pos (keywordEach [] X.env))) := by rfl) :
    PE X (.Call (.Attribute o m apos) [] [] pos) (tMethE g.C m sp (WE W) (tVar i) tNil) := by
  obtain ⟨f, fd, ps, h1, h2, h3⟩ := C.ex
  rw [← hK] at h1 h2 h3 cl
  exact pe_methE0 ho cl h1 h3 hr h2 hx ht
/-- a call that changes -/
theorem s_cm {n : Nat} (h : PS X st (tDrop (tCallS (spM g n G) (WE W) (eAr g fs)))) : PS X st (sV g W (cmT none n G fs)) := PS_mono h fun De σ H ⟨c, Q, Γ, Hb, ow, ⟨as, ss, r, ss', h1, h2, h3, h4, q⟩, S, Fm, L⟩ =>
  ⟨Γ, Hb, ow, as, h1, S, fun vs Hb1 H1 g1 q1 => cm_read (dst := none) (De := De) h2 h3 h4 q S Fm L (fun v H' z => z) g1 q1⟩
theorem s_cmA {n j : Nat} (h : PS X st (tAsg (tCallS (spM g n G) (WE W) (eAr g fs)) (gName j))) : PS X st (sV g W (cmT (some j) n G fs)) := PS_mono h fun De σ H ⟨c, Q, Γ, Hb, ow, ⟨as, ss, r, ss', h1, h2, h3, h4, q⟩, S, Fm, L⟩ =>
  ⟨Γ, Hb, ow, as, h1, S, fun vs Hb1 H1 g1 q1 => cm_read (dst := some j) (De := De) h2 h3 h4 q S Fm L (fun v H' z => z) g1 q1⟩
def nmT (dst : Option Nat) (n : Nat) (G : FM) (i : Nat) (fs : VA) : VT := fun Q Γ => netAt i Γ = true ∧ cmT dst n G (rS i fs) Q Γ
theorem nm_read {dst : Option Nat} {n : Nat} {De : Ends} {σ : SS} {H : Hp} {K : V → Hp → Prop} {c : Ct} {Q : Out → Prop} {Γ : En} {Hb : Hp} {ow : Addr → Option Nat} (nf : noFld m) (t : nmT dst n G i fs Q Γ) (S : Sat g Γ σ Hb H ow) (Fm : Frm c Γ σ Hb H ow) (L : Lk g c W Q De)
    (hK : ∀ v H', (match dst with | some i => De.nx (σ.set i (some v)) H' | none => De.nx σ H') → K v H') : tMethE g.C m (spM g n G) (WE W) (tVar i) (eAr g fs) σ H K := by
  obtain ⟨hn, as, ss, r, ss', h1, h2, h3, h4, q⟩ := t
  obtain ⟨md, size, ps, e0⟩ := netAt_get hn
  obtain ⟨v, z1, a, dx, l, us, rfl, o1, o2, y1, y2, y3⟩ := S.slots i _ e0
  obtain ⟨as0, e2, e1⟩ := Option.bind_eq_some_iff.mp h1
  rw [e0] at e1
  cases e1
  exact ⟨_, z1, a, dx, _, rfl, y1, nf _ _, Γ, Hb, ow, as0, e2, S, fun vs Hb1 H1 g1 q1 => cm_read (dst := dst) (De := De) h2 h3 h4 q S Fm L hK g1 ⟨_, vs, rfl, z1, q1⟩⟩
theorem s_nm {n : Nat} (nf : noFld m) (h : PS X st (tDrop (tMethE g.C m (spM g n G) (WE W) (tVar i) (eAr g fs)))) : PS X st (sV g W (nmT none n G i fs)) := PS_mono h fun De σ H ⟨c, Q, Γ, Hb, ow, t, S, Fm, L⟩ => nm_read (De := De) nf t S Fm L fun v H' z => z
theorem s_nmA {n j : Nat} (nf : noFld m) (h : PS X st (tAsg (tMethE g.C m (spM g n G) (WE W) (tVar i) (eAr g fs)) (gName j))) : PS X st (sV g W (nmT (some j) n G i fs)) := PS_mono h fun De σ H ⟨c, Q, Γ, Hb, ow, t, S, Fm, L⟩ => nm_read (De := De) nf t S Fm L fun v H' z => z

/-! ### a net's fields -/
structure NT (g : Glo) : Prop where
  cl : Cls g.K g.C
  nM : NoAttr g.K g.C "many"
  nL : NoAttr g.K g.C "laid"
theorem str_mm : (("many" : Str) == ("many" : Str)) = true := by decide +kernel
theorem str_lm : (("laid" : Str) == ("many" : Str)) = false := by decide +kernel
theorem str_ll : (("laid" : Str) == ("laid" : Str)) = true := by decide +kernel
theorem netF_many {size : Int} {l : Addr} : (netF size l).lookup ("many" : Str) = some (.int size) := by
  unfold netF
  rw [List.lookup_cons, str_mm]
theorem netF_laid {size : Int} {l : Addr} : (netF size l).lookup ("laid" : Str) = some (.ref l) := by
  unfold netF
  rw [List.lookup_cons, str_lm]
  show List.lookup ("laid" : Str) [(("laid" : Str), V.ref l)] = _
  rw [List.lookup_cons, str_ll]
def nSize (i : Nat) : VF := fun Γ => match Γ[i]? with
  | some (some (.net _ size _)) => some (.int size)
  | _ => none
def nPs (i : Nat) : VL := fun Γ => match Γ[i]? with
  | some (some (.net _ _ ps)) => some ps
  | _ => none
theorem ev_many (T : NT g) (h : PE X c (tFld g.K (tVar i) "many")) : PE X c (eV g (nSize i)) := PE_mono h fun σ H Q ⟨Γ, Hb, ow, d, ef, S, k⟩ => by
  unfold nSize at ef
  split at ef
  · rename_i m size ps e0
    cases ef
    obtain ⟨v, z1, a, dx, l, us, rfl, o1, o2, y1, y2, y3⟩ := S.slots i _ e0
    exact ⟨_, z1, a, _, dx, _, _, rfl, y1, T.cl, T.nM, netF_many, k _ Hb H (Grow.refl S.same) (rep_int.mpr rfl)⟩
  · cases ef
theorem el_laid (T : NT g) (h : PE X c (tFld g.K (tVar i) "laid")) : PE X c (eL g (nPs i)) := PE_mono h fun σ H Q ⟨Γ, Hb, ow, d, ef, S, k⟩ => by
  unfold nPs at ef
  split at ef
  · rename_i m size ps e0
    cases ef
    obtain ⟨v, z1, a, dx, l, us, rfl, o1, o2, y1, y2, y3⟩ := S.slots i _ e0
    exact ⟨_, z1, a, _, dx, _, _, rfl, y1, T.cl, T.nL, netF_laid, k _ Hb H (Grow.refl S.same) ⟨l, us, rfl, y2, y3⟩⟩
  · cases ef
def netT (i : Nat) (K : Md → Int → List D → Prop) (Γ : En) : Prop := match Γ[i]? with
  | some (some (.net m size ps)) => m ≠ .ro ∧ K m size ps
  | _ => False
theorem netT_get {i : Nat} {K : Md → Int → List D → Prop} {Γ : En} (h : netT i K Γ) : ∃ m size ps, Γ[i]? = some (some (.net m size ps)) ∧ m ≠ .ro ∧ K m size ps := by
  unfold netT at h
  split at h
  · exact ⟨_, _, _, by assumption, h.1, h.2⟩
  · exact h.elim
def appNT (i : Nat) (f : VF) : VT := fun Q Γ => netT i (fun m size ps => ∃ d, f Γ = some d ∧ ps.length ≤ 1000000 ∧ Q (.nx (Γ.set i (some (.net m size (ps ++ [d])))))) Γ
theorem s_appN {f : VF} (T : NT g) (h : PS X st (tDrop (tBM g.K "list" rAppend (tFld g.K (tVar i) "laid") (tCons (eV g f) tNil)))) : PS X st (sV g W (appNT i f)) := PS_mono h fun De σ H ⟨c, Q, Γ, Hb, ow, t, S, F, L⟩ => by
  obtain ⟨m, size, ps, e0, hm, d, e1, hl, q⟩ := netT_get t
  obtain ⟨v, z1, a, dx, l, us, rfl, o1, o2, y1, y2, y3⟩ := S.slots i _ e0
  refine ⟨_, z1, a, _, dx, _, _, rfl, y1, T.cl, T.nL, netF_laid, tyV_lst y2, Γ, Hb, ow, d, e1, S, fun u Hb1 H1 g1 r => ?_⟩
  have y2' := g1.h _ _ y2
  have y1' := g1.h _ _ y1
  refine ⟨l, us, u, rfl, rfl, y2', lt_line (by rw [y3.len]; exact hl), ?_⟩
  have nal : a ≠ l := ne_of y1' y2' (by intro z; cases z)
  exact L.nx _ σ Hb1 _ ow q ((S.grow g1).change o2 z1 ⟨a, dx, l, _, rfl, o1, o2, by rw [upd_ne nal]; exact y1', upd_same, (y3.same g1.hb).append (Reps.one r)⟩) ((F.grow g1).change o2 e0 (md_cases hm) rfl)
def setNT (i : Nat) (fi fv : VF) : VT := fun Q Γ => netT i (fun m size ps => ∃ d k j, fv Γ = some d ∧ fi Γ = some (.int k) ∧ ixN ps.length k = some j ∧ Q (.nx (Γ.set i (some (.net m size (ps.set j d)))))) Γ
theorem s_setN {fi fv : VF} (T : NT g) (h : PS X st (tAsg (eV g fv) (gSub (tFld g.K (tVar i) "laid") (eV g fi) rSetL))) : PS X st (sV g W (setNT i fi fv)) := PS_mono h fun De σ H ⟨c, Q, Γ, Hb, ow, t, S, F, L⟩ => by
  obtain ⟨m, size, ps, e0, hm, d, k, j, e1, e2, e3, q⟩ := netT_get t
  obtain ⟨v, z1, a, dx, l, us, rfl, o1, o2, y1, y2, y3⟩ := S.slots i _ e0
  refine ⟨Γ, Hb, ow, d, e1, S, fun u Hb1 H1 g1 r => ⟨_, z1, a, _, dx, _, _, rfl, g1.h _ _ y1, T.cl, T.nL, netF_laid, Γ, Hb1, ow, _, e2, S.grow g1, fun w Hb2 H2 g2 r2 => ?_⟩⟩
  have g12 := g1.trans g2
  have y2' := g12.h _ _ y2
  have y1' := g12.h _ _ y1
  refine ⟨l, us, k, j, rfl, rep_int.mp r2, y2', by rw [y3.len]; exact e3, ?_⟩
  have nal : a ≠ l := ne_of y1' y2' (by intro z; cases z)
  exact L.nx _ σ Hb2 _ ow q ((S.grow g12).change o2 z1 ⟨a, dx, l, _, rfl, o1, o2, by rw [upd_ne nal]; exact y1', upd_same, (y3.same g12.hb).set (Rep.same g2.hb r)⟩) ((F.grow g12).change o2 e0 (md_cases hm) rfl)

/-! ### a net is made -/
def spInit (g : Glo) : Sp := fun vs H Q E => ∃ (p dx : Addr) (size : Int), vs = [.ref p, .int size] ∧ H p = some (.ins g.C dx []) ∧ (¬ (1 ≤ size ∧ size ≤ 12) → E (.ref (g.cls .much)) none H) ∧
  (1 ≤ size ∧ size ≤ 12 → ∀ H' l, H l = none → (∀ b, b ≠ p → b ≠ l → H' b = H b) → H' p = some (.ins g.C dx (netF size l)) → H' l = some (.lst []) → Q .non H')
def newF (f : VF) : En → Option Rs := fun Γ => (f Γ).bind fun d => (toI d).bind fun s => some (if 1 ≤ s ∧ s ≤ 12 then .inl (.net .loc s []) else .inr .much)
def tMakeE (C : Addr) (sp : Sp) (E : L2.St → XK) (t : TA) : TE := fun σ H Q => t σ H fun vs H1 => ∀ x dx, H1 x = none → H1 dx = none → dx ≠ x → sp (.ref x :: vs) (upd (upd H1 dx (.own x)) x (.ins C dx [])) (fun v H2 => v = .non ∧ Q (.ref x) H2) (E σ)
theorem ex_new {f : VF} (h : PE X c (tMakeE g.C (spInit g) (WE W) (tCons (eV g f) tNil))) : PE X c (eX g W (newF f)) := PE_mono h fun σ H Q ⟨Γ, Hb, ow, r, ef, S, k⟩ => by
  obtain ⟨d, e1, ef⟩ := Option.bind_eq_some_iff.mp ef
  obtain ⟨s, e2, ef⟩ := Option.bind_eq_some_iff.mp ef
  have ef := Option.some.inj ef
  subst ef
  cases toI_some e2
  refine ⟨Γ, Hb, ow, _, e1, S, fun v Hb1 H1 g1 r1 y dx hy hdx ne => ?_⟩
  have g2 : Grow Hb1 H1 Hb1 (upd (upd H1 dx (.own y)) y (.ins g.C dx [])) := (Grow.own g1.same hdx).trans (Grow.own (Grow.own g1.same hdx).same (by rw [upd_ne (Ne.symm ne)]; exact hy))
  refine ⟨y, dx, s, by rw [rep_int.mp r1], upd_same, fun hs => ?_, fun hs H' l hl hk hp hq => ⟨rfl, ?_⟩⟩
  · rw [if_neg hs] at k
    exact k Hb1 _ (g1.trans g2)
  · rw [if_pos hs] at k
    have ly : l ≠ y := fun z => by subst z; rw [upd_same] at hl; cases hl
    have ldx : l ≠ dx := fun z => by subst z; rw [upd_ne ne, upd_same] at hl; cases hl
    have hl1 : H1 l = none := by rw [upd_ne ly, upd_ne ldx] at hl; exact hl
    have old : ∀ b, H1 b ≠ none → H' b = H1 b := fun b hb => by
      have b1 : b ≠ y := fun z => by subst z; exact hb hy
      have b2 : b ≠ l := fun z => by subst z; exact hb hl1
      have b3 : b ≠ dx := fun z => by subst z; exact hb hdx
      rw [hk b b1 b2, upd_ne b1, upd_ne b3]
    have g3 : Grow Hb1 H1 Hb1 H' := ⟨Same.refl _, fun b o e => by rw [old b (some_ne e)]; exact e, fun b o e => by
      have := g1.same _ _ e
      rw [old b (some_ne this)]
      exact this, fun a e => .inl e⟩
    exact k _ Hb1 H' (g1.trans g3) ⟨y, dx, l, [], rfl, g1.h.free hy, g1.same.free hy, g1.h.free hl1, g1.same.free hl1, hp, hq, Reps.nil⟩
structure Cak (P : Program) (w : World) (g : Glo) (mg : Str → Option Value) (base : Heap) (CX : CXT) (x : Str) (k : Nat) (sp : Sp) : Prop where
  ex : ∃ f fd ps, mg x = some (.ref g.C) ∧ Mk g.K g.C f ∧ Binds g.K fd ps [] ∧ FnOk P w g.K mg base CX k f fd ps sp
theorem pe_cak {sp : Sp} {t : TA} (C : Cak X.prog X.w g X.mg X.base CX x k sp) (hK : X.K = g.K) (hr : Room (k + 1) X.A) (hg : Gl X x) (hx : ∀ σ, PassesAt CX X σ (WE W σ)) (ha : PA X (e :: es) t) (hdb : (x == ("__debug__" : Str)) = false := by decide)
    (he : starEach (e :: es) X.env = (false, eval e X.env) :: starEach es X.env := by rfl) (hpl : (backTo pos (starEach es X.env)).any (·.1) = false := by rfl) : PE X (.Call (.Name x p) (e :: es) [] pos) (tMakeE g.C sp (WE W) t) := by
  obtain ⟨f, fd, ps, h1, h2, h3, h4⟩ := C.ex
  rw [← hK] at h2 h3 h4
  refine ⟨fun pins s σ H Q I h => wpAny_Call_Name_kw (ld_glob I hg h1 ?_ hdb)⟩
  refine PySem.W.callWith_K (h₀ := X.base) I.ok.mod.kin h2.kp (thn (ha.run pos pins s σ H _ I h) fun us s1 ⟨vs, H1, I1, r, q⟩ => ⟨I1.kIn, ?_⟩) he hpl
  have hq := q (s1.heap.objs.size + 1) s1.heap.objs.size (I1.hok.fresh (Nat.le_succ _)) (I1.hok.fresh (Nat.le_refl _)) (Nat.ne_of_lt (Nat.lt_succ_self _))
  have I2 := Inv.made (C := g.C) I1
  have r2 : Vals (V.ref (s1.heap.objs.size + 1) :: vs) (Value.ref (s1.heap.objs.size + 1) :: us) := .cons rfl r
  have hl : (Value.ref (s1.heap.objs.size + 1) :: us).length = ps.length := by rw [← r2.length]; exact h4.len _ _ _ _ hq
  have bb := h3 ⟨_, s1.gens, s1.drawn, s1.toks, s1.os⟩ (Value.ref (s1.heap.objs.size + 1) :: us) I2.kIn (by rw [List.append_nil]; exact hl)
  rw [List.append_nil] at bb
  refine wpAny_call (make_map (f := f) I1.kIn h2.makes h2.init (beq_iff_eq.mp h2.fn) (codeAny_mono (h4.run _ X.stack _ _ ⟨Value.ref (s1.heap.objs.size + 1) :: us, []⟩ _ _ _ (WE W σ) (hr.make g.C us []) (I2.env0.make g.C us []) bb r2 hq) fun r s' hq' => ?_))
  cases r with
  | error e => exact hx σ pins _ _ e s' I2 hq'
  | ok fl =>
    cases fl with
    | ret u =>
      obtain ⟨v, H', I3, rv, ev, q3⟩ := I2.after hq'
      subst ev
      exact ⟨rv, ⟨V.ref (s1.heap.objs.size + 1), H', I3, rfl, q3⟩⟩
    | next => exact False.elim hq'
    | brk => exact False.elim hq'
    | cont => exact False.elim hq'
end
end Z

set_option maxRecDepth 100000
namespace Z
open PySem PySem.Spec PyProof.Rows L2
section
variable {X : Cx} {g : Glo} {c e : Expr} {es : List Expr} {st : Stmt} {W : WX}
theorem rd_ofO {f : VS} {σ : SS} {H : Hp} {Q : VK} (h : eV g (v1 slD f) σ H Q) : eO g f σ H Q := by
  obtain ⟨Γ, Hb, ow, d, ef, S, k⟩ := h
  obtain ⟨x, e1, ef⟩ := Option.bind_eq_some_iff.mp ef
  refine ⟨Γ, Hb, ow, x, e1, S, fun v Hb1 H1 g1 q1 => ?_⟩
  cases x with
  | val d' => cases ef; exact k v Hb1 H1 g1 q1
  | own m ds =>
    cases ef
    obtain ⟨a, vs, rfl, h0, hb, h1, h2⟩ := q1
    exact k _ _ H1 (froze g1 h0 hb h1) (rep_lst.mpr ⟨a, vs, rfl, upd_same, h2.same (same_upd hb)⟩)
  | odic m ks =>
    cases ef
    obtain ⟨a, rfl, h0, hb, h1⟩ := q1
    exact k _ _ H1 (froze g1 h0 hb h1) (rep_dic.mpr ⟨a, rfl, upd_same⟩)
  | net m size ps => cases ef
theorem s_asgLc {i : Nat} {vs : List Nat} {f : VL} {tgt : TG} {gt : TgF} {t : VB} {e : VF} (ht : TgOk g tgt gt vs) (tl : ∀ {d Γ Γ1}, gt d Γ = some Γ1 → Γ1.length = Γ.length) (h : PS X st (tAsg (tLc (eI g KpG f) tgt (eT g t) (eV g e) vs) (gName i))) :
    PS X st (sV g W (asgO i (vLc vs f gt t e))) := s_asgO (PS_mono h fun De σ H q => lc_read ht tl q)
theorem s_asgLcV {i : Nat} {vs : List Nat} {f : VL} {tgt : TG} {gt : TgF} {t : VB} {e : VF} (ht : TgOk g tgt gt vs) (tl : ∀ {d Γ Γ1}, gt d Γ = some Γ1 → Γ1.length = Γ.length) (h : PS X st (tAsg (tLc (eI g KpG f) tgt (eT g t) (eV g e) vs) (gName i))) :
    PS X st (sV g W (asgV i (v1 slD (vLc vs f gt t e)))) := s_asgV (PS_mono h fun De σ H q => lc_read ht tl (rd_ofO q))
def breakT : VT := fun Q Γ => Q (.bk Γ)
theorem s_break (h : PS X st tBreak) : PS X st (sV g W breakT) := PS_mono h fun De σ H ⟨c, Q, Γ, Hb, ow, q, S, F, L⟩ => L.bk Γ σ Hb H ow q S F
/-- a global constant -/
theorem pe_gint {x : Str} {i : Int} {pos : Pos} (hm : ∃ t, X.mg x = some (.int i t)) (hg : Gl X x := by rfl) (hd : (x == ("__debug__" : Str)) = false := by decide) : PE X (.Name x pos) (tC (.int i)) := by
  obtain ⟨t, h⟩ := hm
  exact pe_glob hg h ⟨t, rfl⟩ hd
theorem pe_gstr {x : Str} {i : Str} {pos : Pos} (hm : ∃ t, X.mg x = some (.str i t)) (hg : Gl X x := by rfl) (hd : (x == ("__debug__" : Str)) = false := by decide) : PE X (.Name x pos) (tC (.str i)) := by
  obtain ⟨t, h⟩ := hm
  exact pe_glob hg h ⟨t, rfl⟩ hd

/-! ### isinstance -/
def tyN : D → String
  | .non => "NoneType"
  | .bl _ => "bool"
  | .int _ => "int"
  | .str _ => "str"
  | .lst _ => "list"
  | .tup _ => "tuple"
  | .dic _ => "dict"
  | .scr _ => "list"
def fIsi (T : String) (d : D) : Option D := (kitB (tyN d) T).map .bl
theorem kit1 : kitB "int" "int" = some true := by decide +kernel
theorem kit2 : kitB "bool" "int" = some true := by decide +kernel
theorem kit3 : kitB "int" "bool" = some false := by decide +kernel
theorem kit4 : kitB "bool" "bool" = some true := by decide +kernel
theorem kit5 : kitB "list" "list" = some true := by decide +kernel
theorem kit6 : kitB "tuple" "tuple" = some true := by decide +kernel
theorem kit7 : kitB "str" "str" = some true := by decide +kernel
theorem kit8 : kitB "NoneType" "int" = some false := by decide +kernel
theorem kit9 : kitB "NoneType" "list" = some false := by decide +kernel
theorem isi_int_int {n : Int} : fIsi "int" (.int n) = some (.bl true) := by unfold fIsi tyN; rw [kit1]; rfl
theorem isi_int_bool {n : Int} : fIsi "bool" (.int n) = some (.bl false) := by unfold fIsi tyN; rw [kit3]; rfl
theorem isi_bool_int {n : Bool} : fIsi "int" (.bl n) = some (.bl true) := by unfold fIsi tyN; rw [kit2]; rfl
theorem isi_bool_bool {n : Bool} : fIsi "bool" (.bl n) = some (.bl true) := by unfold fIsi tyN; rw [kit4]; rfl
theorem isi_list {ds : List D} : fIsi "list" (.lst ds) = some (.bl true) := by unfold fIsi tyN; rw [kit5]; rfl
theorem isi_tup {ds : List D} : fIsi "tuple" (.tup ds) = some (.bl true) := by unfold fIsi tyN; rw [kit6]; rfl
theorem isi_str {ds : Str} : fIsi "str" (.str ds) = some (.bl true) := by unfold fIsi tyN; rw [kit7]; rfl
theorem isi_non_int : fIsi "int" .non = some (.bl false) := by unfold fIsi tyN; rw [kit8]; rfl
theorem isi_non_list : fIsi "list" .non = some (.bl false) := by unfold fIsi tyN; rw [kit9]; rfl
theorem sql_ty {K : PySem.W.Frag} {H : Hp} {a : Addr} {xs : List V} (h : SqL K H a xs) : TyX K H (.ref a) (.type "list") := by
  rcases h with (h | ⟨o, h⟩) | ⟨o, its, n, h1, h2, _⟩
  · exact .base (.lst h)
  · exact .base (.frz h)
  · exact .kList h1 h2
theorem rep_ty {K : PySem.W.Frag} {H : Hp} {v : V} {d : D} (h : Rep K H v d) : TyX K H v (.type (tyN d)) := by
  cases d with
  | non => rw [rep_non.mp h]; exact .base .non
  | bl b => rw [rep_bl.mp h]; exact .base (.bl b)
  | int b => rw [rep_int.mp h]; exact .base (.int b)
  | str b => rw [rep_str.mp h]; exact .base (.str b)
  | lst b => obtain ⟨a, vs, rfl, h1, _⟩ := rep_lst.mp h; exact .base (.lst h1)
  | tup b => obtain ⟨a, vs, rfl, h1, _⟩ := rep_tup.mp h; exact .base (.tup h1)
  | dic b => obtain ⟨a, rfl, h1⟩ := rep_dic.mp h; exact .base (.dK h1)
  | scr b => obtain ⟨a, rfl, h1⟩ := rep_scr.mp h; exact sql_ty h1
theorem ev_isi {f : VF} {T : String} (h : PE X c (tOp (C2 (rIsi g.K)) (eV g f) (tC (.ty T)))) : PE X c (eV g (v1 (fIsi T) f)) := PE_mono h fun σ H Q ⟨Γ, Hb, ow, d, ef, S, k⟩ => by
  obtain ⟨x, e1, ef⟩ := Option.bind_eq_some_iff.mp ef
  obtain ⟨b, e2, rfl⟩ := Option.map_eq_some_iff.mp ef
  exact ⟨Γ, Hb, ow, x, e1, S, fun v Hb1 H1 g1 q1 => ⟨v, .ty T, _, _, b, rfl, .ty T, rep_ty (Rep.same g1.same q1), kit_ty e2, k _ Hb1 H1 g1 (rep_bl.mpr rfl)⟩⟩

/-! ### a list turned round -/
def fRev (ds : List D) : Option Sl := some (.own .loc ds.reverse)
theorem Reps.reverse {K : PySem.W.Frag} {H : Hp} : ∀ {ds : List D} {vs : List V}, Reps K H vs ds → Reps K H vs.reverse ds.reverse
  | [], _, h => by rw [reps_nil.mp h]; exact Reps.nil
  | d :: ds, _, h => by
    obtain ⟨v, r, rfl, h1, h2⟩ := reps_cons.mp h
    rw [List.reverse_cons, List.reverse_cons]
    exact h2.reverse.append (Reps.one h1)
theorem eo_rev {f : VL} (h : PE X c (tRevL g.K (eL g f))) : PE X c (eO g (v1 fRev f)) := PE_mono h fun σ H Q ⟨Γ, Hb, ow, d, ef, S, k⟩ => by
  obtain ⟨x, e1, ef⟩ := Option.bind_eq_some_iff.mp ef
  cases ef
  refine ⟨Γ, Hb, ow, x, e1, S, fun v Hb1 H1 g1 ⟨a, vs, ev, h1, h2⟩ => ?_⟩
  exact ⟨a, vs, ev, SqL.of h1, fun p hp => k _ Hb1 _ (g1.trans (Grow.own g1.same hp)) ⟨p, _, rfl, g1.h.free hp, g1.same.free hp, upd_same, h2.reverse⟩⟩

/-! ### own exceptions -/
structure ExT (g : Glo) (mg : Str → Option Value) (x : Str) (xx : Ex) : Prop where
  xC : PySem.W.excIn g.K (g.cls xx) [.type "ValueError", .type "Exception", .type "BaseException", .type "object"] "ValueError.__new__" = true
  gC : mg x = some (.ref (g.cls xx))
  kC : PySem.W.keepIn g.K (.ref (g.cls xx)) = true
  bC : PySem.W.subIn g.K (.ref (g.cls xx)) (.type "BaseException") = some true
  tC : PySem.W.typeIn g.K (.ref (g.cls xx)) = some (.type "type")
theorem s_raiseX {x m : Str} {xx : Ex} {j : Nat} {p p2 pos pos2 : Pos} (E : ExT g X.mg x xx) (hK : X.K = g.K) (hc : X.calm = true) (tk : Takes X W) (hg : Gl X x) (hdb : (x == ("__debug__" : Str)) = false := by decide) :
    PS X (.Raise (some (.Call (.Name x p) [.Constant (.str m) j p2] [] pos)) none pos2) (sV g W (raiseT xx)) := by
  obtain ⟨h1, h2, h3, h4, h5⟩ := E
  rw [← hK] at h1 h3 h4 h5
  exact s_raise (ps_raise hc tk (pmk_own PySem.F.excBase_ValueError h1 h2 h3 (raises_own h4 h5) hg hdb))

/-! ### comparisons as tests -/
theorem ek2_read {α β γ : Type} {r1 : RP α} {r2 : RP β} {r3 : RP γ} [Mono r1] [Mono r3] {f : En → Option α} {h' : En → Option β} {F : α → β → Option γ} {r : R2} {σ : SS} {H : Hp} {Q : VK} (hd : Op2 g r r1 r2 r3 F) (h : eK g r3 (v2 F f h') σ H Q) : tOp r (eK g r1 f) (eK g r2 h') σ H Q := by
  obtain ⟨Γ, Hb, ow, d, ef, S, k⟩ := h
  obtain ⟨x, e1, e2⟩ := Option.bind_eq_some_iff.mp ef
  obtain ⟨y, e3, e4⟩ := Option.bind_eq_some_iff.mp e2
  exact ⟨Γ, Hb, ow, x, e1, S, fun v Hb1 H1 g1 q1 => ⟨Γ, Hb1, ow, y, e3, S.grow g1, fun u Hb2 H2 g2 q2 => hd x y d v u H H1 Hb2 H2 Q e4 g2.same (Mono.mono g2 q1) q2 fun v' Hb3 H3 g3 q3 =>
    k v' Hb3 H3 ((g1.trans g2).trans g3) (Mono.back (frees (g1.h.trans g2.h)) q3)⟩⟩
theorem pt_2 {α β : Type} {r1 : RP α} {r2 : RP β} [Mono r1] {f : En → Option α} {h' : En → Option β} {F : α → β → Option D} {r : R2} (h : PT X c (tTest (tOp r (eK g r1 f) (eK g r2 h')))) (hd : Op2 g r r1 r2 rD F) : PT X c (eT g (bV (v2 F f h'))) := PT_mono h fun σ H Q ⟨Γ, Hb, ow, d, ef, S, k⟩ => by
  obtain ⟨x, e1, e2⟩ := Option.bind_eq_some_iff.mp ef
  cases toB_some e2
  exact ek2_read hd ⟨Γ, Hb, ow, _, e1, S, fun v Hb' H' g' r => ⟨d, rep_bl.mp r, k Hb' H' g'⟩⟩
theorem to_ptdin {ty td : TE} (h : PT X c (tB (tDIn ty td))) : PT X c (tTest (tOp (rDIn false) ty td)) := PT_mono h fun σ H Q q => q
theorem to_ptdnotin {ty td : TE} (h : PT X c (tB (tDNotIn ty td))) : PT X c (tTest (tOp (rDIn true) ty td)) := PT_mono h fun σ H Q q => q
theorem pt_ch {r r' : R2} {F G : D → D → Option D} {f h' j : VF} (h : PT X c (tTest (tChain r r' (eV g f) (eV g h') (eV g j)))) (d1 : Op2 g r rD rD rD F) (d2 : Op2 g r' rD rD rD G) : PT X c (eT g (bV (vChain F G f h' j))) := PT_mono h fun σ H Q ⟨Γ, Hb, ow, d, ef, S, k⟩ => by
  obtain ⟨x, e1, e2⟩ := Option.bind_eq_some_iff.mp ef
  cases toB_some e2
  exact chain_read d1 d2 ⟨Γ, Hb, ow, _, e1, S, fun v Hb' H' g' r => ⟨d, rep_bl.mp r, k Hb' H' g'⟩⟩
end
end Z

set_option maxRecDepth 100000
namespace Z
open PySem PySem.Spec PyProof.Rows L2
section
variable {X : Cx} {g : Glo} {W : WX}
/-! ### try .. except x: suite, the suite raising nothing -/
def ctL (l : List Ex) : Ex → Option Bool := fun xx => if xx ∈ l then some true else none
structure CtT (g : Glo) (mg : Str → Option Value) (x : Str) (cg : Ex → Option Bool) : Prop where
  ex : ∃ C, mg x = some (.ref C) ∧ ∀ xx b, cg xx = some b → PySem.W.exmOne g.K (.ref (g.cls xx)) (.ref C) = some b
def tryQ (cg : Ex → Option Bool) (Ts : VT) (Q : Out → Prop) : Out → Prop
  | .ex x Γ => match cg x with
    | some true => Ts Q Γ
    | some false => Q (.ex x Γ)
    | none => False
  | o => Q o
def tryT (cg : Ex → Option Bool) (Tb Ts : VT) : VT := fun Q Γ => Tb (tryQ cg Ts Q) Γ
theorem s_try {x : Str} {cg : Ex → Option Bool} {Tb Ts : VT} {body suite : List Stmt} {b₀ : Stmt} {np pos pos' : Pos} (Ct : CtT g X.mg x cg) (hK : X.K = g.K) (hg : Gl X x) (hs : X.stack = X.env :: X.outer) (hf : X.env.frame = some X.env.locals) (tk : Takes X W)
    (hb : ∀ (W' : WX) (pn : List (Addr × Obj)) (xe : Value → Shared → Prop), Takes (X.tr pn xe) W' → PassesOwn (model X.prog X.w) X.A X.env xe → PSs (X.tr pn xe) body (sV g W' Tb))
    (hsu : ∀ (a : Addr) (oe : Obj) (pn : List (Addr × Obj)), PSs (X.suite a ((a, oe) :: pn)) (b₀ :: suite) (sV g W Ts)) (hdb : (x == ("__debug__" : Str)) = false := by decide) :
    PS X (.Try body [.ExceptHandler (some (.Name x np)) none (b₀ :: suite) pos'] [] [] pos) (sV g W (tryT cg Tb Ts)) := by
  obtain ⟨C, h1, h2⟩ := Ct.ex
  refine PS_mono (ps_try_only (c := .ref C) (ts := fun _ _ _ => sV g W Ts) hs hf ⟨hg, hdb, .inl h1⟩ tk hb fun a oe cls d pn _ _ => hsu a oe pn) fun De σ H ⟨c, Q, Γ, Hb, ow, t, S, F, L⟩ =>
    ⟨c, tryQ cg Ts Q, Γ, Hb, ow, t, S, F, ⟨L.nx, L.bk, L.ct, L.rt, fun xx Γ1 σ1 Hb1 H1 ow1 q S1 F1 => ?_⟩⟩
  unfold tryQ at q
  simp only at q
  split at q
  · rename_i e
    exact ⟨true, by rw [hK]; exact h2 _ _ e, fun _ a _ => ⟨c, Q, Γ1, Hb1, ow1, q, S1, F1, L⟩, fun z => (nomatch z)⟩
  · rename_i e
    exact ⟨false, by rw [hK]; exact h2 _ _ e, fun z => (nomatch z), fun _ => L.ex _ _ _ _ _ _ q S1 F1⟩
  · exact q.elim
/-! ### {n: True} -/
def oDic1 (n : Int) : VS := fun _ => some (.odic .loc [n])
theorem upd_upd {H : Hp} {p : Addr} {a b : HO} : upd (upd H p a) p b = upd H p b := funext fun x => by
  by_cases c : x = p
  · subst c
    rw [upd_same, upd_same]
  · rw [upd_ne c, upd_ne c, upd_ne c]
theorem eo_dic1 {c : Expr} {n : Int} (h : PE X c (tDisp [(tC (.int n), tC (.bl true))])) : PE X c (eO g (oDic1 n)) := PE_mono h fun σ H Q ⟨Γ, Hb, ow, d, ef, S, k⟩ => by
  cases ef
  intro p hp
  refine ⟨upd_same, [(Sum.inl n, .bl true)], rfl, (by show 1 ≤ 15; decide), ?_⟩
  rw [upd_upd]
  exact k _ Hb _ (Grow.own S.same hp) ⟨p, rfl, hp, S.same.free hp, upd_same⟩
end
end Z

set_option maxRecDepth 100000
namespace Z
open PySem PySem.Spec PyProof.Rows L2

/-! ### helps for readings by values -/
theorem v1e {α γ : Type} {F : α → Option γ} {f : En → Option α} {Γ : En} {x : α} {y : γ} (h1 : f Γ = some x) (h2 : F x = some y) : v1 F f Γ = some y := by unfold v1; rw [h1]; exact h2
theorem v2e {α β γ : Type} {F : α → β → Option γ} {f : En → Option α} {h : En → Option β} {Γ : En} {x : α} {y : β} {z : γ} (h1 : f Γ = some x) (h2 : h Γ = some y) (h3 : F x y = some z) : v2 F f h Γ = some z := by unfold v2; rw [h1]; show (h Γ).bind _ = _; rw [h2]; exact h3
theorem xc {n : Nat} {F : FN} {fs : VA} {Γ : En} {as : List Ar} {ss : List Sl} {r : Rs} (h1 : fs Γ = some as) (h2 : ndA as = true ∧ as.length = n) (h3 : arSls Γ as = some ss) (h4 : F ss = some r) : xCall n F fs Γ = some r := by
  unfold xCall; rw [h1]; show (if _ then _ else _) = _; rw [if_pos h2, h3]; exact h4
theorem xm {n i : Nat} {F : FN} {fs : VA} {Γ : En} {r : Rs} (h0 : netAt i Γ = true) (h : xCall n F (rS i fs) Γ = some r) : xMeth n F i fs Γ = some r := by unfold xMeth; rw [if_pos h0]; exact h
theorem rVe {f : VF} {fs : VA} {Γ : En} {d : D} {as : List Ar} (h1 : f Γ = some d) (h2 : fs Γ = some as) : rV f fs Γ = some (.v d :: as) := by unfold rV; rw [h1, h2]; rfl
theorem bVe {f : VF} {Γ : En} {b : Bool} (h : f Γ = some (.bl b)) : bV f Γ = some b := by unfold bV; rw [h]; rfl
theorem if_b {t : VB} {T U : VT} {Q : Out → Prop} {Γ : En} {b : Bool} (e : t Γ = some b) (h1 : b = true → T Q Γ) (h2 : b = false → U Q Γ) : ifT t T U Q Γ := ⟨b, e, h1, h2⟩
theorem if_d {t : VB} {T U : VT} {Q : Out → Prop} {Γ : En} {p : Prop} [Decidable p] (e : t Γ = some (decide p)) (h1 : p → T Q Γ) (h2 : ¬ p → U Q Γ) : ifT t T U Q Γ := ⟨_, e, fun h => h1 (of_decide_eq_true h), fun h => h2 (of_decide_eq_false h)⟩
theorem if_t {t : VB} {T U : VT} {Q : Out → Prop} {Γ : En} (e : t Γ = some true) (h1 : T Q Γ) : ifT t T U Q Γ := ⟨_, e, fun _ => h1, fun h => (nomatch h)⟩
theorem if_f {t : VB} {T U : VT} {Q : Out → Prop} {Γ : En} (e : t Γ = some false) (h1 : U Q Γ) : ifT t T U Q Γ := ⟨_, e, fun h => (nomatch h), fun _ => h1⟩
/-- or, and, not, by two decisions -/
theorem bOr_d {f h : VB} {Γ : En} {p q : Prop} [Decidable p] [Decidable q] (h1 : f Γ = some (decide p)) (h2 : ¬ p → h Γ = some (decide q)) : bOr f h Γ = some (decide (p ∨ q)) := by
  unfold bOr
  rw [h1]
  by_cases c : p
  · simp [c]
  · simp [c, h2 c]
theorem bAnd_d {f h : VB} {Γ : En} {p q : Prop} [Decidable p] [Decidable q] (h1 : f Γ = some (decide p)) (h2 : p → h Γ = some (decide q)) : bAnd f h Γ = some (decide (p ∧ q)) := by
  unfold bAnd
  rw [h1]
  by_cases c : p
  · simp [c, h2 c]
  · simp [c]
theorem bNot_d {f : VB} {Γ : En} {p : Prop} [Decidable p] (h1 : f Γ = some (decide p)) : bNot f Γ = some (decide (¬ p)) := by
  unfold bNot
  rw [h1]
  by_cases c : p <;> simp [c]
theorem vAnd_t {f h : VF} {Γ : En} {y : D} (h1 : f Γ = some (.bl true)) (h2 : h Γ = some y) : vAnd f h Γ = some y := by unfold vAnd; rw [h1]; exact h2
theorem vAnd_f {f h : VF} {Γ : En} (h1 : f Γ = some (.bl false)) : vAnd f h Γ = some (.bl false) := by unfold vAnd; rw [h1]; rfl
theorem vAnd_d {f h : VF} {Γ : En} {p q : Prop} [Decidable p] [Decidable q] (h1 : f Γ = some (.bl (decide p))) (h2 : p → h Γ = some (.bl (decide q))) : vAnd f h Γ = some (.bl (decide (p ∧ q))) := by
  by_cases c : p
  · rw [vAnd_t (by rw [h1, decide_eq_true c]) (h2 c)]
    simp [c]
  · rw [vAnd_f (by rw [h1, decide_eq_false c])]
    simp [c]
theorem vOr_f {f h : VF} {Γ : En} {y : D} (h1 : f Γ = some (.bl false)) (h2 : h Γ = some y) : vOr f h Γ = some y := by unfold vOr; rw [h1]; exact h2
theorem vOr_t {f h : VF} {Γ : En} (h1 : f Γ = some (.bl true)) : vOr f h Γ = some (.bl true) := by unfold vOr; rw [h1]; rfl
theorem ite_some {c : Prop} {_ : Decidable c} {α : Type} {x : α} (h : c) : (if c then some x else none) = some x := if_pos h
theorem dec_t {p : Prop} [Decidable p] {o : Option Bool} (h : p) (e : o = some (decide p)) : o = some true := by rw [e, decide_eq_true h]
theorem dec_f {p : Prop} [Decidable p] {o : Option Bool} (h : ¬ p) (e : o = some (decide p)) : o = some false := by rw [e, decide_eq_false h]
theorem loopT_inv {α : Type} {enc : α → D} {gt : TgF} {T : VT} {Q : Out → Prop} (I : List α → En → Prop)
    (step : ∀ x xs Γ (k : En → Prop), I (x :: xs) Γ → (∀ Γ', I xs Γ' → k Γ') → ∃ Γ1, gt (enc x) Γ = some Γ1 ∧ T (loopQ k Q) Γ1) (done : ∀ Γ, I [] Γ → Q (.nx Γ)) : ∀ (xs : List α) (Γ : En), I xs Γ → loopT gt T (xs.map enc) Q Γ
  | [], Γ, h => done Γ h
  | x :: xs, Γ, h => step x xs Γ _ h fun Γ' h' => loopT_inv I step done xs Γ' h'
/-- an item at a place -/
theorem atI_get' {α : Type} {xs : List α} {j : Nat} {v : α} (h : xs[j]? = some v) : atI xs (j : Int) = some v := atI_nat h
theorem ixN_nat {n j : Nat} (h : j < n) : ixN n (j : Int) = some j := by
  unfold ixN
  rw [if_pos (Int.natCast_nonneg j), if_pos (by omega)]
  simp

/-! ### pipes -/
abbrev P3 := Nat × Nat × Bool
abbrev O3 := Nat × Nat × Nat
def dP (p : P3) : D := .tup [.int (p.1 : Int), .int (p.2.1 : Int), .bl p.2.2]
def dO3 (p : O3) : D := .tup [.int (p.1 : Int), .int (p.2.1 : Int), .int (p.2.2 : Int)]
def dPs (ps : List P3) : List D := ps.map dP
end Z

set_option maxRecDepth 100000
namespace Z
open PySem PySem.Spec PyProof.Rows L2
theorem nf_size : noFld "size" := noFld_of (by decide +kernel) (by decide +kernel)
theorem nf_pipes : noFld "pipes" := noFld_of (by decide +kernel) (by decide +kernel)
theorem nf_see_place : noFld "see_place" := noFld_of (by decide +kernel) (by decide +kernel)
theorem nf_see_pipe : noFld "see_pipe" := noFld_of (by decide +kernel) (by decide +kernel)
theorem nf_lay : noFld "lay" := noFld_of (by decide +kernel) (by decide +kernel)
theorem nf_turn : noFld "turn" := noFld_of (by decide +kernel) (by decide +kernel)
theorem nf_shut : noFld "shut" := noFld_of (by decide +kernel) (by decide +kernel)
theorem nf_reopen : noFld "reopen" := noFld_of (by decide +kernel) (by decide +kernel)

/-! ### nets -/
def F_size : FN
  | [.net _ size _] => some (.inl (.val (.int size)))
  | _ => none
/-- size: 0 self -/
def t_size : VT := (seqT (retV (nSize 0)) skipT)
theorem v_size : ∀ ss r, ss.length = 1 → F_size ss = some r → t_size (postP r) (En0 ss 1) ∧ ∃ s, r = .inl s := by
  intro ss r hl h
  unfold F_size at h
  split at h
  · cases h
    exact ⟨⟨_, rfl, rfl⟩, _, rfl⟩
  · cases h
def F_see_place : FN
  | [.net _ size _, .val (.int p)] => some (if p < 0 ∨ size ≤ p then .inr .place else .inl (.val .non))
  | _ => none
/-- see_place: 0 self 1 place -/
def t_see_place : VT := (seqT (ifT (bOr (bV (v2 fLt (vVar 1) (vC (.int 0)))) (bV (v2 fGe (vVar 1) (nSize 0)))) (seqT (raiseT .place) skipT) skipT) skipT)
theorem v_see_place : ∀ ss r, ss.length = 2 → F_see_place ss = some r → t_see_place (postP r) (En0 ss 2) := by
  intro ss r hl h
  unfold F_see_place at h
  split at h
  · rename_i m size ps p
    have h := Option.some.inj h
    subst h
    refine if_d (p := p < 0 ∨ size ≤ p) (bOr_d rfl fun _ => rfl) (fun c => ?_) (fun c => ?_)
    · rw [if_pos c]; exact rfl
    · rw [if_neg c]; exact rfl
  · cases h
def F_see_pipe : FN
  | [.net _ _ ps, .val (.int p)] => some (if p < 0 ∨ (ps.length : Int) ≤ p then .inr .pipe else .inl (.val .non))
  | _ => none
/-- see_pipe: 0 self 1 pipe -/
def t_see_pipe : VT := (seqT (ifT (bOr (bV (v2 fLt (vVar 1) (vC (.int 0)))) (bV (v2 fGe (vVar 1) (v1 fLenL (nPs 0))))) (seqT (raiseT .pipe) skipT) skipT) skipT)
theorem v_see_pipe : ∀ ss r, ss.length = 2 → F_see_pipe ss = some r → t_see_pipe (postP r) (En0 ss 2) := by
  intro ss r hl h
  unfold F_see_pipe at h
  split at h
  · rename_i m size ps p
    have h := Option.some.inj h
    subst h
    refine if_d (p := p < 0 ∨ (ps.length : Int) ≤ p) (bOr_d rfl fun _ => rfl) (fun c => ?_) (fun c => ?_)
    · rw [if_pos c]; exact rfl
    · rw [if_neg c]; exact rfl
  · cases h
def F_pipes : FN
  | [.net _ _ ps] => some (.inl (.own .loc ps))
  | _ => none
/-- pipes: 0 self -/
def t_pipes : VT := (seqT (retO (v1 fList (nPs 0))) skipT)
theorem v_pipes : ∀ ss r, ss.length = 1 → F_pipes ss = some r → t_pipes (postP r) (En0 ss 1) ∧ ∃ s, r = .inl s := by
  intro ss r hl h
  unfold F_pipes at h
  split at h
  · cases h
    exact ⟨⟨_, rfl, rfl⟩, _, rfl⟩
  · cases h
def layPs (size : Int) (ps : List D) (a b : Int) : Ex ⊕ List D :=
  if a < 0 ∨ size ≤ a then .inl .place else if b < 0 ∨ size ≤ b then .inl .place else if a = b then .inl .same else if 60 ≤ (ps.length : Int) then .inl .much else .inr (ps ++ [.tup [.int a, .int b, .bl true]])
def G_lay : FM
  | [.net .mut size ps, .val (.int a), .val (.int b)] => match layPs size ps a b with
    | .inl x => some (.inr x, [.net .mut size ps, .val (.int a), .val (.int b)])
    | .inr ps' => some (.inl (.val (.int ps.length)), [.net .mut size ps', .val (.int a), .val (.int b)])
  | _ => none
/-- lay: 0 self 1 start 2 goal -/
def t_lay : VT := (seqT (exprX (xMeth 2 F_see_place 0 (rV (vVar 1) rNil))) (seqT (exprX (xMeth 2 F_see_place 0 (rV (vVar 2) rNil))) (seqT (ifT (bV (v2 fEq (vVar 1) (vVar 2))) (seqT (raiseT .same) skipT) skipT) (seqT (ifT (bV (v2 fGe (v1 fLenL (nPs 0)) (vC (.int 60)))) (seqT (raiseT .much) skipT) skipT) (seqT (appNT 0 (vTup (aCons (vVar 1) (aCons (vVar 2) (aCons (vC (.bl true)) aNil))))) (seqT (retV (v2 fSub (v1 fLenL (nPs 0)) (vC (.int 1)))) skipT))))))
theorem v_lay : ∀ ss r ss', ss.length = 3 → G_lay ss = some (r, ss') → t_lay (postM r ss ss') (En0 ss 3) := by
  intro ss r ss' hl h
  unfold G_lay at h
  split at h
  · rename_i size ps a b
    refine ⟨_, xm rfl (xc rfl ⟨rfl, rfl⟩ rfl rfl), ?_⟩
    by_cases c1 : a < 0 ∨ size ≤ a
    · rw [if_pos c1]
      rw [show layPs size ps a b = .inl .place by unfold layPs; rw [if_pos c1]] at h
      cases h
      exact ⟨rfl, .inl ⟨rfl, rfl⟩, .inr ⟨rfl, rfl⟩, .inr ⟨rfl, rfl⟩, trivial⟩
    rw [if_neg c1]
    refine ⟨_, xm rfl (xc rfl ⟨rfl, rfl⟩ rfl rfl), ?_⟩
    by_cases c2 : b < 0 ∨ size ≤ b
    · rw [if_pos c2]
      rw [show layPs size ps a b = .inl .place by unfold layPs; rw [if_neg c1, if_pos c2]] at h
      cases h
      exact ⟨rfl, .inl ⟨rfl, rfl⟩, .inr ⟨rfl, rfl⟩, .inr ⟨rfl, rfl⟩, trivial⟩
    rw [if_neg c2]
    refine if_d (p := a = b) rfl (fun c3 => ?_) (fun c3 => ?_)
    · rw [show layPs size ps a b = .inl .same by unfold layPs; rw [if_neg c1, if_neg c2, if_pos c3]] at h
      cases h
      exact ⟨rfl, .inl ⟨rfl, rfl⟩, .inr ⟨rfl, rfl⟩, .inr ⟨rfl, rfl⟩, trivial⟩
    refine if_d (p := 60 ≤ (ps.length : Int)) rfl (fun c4 => ?_) (fun c4 => ?_)
    · rw [show layPs size ps a b = .inl .much by unfold layPs; rw [if_neg c1, if_neg c2, if_neg c3, if_pos c4]] at h
      cases h
      exact ⟨rfl, .inl ⟨rfl, rfl⟩, .inr ⟨rfl, rfl⟩, .inr ⟨rfl, rfl⟩, trivial⟩
    rw [show layPs size ps a b = .inr _ by unfold layPs; rw [if_neg c1, if_neg c2, if_neg c3, if_neg c4]] at h
    cases h
    refine ⟨(by intro z; cases z), _, rfl, by omega, _, rfl, ?_, .inl ⟨rfl, rfl⟩, .inr ⟨rfl, rfl⟩, .inr ⟨rfl, rfl⟩, trivial⟩
    show (Sum.inl (Sl.val (D.int (ps.length : Int))) : Rs) = Sum.inl (Sl.val (D.int (((ps ++ [D.tup [D.int a, D.int b, D.bl true]]).length : Int) - 1)))
    rw [List.length_append]
    congr 3
    simp
  · cases h
/-- a pipe is turned; none: there is no such pipe -/
def turnPs (ps : List D) (p : Int) (o : Bool) : Option (Option (List D)) :=
  if p < 0 ∨ (ps.length : Int) ≤ p then some none else match ps[p.toNat]? with
    | some (.tup [a, b, _]) => some (some (ps.set p.toNat (.tup [a, b, .bl o])))
    | _ => none
def turnR (size : Int) (ps : List D) (more : List Sl) : Option (List D) → Rs × List Sl
  | none => (.inr .pipe, .net .mut size ps :: more)
  | some ps' => (.inl (.val .non), .net .mut size ps' :: more)
def G_turn : FM
  | [.net .mut size ps, .val (.int p), .val (.bl o)] => (turnPs ps p o).map (turnR size ps [.val (.int p), .val (.bl o)])
  | _ => none
/-- turn: 0 self 1 pipe 2 opened 3 old -/
def t_turn : VT := (seqT (exprX (xMeth 2 F_see_pipe 0 (rV (vVar 1) rNil))) (seqT (asgV 3 (v2 fIxL (nPs 0) (vVar 1))) (seqT (setNT 0 (vVar 1) (vTup (aCons (v2 fIx (vVar 3) (vC (.int 0))) (aCons (v2 fIx (vVar 3) (vC (.int 1))) (aCons (vVar 2) aNil))))) skipT)))
theorem turnPs_no {ps : List D} {p : Int} {o : Bool} (h : p < 0 ∨ (ps.length : Int) ≤ p) : turnPs ps p o = some none := by unfold turnPs; rw [if_pos h]
theorem turnPs_yes {ps : List D} {p : Int} {o : Bool} {q : Option (List D)} (h : ¬ (p < 0 ∨ (ps.length : Int) ≤ p)) (e : turnPs ps p o = some q) : ∃ a b c, ps[p.toNat]? = some (.tup [a, b, c]) ∧ q = some (ps.set p.toNat (.tup [a, b, .bl o])) := by
  unfold turnPs at e
  rw [if_neg h] at e
  split at e
  · cases e
    exact ⟨_, _, _, by assumption, rfl⟩
  · cases e
theorem v_turn : ∀ ss r ss', ss.length = 3 → G_turn ss = some (r, ss') → t_turn (postM r ss ss') (En0 ss 4) := by
  intro ss r ss' hl h
  unfold G_turn at h
  split at h
  · rename_i size ps p o
    obtain ⟨q, e, e2⟩ := Option.map_eq_some_iff.mp h
    refine ⟨_, xm rfl (xc rfl ⟨rfl, rfl⟩ rfl rfl), ?_⟩
    by_cases c : p < 0 ∨ (ps.length : Int) ≤ p
    · rw [if_pos c]
      rw [turnPs_no c] at e
      cases e
      cases e2
      exact ⟨rfl, .inl ⟨rfl, rfl⟩, .inr ⟨rfl, rfl⟩, .inr ⟨rfl, rfl⟩, trivial⟩
    rw [if_neg c]
    obtain ⟨a, b, c', e3, rfl⟩ := turnPs_yes c e
    cases e2
    have ep : ((p.toNat : Nat) : Int) = p := by omega
    have e4 : atI ps p = some (.tup [a, b, c']) := by rw [← ep]; exact atI_nat e3
    refine ⟨_, v2e (x := ps) rfl rfl e4, ?_⟩
    refine ⟨(by intro z; cases z), _, _, p.toNat, rfl, rfl, ?_, rfl, .inl ⟨rfl, rfl⟩, .inr ⟨rfl, rfl⟩, .inr ⟨rfl, rfl⟩, trivial⟩
    have := ixN_nat (n := ps.length) (j := p.toNat) (by omega)
    rw [ep] at this
    exact this
  · cases h
def G_shut : FM
  | [.net .mut size ps, .val (.int p)] => (turnPs ps p false).map (turnR size ps [.val (.int p)])
  | _ => none
/-- shut: 0 self 1 pipe -/
def t_shut : VT := (seqT (nmT none 3 G_turn 0 (rV (vVar 1) (rV (vC (.bl false)) rNil))) skipT)
theorem v_shut : ∀ ss r ss', ss.length = 2 → G_shut ss = some (r, ss') → t_shut (postM r ss ss') (En0 ss 2) := by
  intro ss r ss' hl h
  unfold G_shut at h
  split at h
  · rename_i size ps p
    obtain ⟨q, e, e2⟩ := Option.map_eq_some_iff.mp h
    refine ⟨rfl, _, _, (turnR size ps [.val (.int p), .val (.bl false)] q).1, (turnR size ps [.val (.int p), .val (.bl false)] q).2, rfl, ⟨rfl, rfl⟩, rfl, by show (turnPs ps p false).map _ = _; rw [e]; rfl, ?_⟩
    cases q with
    | none => cases e2; exact ⟨rfl, .inl ⟨rfl, rfl⟩, .inr ⟨rfl, rfl⟩, trivial⟩
    | some ps' => cases e2; exact ⟨rfl, .inl ⟨rfl, rfl⟩, .inr ⟨rfl, rfl⟩, trivial⟩
  · cases h
def G_reopen : FM
  | [.net .mut size ps, .val (.int p)] => (turnPs ps p true).map (turnR size ps [.val (.int p)])
  | _ => none
/-- reopen: 0 self 1 pipe -/
def t_reopen : VT := (seqT (nmT none 3 G_turn 0 (rV (vVar 1) (rV (vC (.bl true)) rNil))) skipT)
theorem v_reopen : ∀ ss r ss', ss.length = 2 → G_reopen ss = some (r, ss') → t_reopen (postM r ss ss') (En0 ss 2) := by
  intro ss r ss' hl h
  unfold G_reopen at h
  split at h
  · rename_i size ps p
    obtain ⟨q, e, e2⟩ := Option.map_eq_some_iff.mp h
    refine ⟨rfl, _, _, (turnR size ps [.val (.int p), .val (.bl true)] q).1, (turnR size ps [.val (.int p), .val (.bl true)] q).2, rfl, ⟨rfl, rfl⟩, rfl, by show (turnPs ps p true).map _ = _; rw [e]; rfl, ?_⟩
    cases q with
    | none => cases e2; exact ⟨rfl, .inl ⟨rfl, rfl⟩, .inr ⟨rfl, rfl⟩, trivial⟩
    | some ps' => cases e2; exact ⟨rfl, .inl ⟨rfl, rfl⟩, .inr ⟨rfl, rfl⟩, trivial⟩
  · cases h
end Z

set_option maxRecDepth 100000
namespace Z
open PySem PySem.Spec PyProof.Rows L2

/-! ### data read back -/
class Cd (α : Type) where
  enc : α → D
  dec : D → Option α
  de : ∀ x, dec (enc x) = some x
  ed : ∀ d x, dec d = some x → d = enc x
def decs {α : Type} [Cd α] : List D → Option (List α)
  | [] => some []
  | d :: ds => (Cd.dec d).bind fun x => (decs ds).bind fun xs => some (x :: xs)
theorem decs_enc {α : Type} [Cd α] : ∀ xs : List α, decs (xs.map Cd.enc) = some xs
  | [] => rfl
  | x :: xs => by
    show (Cd.dec (Cd.enc x)).bind _ = _
    rw [Cd.de]
    show (decs (xs.map Cd.enc)).bind _ = _
    rw [decs_enc xs]
    rfl
theorem decs_some {α : Type} [Cd α] : ∀ {ds : List D} {xs : List α}, decs ds = some xs → ds = xs.map Cd.enc
  | [], _, h => by cases h; rfl
  | d :: ds, _, h => by
    obtain ⟨x, e1, h⟩ := Option.bind_eq_some_iff.mp h
    obtain ⟨xs, e2, h⟩ := Option.bind_eq_some_iff.mp h
    cases h
    rw [Cd.ed _ _ e1, decs_some e2]; rfl
instance : Cd Int where
  enc := .int
  dec := toI
  de := fun _ => rfl
  ed := fun d x h => toI_some h
def unP : D → Option P3
  | .tup [.int a, .int b, .bl o] => if 0 ≤ a ∧ 0 ≤ b then some (a.toNat, b.toNat, o) else none
  | _ => none
instance : Cd P3 where
  enc := dP
  dec := unP
  de := fun x => by
    obtain ⟨a, b, o⟩ := x
    simp [dP, unP]
  ed := fun d x h => by
    unfold unP at h
    split at h
    · split at h
      · rename_i hc
        cases h
        simp only [dP]
        rw [show ((_ : Int).toNat : Int) = _ from Int.toNat_of_nonneg hc.1, show ((_ : Int).toNat : Int) = _ from Int.toNat_of_nonneg hc.2]
      · cases h
    · cases h
def unO3 : D → Option O3
  | .tup [.int a, .int b, .int c] => if 0 ≤ a ∧ 0 ≤ b ∧ 0 ≤ c then some (a.toNat, b.toNat, c.toNat) else none
  | _ => none
instance : Cd O3 where
  enc := dO3
  dec := unO3
  de := fun x => by
    obtain ⟨a, b, o⟩ := x
    simp [dO3, unO3]
  ed := fun d x h => by
    unfold unO3 at h
    split at h
    · split at h
      · rename_i hc
        cases h
        simp only [dO3]
        rw [show ((_ : Int).toNat : Int) = _ from Int.toNat_of_nonneg hc.1, show ((_ : Int).toNat : Int) = _ from Int.toNat_of_nonneg hc.2.1, show ((_ : Int).toNat : Int) = _ from Int.toNat_of_nonneg hc.2.2]
      · cases h
    · cases h
abbrev dOs (os : List O3) : List D := os.map dO3
theorem decs_dPs (ps : List P3) : decs (dPs ps) = some ps := decs_enc ps
theorem decs_dOs (ps : List O3) : decs (dOs ps) = some ps := decs_enc ps
theorem dPs_some {ds : List D} {ps : List P3} (h : decs ds = some ps) : ds = dPs ps := decs_some h
theorem dOs_some {ds : List D} {ps : List O3} (h : decs ds = some ps) : ds = dOs ps := decs_some h

/-! ### comprehensions, ranges by values -/
theorem lcGo_eq {α : Type} {enc : α → D} {step : D → Option (Option D)} {o : α → Option D} : ∀ {xs : List α}, (∀ x ∈ xs, step (enc x) = some (o x)) → lcGo step (xs.map enc) = some (xs.filterMap o)
  | [], _ => rfl
  | x :: xs, h => by
    have ih := lcGo_eq (xs := xs) fun y hy => h y (List.mem_cons_of_mem _ hy)
    show (step (enc x)).bind _ = _
    rw [h x (by simp)]
    show (lcGo step (xs.map enc)).bind _ = _
    rw [ih]
    cases e : o x with
    | none => simp [List.filterMap_cons, e]
    | some y => simp [List.filterMap_cons, e]
theorem lcS {gt : TgF} {t : VB} {e : VF} {Γ Γ1 : En} {d y : D} {b : Bool} (h1 : gt d Γ = some Γ1) (h2 : t Γ1 = some b) (h3 : b = true → e Γ1 = some y) : lcStep gt t e Γ d = some (if b = true then some y else none) := by
  unfold lcStep
  rw [h1]
  show (t Γ1).bind _ = _
  rw [h2]
  cases b with
  | true => show (e Γ1).map some = _; rw [h3 rfl]; rfl
  | false => rfl
theorem lcS1 {gt : TgF} {t : VB} {e : VF} {Γ Γ1 : En} {d y : D} (h1 : gt d Γ = some Γ1) (h2 : t Γ1 = some true) (h3 : e Γ1 = some y) : lcStep gt t e Γ d = some (some y) := lcS h1 h2 fun _ => h3
theorem vlc {α : Type} {enc : α → D} {xs : List α} {o : α → Option D} {vs : List Nat} {f : VL} {gt : TgF} {t : VB} {e : VF} {Γ : En} (h1 : f Γ = some (xs.map enc)) (hl : xs.length ≤ 1000000) (h2 : ∀ x ∈ xs, lcStep gt t e (wipeE Γ vs) (enc x) = some (o x)) :
    vLc vs f gt t e Γ = some (.own .loc (xs.filterMap o)) := by
  unfold vLc
  rw [h1]
  have hf : fewD (xs.map enc) = true := decide_eq_true (by simpa using hl)
  show (if fewD (xs.map enc) = true then (lcGo (lcStep gt t e (wipeE Γ vs)) (xs.map enc)).map (fun out => Sl.own .loc out) else none) = _
  rw [if_pos hf, lcGo_eq h2]
  rfl
theorem filterMap_some {α β : Type} (h : α → β) (xs : List α) : (xs.filterMap fun x => some (h x)) = xs.map h := by
  induction xs with
  | nil => rfl
  | cons x xs ih => simp [ih]
theorem filterMap_if {α β : Type} (p : α → Bool) (h : α → β) (xs : List α) : (xs.filterMap fun x => if p x = true then some (h x) else none) = (xs.filter p).map h := by
  induction xs with
  | nil => rfl
  | cons x xs ih =>
    rw [List.filterMap_cons, List.filter_cons]
    by_cases c : p x = true
    · rw [if_pos c, if_pos c]
      simp only [ih]
      rfl
    · rw [if_neg c, if_neg c]
      simp only [ih]
theorem vlc_map {α : Type} {enc : α → D} {xs : List α} {h : α → D} {vs : List Nat} {f : VL} {gt : TgF} {t : VB} {e : VF} {Γ : En} (h1 : f Γ = some (xs.map enc)) (hl : xs.length ≤ 1000000) (h2 : ∀ x ∈ xs, lcStep gt t e (wipeE Γ vs) (enc x) = some (some (h x))) :
    vLc vs f gt t e Γ = some (.own .loc (xs.map h)) := by rw [vlc h1 hl h2, filterMap_some]
theorem vlc_filter {α : Type} {enc : α → D} {xs : List α} {p : α → Bool} {h : α → D} {vs : List Nat} {f : VL} {gt : TgF} {t : VB} {e : VF} {Γ : En} (h1 : f Γ = some (xs.map enc)) (hl : xs.length ≤ 1000000) (h2 : ∀ x ∈ xs, lcStep gt t e (wipeE Γ vs) (enc x) = some (if p x = true then some (h x) else none)) :
    vLc vs f gt t e Γ = some (.own .loc ((xs.filter p).map h)) := by rw [vlc h1 hl h2, filterMap_if]
theorem inR_of {i : Int} (h : -1000000 ≤ i ∧ i ≤ 1000000) : inR i = true := by
  unfold inR
  have e : (2 : Int) ^ 62 = 4611686018427387904 := by decide +kernel
  rw [e]
  exact decide_eq_true ⟨by omega, by omega⟩
def dInt (n : Nat) : D := .int (n : Int)
theorem rng1e {f : VF} {Γ : En} {i : Int} (h : f Γ = some (.int i)) (hn : -1000000 ≤ i ∧ i ≤ 1000000) : lRng1 f Γ = some ((List.range i.toNat).map dInt) := by
  unfold lRng1
  rw [h, Option.bind_some, show toI (.int i) = some i from rfl, Option.bind_some, if_pos (inR_of hn)]
  unfold dRng
  rw [Int.sub_zero]
  congr 1
  apply List.map_congr_left
  intro k _
  show D.int (0 + (k : Int)) = .int (k : Int)
  rw [Int.zero_add]
theorem rng2e {f h : VF} {Γ : En} {i j : Nat} (h1 : f Γ = some (.int i)) (h2 : h Γ = some (.int j)) (hi : i ≤ 1000000) (hj : j ≤ 1000000) : lRng2 f h Γ = some ((List.range' i (j - i)).map dInt) := by
  unfold lRng2
  rw [h1, Option.bind_some, show toI (.int (i : Int)) = some (i : Int) from rfl, Option.bind_some, h2, Option.bind_some, show toI (.int (j : Int)) = some (j : Int) from rfl, Option.bind_some, if_pos (by rw [inR_of (by omega), inR_of (by omega)]; rfl)]
  unfold dRng
  rw [show ((j : Int) - i).toNat = j - i by omega, List.range'_eq_map_range, List.map_map]
  refine congrArg some (List.map_congr_left fun k _ => ?_)
  show D.int ((i : Int) + (k : Int)) = .int ((i + k : Nat) : Int)
  rw [Int.natCast_add]

/-! ### the law's drawn things -/
def cellAt (ns : List Int) (k : Nat) : Int := (ns[k]?).getD 0
def F_law_cell_at : FN
  | [.val (.scr ns), .val (.int k)] => if 0 ≤ k then some (.inl (.val (.int (cellAt ns k.toNat)))) else none
  | _ => none
theorem F_cell {ns : List Int} {k : Nat} : F_law_cell_at [.val (.scr ns), .val (.int (k : Int))] = some (.inl (.val (.int (cellAt ns k)))) := by
  exact ite_some (Int.natCast_nonneg k)
/-- _law_cell_at: 0 script 1 k -/
def t_law_cell_at : VT := (seqT (ifT (bV (v2 fLt (vVar 1) (v1 fLen (vVar 0)))) (seqT (retV (v2 fIx (vVar 0) (vVar 1))) skipT) skipT) (seqT (retV (vC (.int 0))) skipT))
theorem v_law_cell_at : ∀ ss r, ss.length = 2 → F_law_cell_at ss = some r → t_law_cell_at (postP r) (En0 ss 2) ∧ ∃ s, r = .inl s := by
  intro ss r hl h
  unfold F_law_cell_at at h
  split at h
  · rename_i ns k
    split at h
    · rename_i hk
      have h := Option.some.inj h
      subst h
      refine ⟨?_, _, rfl⟩
      obtain ⟨k, rfl⟩ := Int.eq_ofNat_of_zero_le hk
      simp only [Int.toNat_natCast]
      refine if_d (p := (k : Int) < (ns.length : Int)) rfl (fun c => ?_) (fun c => ?_)
      · have e : ns[k]? = some (ns[k]'(by omega)) := by simp
        refine ⟨.int (ns[k]'(by omega)), v2e rfl rfl ?_, ?_⟩
        · show (atI ns (k : Int)).map D.int = _
          rw [atI_nat e]
          rfl
        · show (Sum.inl (Sl.val (D.int (cellAt ns k))) : Rs) = _
          unfold cellAt
          rw [e]
          rfl
      · refine ⟨_, rfl, ?_⟩
        show (Sum.inl (Sl.val (D.int (cellAt ns k))) : Rs) = _
        unfold cellAt
        rw [List.getElem?_eq_none_iff.mpr (by omega)]
        rfl
    · cases h
  · cases h
def F_law_whole : FN
  | [.val (.int _)] => some (.inl (.val (.bl true)))
  | _ => none
/-- _law_whole: 0 found -/
def t_law_whole : VT := (seqT (retV (vAnd (v1 (fIsi "int") (vVar 0)) (v1 notD (v1 (fIsi "bool") (vVar 0))))) skipT)
theorem v_law_whole : ∀ ss r, ss.length = 1 → F_law_whole ss = some r → t_law_whole (postP r) (En0 ss 1) ∧ ∃ s, r = .inl s := by
  intro ss r hl h
  unfold F_law_whole at h
  split at h
  · rename_i n
    cases h
    refine ⟨⟨.bl true, ?_, rfl⟩, _, rfl⟩
    exact vAnd_t (v1e rfl isi_int_int) (v1e (v1e rfl isi_int_bool) rfl)
  · cases h
def pipeBy (c : Int) (s : Nat) : P3 := ((c % s).toNat, ((c % s + 1 + c / s % ((s : Int) - 1)) % s).toNat, decide (c / 11 % 8 ≠ 1))
def F_law_pipe_by : FN
  | [.val (.int c), .val (.int s)] => if 2 ≤ s ∧ s ≤ 1000 then some (.inl (.val (dP (pipeBy c s.toNat)))) else none
  | _ => none
theorem F_pipeBy {c : Int} {s : Nat} (h : 2 ≤ s ∧ s ≤ 1000) : F_law_pipe_by [.val (.int c), .val (.int (s : Int))] = some (.inl (.val (dP (pipeBy c s)))) := by
  exact ite_some (show 2 ≤ (s : Int) ∧ (s : Int) ≤ 1000 by omega)
/-- _law_pipe_by: 0 cell 1 size 2 start 3 goal -/
def t_law_pipe_by : VT := (seqT (asgV 2 (v2 fMod (vVar 0) (vVar 1))) (seqT (asgV 3 (v2 fMod (v2 fAdd (v2 fAdd (vVar 2) (vC (.int 1))) (v2 fMod (v2 fDiv (vVar 0) (vVar 1)) (v2 fSub (vVar 1) (vC (.int 1))))) (vVar 1))) (seqT (retV (vTup (aCons (vVar 2) (aCons (vVar 3) (aCons (v2 fNe (v2 fMod (v2 fDiv (vVar 0) (vC (.int 11))) (vC (.int 8))) (vC (.int 1))) aNil))))) skipT)))
theorem fMod_pos {i j : Int} (h : 0 < j) : fMod (.int i) (.int j) = some (.int (i % j)) := by
  show (if decide (0 < j) = true then some (D.int (i % j)) else none) = _
  rw [if_pos (decide_eq_true h)]
theorem fDiv_pos {i j : Int} (h : 0 < j) (h2 : j < 1073741824) : fDiv (.int i) (.int j) = some (.int (i / j)) := by
  show (if decide (0 < j ∧ j < 1073741824) = true then some (D.int (i / j)) else none) = _
  rw [if_pos (decide_eq_true ⟨h, h2⟩)]
theorem v_law_pipe_by : ∀ ss r, ss.length = 2 → F_law_pipe_by ss = some r → t_law_pipe_by (postP r) (En0 ss 4) ∧ ∃ s, r = .inl s := by
  intro ss r hl h
  unfold F_law_pipe_by at h
  split at h
  · rename_i c s
    split at h
    · rename_i hs
      have h := Option.some.inj h
      subst h
      refine ⟨?_, _, rfl⟩
      have e1 : fMod (.int c) (.int s) = _ := fMod_pos (by omega)
      have e2 : fDiv (.int c) (.int s) = _ := fDiv_pos (by omega) (by omega)
      have e3 : fMod (.int (c / s)) (.int (s - 1)) = _ := fMod_pos (by omega)
      have e4 : fMod (.int (c % s + 1 + c / s % (s - 1))) (.int s) = _ := fMod_pos (by omega)
      refine ⟨_, v2e rfl rfl e1, ?_⟩
      refine ⟨_, v2e (v2e (y := .int (c / s % (s - 1))) rfl (v2e (v2e rfl rfl e2) (y := .int (s - 1)) rfl e3) rfl) rfl e4, ?_⟩
      refine ⟨_, rfl, ?_⟩
      have h1 : 0 ≤ c % s := Int.emod_nonneg _ (by omega)
      have h2 : 0 ≤ (c % s + 1 + c / s % (s - 1)) % s := Int.emod_nonneg _ (by omega)
      show (Sum.inl (Sl.val (dP (pipeBy c s.toNat))) : Rs) = Sum.inl (Sl.val (D.tup [.int (c % s), .int ((c % s + 1 + c / s % (s - 1)) % s), .bl (!decide (c / 11 % 8 = 1))]))
      unfold dP pipeBy
      simp only [show ((s.toNat : Nat) : Int) = s by omega, Int.toNat_of_nonneg h1, Int.toNat_of_nonneg h2]
      congr 6
      simp
    · cases h
  · cases h
/-- a pipe between two places -/
def okP (size : Nat) (p : P3) : Prop := p.1 < size ∧ p.2.1 < size ∧ p.1 ≠ p.2.1
theorem pipeBy_ok {c : Int} {s : Nat} (h : 2 ≤ s) : okP s (pipeBy c s) := by
  unfold okP pipeBy
  have hs : (0 : Int) < s := by omega
  have h1 : 0 ≤ c % s := Int.emod_nonneg _ (by omega)
  have h2 : c % s < s := Int.emod_lt_of_pos _ hs
  have h3 : 0 ≤ c / s % ((s : Int) - 1) := Int.emod_nonneg _ (by omega)
  have h4 : c / s % ((s : Int) - 1) < (s : Int) - 1 := Int.emod_lt_of_pos _ (by omega)
  generalize hx : c % s = x at *
  generalize hy : c / s % ((s : Int) - 1) = y at *
  have h5 : 0 ≤ (x + 1 + y) % s := Int.emod_nonneg _ (by omega)
  have h6 : (x + 1 + y) % s < s := Int.emod_lt_of_pos _ hs
  refine ⟨by simp only; omega, by simp only; omega, ?_⟩
  simp only
  intro e
  have e' : (x + 1 + y) % s = x := by omega
  by_cases c1 : x + 1 + y < s
  · rw [Int.emod_eq_of_lt (by omega) c1] at e'
    omega
  · have : (x + 1 + y) % s = x + 1 + y - s := by
      rw [← Int.sub_emod_right, Int.emod_eq_of_lt (by omega) (by omega)]
    omega
def pipesBy (ns : List Int) (first many size : Nat) : List P3 := if size < 2 then [] else (List.range many).map fun k => pipeBy (cellAt ns (first + k)) size
theorem pipesBy_ok {ns : List Int} {first many size : Nat} : ∀ p ∈ pipesBy ns first many size, okP size p := by
  intro p hp
  unfold pipesBy at hp
  split at hp
  · cases hp
  · obtain ⟨k, _, rfl⟩ := List.mem_map.mp hp
    exact pipeBy_ok (by omega)
theorem pipesBy_len {ns : List Int} {first many size : Nat} : (pipesBy ns first many size).length ≤ many := by
  unfold pipesBy
  split
  · simp
  · simp
def F_law_pipes_by : FN
  | [.val (.scr ns), .val (.int f), .val (.int m), .val (.int s)] => if 0 ≤ f ∧ 0 ≤ m ∧ m ≤ 1000 ∧ 0 ≤ s ∧ s ≤ 1000 then some (.inl (.own .loc (dPs (pipesBy ns f.toNat m.toNat s.toNat)))) else none
  | _ => none
theorem F_pipesBy {ns : List Int} {f m s : Nat} (hm : m ≤ 1000) (hs : s ≤ 1000) : F_law_pipes_by [.val (.scr ns), .val (.int (f : Int)), .val (.int (m : Int)), .val (.int (s : Int))] = some (.inl (.own .loc (dPs (pipesBy ns f m s)))) := by
  exact ite_some (show 0 ≤ (f : Int) ∧ 0 ≤ (m : Int) ∧ (m : Int) ≤ 1000 ∧ 0 ≤ (s : Int) ∧ (s : Int) ≤ 1000 by omega)
/-- _law_pipes_by: 0 script 1 first 2 many 3 size 4 k -/
def t_law_pipes_by : VT := (seqT (ifT (bV (v2 fLt (vVar 3) (vC (.int 2)))) (seqT (retO (oLst aNil)) skipT) skipT) (seqT (retO (vLc [4] (lRng1 (vVar 2)) (gN 4) bT (v1 slD (v1 inlO (xCall 2 F_law_pipe_by (rV (v1 slD (v1 inlO (xCall 2 F_law_cell_at (rV (vVar 0) (rV (v2 fAdd (vVar 1) (vVar 4)) rNil))))) (rV (vVar 3) rNil))))))) skipT))
theorem v_law_pipes_by : ∀ ss r, ss.length = 4 → F_law_pipes_by ss = some r → t_law_pipes_by (postP r) (En0 ss 5) ∧ ∃ s, r = .inl s := by
  intro ss r hl h
  unfold F_law_pipes_by at h
  split at h
  · rename_i ns f m s
    split at h
    · rename_i hs
      have h := Option.some.inj h
      subst h
      refine ⟨?_, _, rfl⟩
      obtain ⟨f, rfl⟩ := Int.eq_ofNat_of_zero_le hs.1
      obtain ⟨m, rfl⟩ := Int.eq_ofNat_of_zero_le hs.2.1
      obtain ⟨s, rfl⟩ := Int.eq_ofNat_of_zero_le hs.2.2.2.1
      simp only [Int.toNat_natCast]
      refine if_d (p := (s : Int) < 2) rfl (fun c => ?_) (fun c => ?_)
      · refine ⟨_, rfl, ?_⟩
        show (Sum.inl (Sl.own .loc (dPs (pipesBy ns f m s))) : Rs) = _
        unfold pipesBy
        rw [if_pos (by omega)]
        rfl
      · refine ⟨_, vlc_map (h := fun k => dP (pipeBy (cellAt ns (f + k)) s)) (rng1e (i := (m : Int)) rfl (by omega)) (by simp; omega) (fun k hk => ?_), ?_⟩
        · refine lcS1 rfl rfl ?_
          refine v1e (v1e (xc (rVe (v1e (v1e (xc rfl ⟨rfl, rfl⟩ rfl (F_cell (k := f + k))) rfl) rfl) rfl) ⟨rfl, rfl⟩ rfl (F_pipeBy (by omega))) rfl) rfl
        · show (Sum.inl (Sl.own .loc (dPs (pipesBy ns f m s))) : Rs) = _
          unfold pipesBy
          rw [if_neg (by omega)]
          unfold dPs
          rw [List.map_map]
          rfl
    · cases h
  · cases h
end Z

set_option maxRecDepth 100000
namespace Z
open PySem PySem.Spec PyProof.Rows L2

def roD : Sl → Option (List D)
  | .val (.lst ds) => some ds
  | .own .ro ds => some ds
  | _ => none
def okPs (size : Nat) (ps : List P3) : Bool := ps.all fun p => decide (p.1 < size ∧ p.2.1 < size ∧ p.1 ≠ p.2.1)
theorem okPs_iff {size : Nat} {ps : List P3} : okPs size ps = true ↔ ∀ p ∈ ps, okP size p := by
  unfold okPs okP
  simp
/-- a net that may be: so many places, so many pipes -/
def okNet (size : Nat) (ps : List P3) : Prop := 1 ≤ size ∧ size ≤ 12 ∧ okPs size ps = true ∧ ps.length ≤ 60
instance (size : Nat) (ps : List P3) : Decidable (okNet size ps) := by unfold okNet; infer_instance
def F_law_net_by : FN
  | [.val (.int s), x] => (roD x).bind fun ds => (decs ds : Option (List P3)).bind fun ps => if 0 ≤ s ∧ okNet s.toNat ps then some (.inl (.net .loc s (dPs ps))) else none
  | _ => none
theorem F_netBy {s : Nat} {ps : List P3} {x : Sl} (hx : roD x = some (dPs ps)) (h : okNet s ps) : F_law_net_by [.val (.int (s : Int)), x] = some (.inl (.net .loc (s : Int) (dPs ps))) := by
  show (roD x).bind _ = _
  rw [hx, Option.bind_some, decs_dPs, Option.bind_some]
  exact ite_some ⟨Int.natCast_nonneg s, h⟩
/-- _law_net_by: 0 size 1 pipes 2 net 3 start 4 goal 5 opened 6 number -/
def t_law_net_by : VT := (seqT (asgO 2 (v1 inlO (newF (vVar 0)))) (seqT (forT (roL 1) (gT [3, 4, 5]) (seqT (nmT (some 6) 3 G_lay 2 (rV (vVar 3) (rV (vVar 4) rNil))) (seqT (ifT (bNot (bV (vVar 5))) (seqT (nmT none 2 G_shut 2 (rV (vVar 6) rNil)) skipT) skipT) skipT))) (seqT (retS 2) skipT)))
theorem lay_ok {size : Nat} {done : List P3} {a b : Nat} (h1 : a < size) (h2 : b < size) (h3 : a ≠ b) (h4 : done.length < 60) : G_lay [.net .mut (size : Int) (dPs done), .val (.int (a : Int)), .val (.int (b : Int))] =
    some (.inl (.val (.int (done.length : Int))), [.net .mut (size : Int) (dPs (done ++ [(a, b, true)])), .val (.int (a : Int)), .val (.int (b : Int))]) := by
  have e : layPs (size : Int) (dPs done) a b = .inr (dPs (done ++ [(a, b, true)])) := by
    unfold layPs
    rw [if_neg (by omega), if_neg (by omega), if_neg (by omega), if_neg (by simp [dPs]; omega)]
    simp [dPs, dP]
  unfold G_lay
  simp only [e]
  simp [dPs]
theorem turnPs_ok {ps : List P3} {k : Nat} {p : P3} {o : Bool} (h : ps[k]? = some p) : turnPs (dPs ps) (k : Int) o = some (some (dPs (ps.set k (p.1, p.2.1, o)))) := by
  have hk : k < ps.length := (List.getElem?_eq_some_iff.mp h).1
  unfold turnPs
  rw [if_neg (by simp [dPs]; omega)]
  rw [Int.toNat_natCast]
  have e : (dPs ps)[k]? = some (.tup [.int (p.1 : Int), .int (p.2.1 : Int), .bl p.2.2]) := by
    unfold dPs
    rw [List.getElem?_map, h]
    rfl
  rw [e]
  show some (some ((dPs ps).set k _)) = _
  unfold dPs
  rw [List.map_set]
  rfl
theorem roL_of {x : Sl} {ds : List D} (h : roD x = some ds) (a : Option Sl) (Γ : En) : roL 1 (a :: some x :: Γ) = some ds := by
  unfold roD at h
  split at h
  · cases h; rfl
  · cases h; rfl
  · cases h
theorem roS_of {x : Sl} {ds : List D} (h : roD x = some ds) : roS x = x := by
  unfold roD at h
  split at h
  · rfl
  · rfl
  · cases h
theorem v_law_net_by : ∀ ss r, ss.length = 2 → F_law_net_by ss = some r → t_law_net_by (postP r) (En0 ss 7) ∧ ∃ s, r = .inl s := by
  intro ss r hl h
  unfold F_law_net_by at h
  split at h
  · rename_i s x
    obtain ⟨ds, e1, h'⟩ := Option.bind_eq_some_iff.mp h
    obtain ⟨ps, e2, h''⟩ := Option.bind_eq_some_iff.mp h'
    split at h''
    · rename_i hs
      have h := Option.some.inj h''
      subst h
      cases dPs_some e2
      refine ⟨?_, _, rfl⟩
      obtain ⟨s, rfl⟩ := Int.eq_ofNat_of_zero_le hs.1
      obtain ⟨_, h1, h2, h3, h4⟩ := hs
      simp only [Int.toNat_natCast] at h1 h2 h3
      have h3 := okPs_iff.mp h3
      refine ⟨.net .loc (s : Int) [], v1e (x := .inl (.net .loc (s : Int) [])) ?_ rfl, ?_⟩
      · show some (if 1 ≤ (s : Int) ∧ (s : Int) ≤ 12 then _ else _) = _
        rw [if_pos (by omega)]
      refine ⟨dPs ps, roL_of e1 _ _, ?_⟩
      refine loopT_inv (fun rest Γ => ∃ done v3 v4 v5 v6, ps = done ++ rest ∧ Γ = [some (.val (.int (s : Int))), some x, some (.net .loc (s : Int) (dPs done)), v3, v4, v5, v6]) ?_ ?_ ps _ ⟨[], none, none, none, none, rfl, rfl⟩
      · rintro ⟨a, b, o⟩ xs Γ k ⟨done, v3, v4, v5, v6, e, rfl⟩ hk
        have ok := h3 (a, b, o) (by rw [e]; simp)
        have hlen : done.length < 60 := by
          have := congrArg List.length e
          simp at this
          omega
        refine ⟨_, rfl, ?_⟩
        refine ⟨rfl, _, _, _, _, rfl, ⟨rfl, rfl⟩, rfl, lay_ok ok.1 ok.2.1 ok.2.2 hlen, ?_⟩
        refine if_d (p := ¬ o = true) ?_ (fun c => ?_) (fun c => ?_)
        · exact bNot_d (p := o = true) (by show some o = _; simp)
        · have hsh : G_shut [.net .mut (s : Int) (dPs (done ++ [(a, b, true)])), .val (.int (done.length : Int))] = some (.inl (.val .non), [.net .mut (s : Int) (dPs (done ++ [(a, b, false)])), .val (.int (done.length : Int))]) := by
            unfold G_shut
            simp only
            rw [turnPs_ok (p := (a, b, true)) (by simp)]
            show some (Sum.inl (Sl.val D.non), _) = _
            congr 5
            simp
          refine ⟨rfl, _, _, _, _, rfl, ⟨rfl, rfl⟩, rfl, hsh, ?_⟩
          have : o = false := by simpa using c
          subst this
          exact hk _ ⟨done ++ [(a, b, false)], _, _, _, _, by rw [e]; simp, rfl⟩
        · have : o = true := by simpa using c
          subst this
          exact hk _ ⟨done ++ [(a, b, true)], _, _, _, _, by rw [e]; simp, rfl⟩
      · rintro Γ ⟨done, v3, v4, v5, v6, e, rfl⟩
        rw [List.append_nil] at e
        subst e
        exact ⟨_, rfl, rfl, rfl⟩
    · cases h''
  · cases h

/-! ### sizes -/
def sizeOf (ns : List Int) (small : Nat) : Nat := if cellAt ns 0 / 16 % 8 = 1 then 12 else (1 + cellAt ns 0 % small).toNat
def F_law_size_of : FN
  | [.val (.scr ns), .val (.int k)] => if 0 < k then some (.inl (.val (.int (sizeOf ns k.toNat : Nat)))) else none
  | _ => none
theorem F_sizeOf {ns : List Int} {k : Nat} (h : 0 < k) : F_law_size_of [.val (.scr ns), .val (.int (k : Int))] = some (.inl (.val (.int (sizeOf ns k : Nat)))) := ite_some (show 0 < (k : Int) by omega)
/-- _law_size_of: 0 script 1 small 2 head -/
def t_law_size_of : VT := (seqT (asgV 2 (v1 slD (v1 inlO (xCall 2 F_law_cell_at (rV (vVar 0) (rV (vC (.int 0)) rNil)))))) (seqT (ifT (bV (v2 fEq (v2 fMod (v2 fDiv (vVar 2) (vC (.int 16))) (vC (.int 8))) (vC (.int 1)))) (seqT (retV (vC (.int 12))) skipT) skipT) (seqT (retV (v2 fAdd (vC (.int 1)) (v2 fMod (vVar 2) (vVar 1)))) skipT)))
theorem v_law_size_of : ∀ ss r, ss.length = 2 → F_law_size_of ss = some r → t_law_size_of (postP r) (En0 ss 3) ∧ ∃ s, r = .inl s := by
  intro ss r hl h
  unfold F_law_size_of at h
  split at h
  · rename_i ns k
    split at h
    · rename_i hk
      have h := Option.some.inj h
      subst h
      refine ⟨?_, _, rfl⟩
      refine ⟨.int (cellAt ns 0), v1e (v1e (xc rfl ⟨rfl, rfl⟩ rfl (F_cell (k := 0))) rfl) rfl, ?_⟩
      refine if_d (p := cellAt ns 0 / 16 % 8 = 1) rfl (fun c => ?_) (fun c => ?_)
      · refine ⟨_, rfl, ?_⟩
        show (Sum.inl (Sl.val (.int (sizeOf ns k.toNat : Nat))) : Rs) = _
        unfold sizeOf
        rw [if_pos c]
        rfl
      · refine ⟨_, v2e rfl (v2e rfl rfl (fMod_pos hk)) rfl, ?_⟩
        show (Sum.inl (Sl.val (.int (sizeOf ns k.toNat : Nat))) : Rs) = _
        unfold sizeOf
        rw [if_neg c]
        have : 0 ≤ cellAt ns 0 % k := Int.emod_nonneg _ (by omega)
        rw [show ((k.toNat : Nat) : Int) = k by omega, Int.toNat_of_nonneg (by omega)]
    · cases h
  · cases h
def manyOf (ns : List Int) (small : Nat) : Nat := if cellAt ns 1 / 32 % 4 = 1 then min (ns.length - 6) 55 else (cellAt ns 1 % (small + 1)).toNat
def F_law_many_of : FN
  | [.val (.scr ns), .val (.int k)] => if 0 ≤ k then some (.inl (.val (.int (manyOf ns k.toNat : Nat)))) else none
  | _ => none
theorem F_manyOf {ns : List Int} {k : Nat} : F_law_many_of [.val (.scr ns), .val (.int (k : Int))] = some (.inl (.val (.int (manyOf ns k : Nat)))) := ite_some (show 0 ≤ (k : Int) by omega)
/-- _law_many_of: 0 script 1 small 2 head -/
def t_law_many_of : VT := (seqT (asgV 2 (v1 slD (v1 inlO (xCall 2 F_law_cell_at (rV (vVar 0) (rV (vC (.int 1)) rNil)))))) (seqT (ifT (bV (v2 fEq (v2 fMod (v2 fDiv (vVar 2) (vC (.int 32))) (vC (.int 4))) (vC (.int 1)))) (seqT (retV (v2 fMin (v2 fMax (vC (.int 0)) (v2 fSub (v1 fLen (vVar 0)) (vC (.int 6)))) (vC (.int 55)))) skipT) skipT) (seqT (retV (v2 fMod (vVar 2) (v2 fAdd (vVar 1) (vC (.int 1))))) skipT)))
theorem v_law_many_of : ∀ ss r, ss.length = 2 → F_law_many_of ss = some r → t_law_many_of (postP r) (En0 ss 3) ∧ ∃ s, r = .inl s := by
  intro ss r hl h
  unfold F_law_many_of at h
  split at h
  · rename_i ns k
    split at h
    · rename_i hk
      have h := Option.some.inj h
      subst h
      refine ⟨?_, _, rfl⟩
      refine ⟨.int (cellAt ns 1), v1e (v1e (xc rfl ⟨rfl, rfl⟩ rfl (F_cell (k := 1))) rfl) rfl, ?_⟩
      refine if_d (p := cellAt ns 1 / 32 % 4 = 1) rfl (fun c => ?_) (fun c => ?_)
      · refine ⟨_, rfl, ?_⟩
        show (Sum.inl (Sl.val (.int (manyOf ns k.toNat : Nat))) : Rs) = Sum.inl (Sl.val (D.int (if (55 : Int) < (if (ns.length : Int) - 6 > 0 then (ns.length : Int) - 6 else 0) then 55 else (if (ns.length : Int) - 6 > 0 then (ns.length : Int) - 6 else 0))))
        unfold manyOf
        rw [if_pos c]
        congr 3
        split <;> split <;> omega
      · refine ⟨_, v2e rfl rfl (fMod_pos (by omega)), ?_⟩
        show (Sum.inl (Sl.val (.int (manyOf ns k.toNat : Nat))) : Rs) = _
        unfold manyOf
        rw [if_neg c]
        have : 0 ≤ cellAt ns 1 % (k + 1) := Int.emod_nonneg _ (by omega)
        rw [show ((k.toNat : Nat) : Int) = k by omega, Int.toNat_of_nonneg (by omega)]
    · cases h
  · cases h
theorem sizeOf_le {ns : List Int} {k : Nat} (h : 0 < k) (h2 : k ≤ 12) : 1 ≤ sizeOf ns k ∧ sizeOf ns k ≤ 12 := by
  unfold sizeOf
  split
  · omega
  · have h1 : 0 ≤ cellAt ns 0 % k := Int.emod_nonneg _ (by omega)
    have h3 : cellAt ns 0 % k < k := Int.emod_lt_of_pos _ (by omega)
    omega
theorem manyOf_le {ns : List Int} {k : Nat} (h2 : k ≤ 55) : manyOf ns k ≤ 55 := by
  unfold manyOf
  split
  · omega
  · have h1 : 0 ≤ cellAt ns 1 % (k + 1) := Int.emod_nonneg _ (by omega)
    have h3 : cellAt ns 1 % (k + 1) < k + 1 := Int.emod_lt_of_pos _ (by omega)
    omega
end Z

set_option maxRecDepth 100000
namespace Z
open PySem PySem.Spec PyProof.Rows L2

/-! ### what water comes to: plain mathematics -/
inductive Rch (es : List (Nat × Nat)) : Nat → Prop
  | zero : Rch es 0
  | step {s g : Nat} : Rch es s → (s, g) ∈ es → Rch es g
theorem Rch.mono {es fs : List (Nat × Nat)} (h : ∀ e ∈ es, e ∈ fs) {v : Nat} (r : Rch es v) : Rch fs v := by
  induction r with
  | zero => exact .zero
  | step _ he ih => exact .step ih (h _ he)
/-- a closed set holds all that is reached -/
theorem Rch.closed {es : List (Nat × Nat)} {P : Nat → Prop} (h0 : P 0) (hs : ∀ s g, P s → (s, g) ∈ es → P g) {v : Nat} (r : Rch es v) : P v := by
  induction r with
  | zero => exact h0
  | step _ he ih => exact hs _ _ ih he

/-! ### the law's own walk -/
def lwStep (here : List Nat) (e : Nat × Nat) : List Nat := if e.1 ∈ here ∧ e.2 ∉ here then here ++ [e.2] else here
def lwPass (es : List (Nat × Nat)) (here : List Nat) : List Nat := es.foldl lwStep here
def lwIter (es : List (Nat × Nat)) : Nat → List Nat → List Nat
  | 0, here => here
  | n + 1, here => lwIter es n (lwPass es here)
theorem lwStep_sub {here : List Nat} {e : Nat × Nat} {v : Nat} (h : v ∈ here) : v ∈ lwStep here e := by
  unfold lwStep
  split
  · exact List.mem_append_left _ h
  · exact h
theorem lwPass_sub {es : List (Nat × Nat)} : ∀ {here : List Nat} {v : Nat}, v ∈ here → v ∈ lwPass es here := by
  induction es with
  | nil => exact fun h => h
  | cons e es ih => exact fun h => ih (lwStep_sub h)
theorem lwIter_sub {es : List (Nat × Nat)} : ∀ {n : Nat} {here : List Nat} {v : Nat}, v ∈ here → v ∈ lwIter es n here
  | 0, _, _, h => h
  | n + 1, _, _, h => lwIter_sub (n := n) (lwPass_sub h)
/-- what holds of a walk's state -/
structure LwOk (all : List (Nat × Nat)) (size : Nat) (here : List Nat) : Prop where
  nd : here.Nodup
  lt : ∀ v ∈ here, v < size
  rch : ∀ v ∈ here, Rch all v
theorem lwStep_ok {all : List (Nat × Nat)} {size : Nat} {here : List Nat} {e : Nat × Nat} (h : LwOk all size here) (he : e ∈ all) (hlt : e.2 < size) : LwOk all size (lwStep here e) := by
  unfold lwStep
  split
  · rename_i c
    refine ⟨?_, fun v hv => ?_, fun v hv => ?_⟩
    · rw [List.nodup_append]
      exact ⟨h.nd, by simp, fun a ha b hb => by
        simp at hb
        subst hb
        intro z
        subst z
        exact c.2 ha⟩
    · rcases List.mem_append.mp hv with q | q
      · exact h.lt v q
      · simp at q; subst q; exact hlt
    · rcases List.mem_append.mp hv with q | q
      · exact h.rch v q
      · simp at q; subst q; exact .step (h.rch _ c.1) he
  · exact h
theorem lwPass_ok {all : List (Nat × Nat)} {size : Nat} : ∀ {es : List (Nat × Nat)} {here : List Nat}, (∀ e ∈ es, e ∈ all ∧ e.2 < size) → LwOk all size here → LwOk all size (lwPass es here)
  | [], _, _, h => h
  | e :: es, _, he, h => lwPass_ok (es := es) (fun x hx => he x (List.mem_cons_of_mem _ hx)) (lwStep_ok h (he e (by simp)).1 (he e (by simp)).2)
theorem lwIter_ok {all : List (Nat × Nat)} {size : Nat} (he : ∀ e ∈ all, e.2 < size) : ∀ {n : Nat} {here : List Nat}, LwOk all size here → LwOk all size (lwIter all n here)
  | 0, _, h => h
  | n + 1, _, h => lwIter_ok he (n := n) (lwPass_ok (fun e q => ⟨q, he e q⟩) h)
theorem lwStep_len {here : List Nat} {e : Nat × Nat} : here.length ≤ (lwStep here e).length := by
  unfold lwStep
  split
  · simp
  · exact Nat.le_refl _
theorem lwPass_len : ∀ {es : List (Nat × Nat)} {here : List Nat}, here.length ≤ (lwPass es here).length
  | [], _ => Nat.le_refl _
  | e :: es, _ => Nat.le_trans lwStep_len (lwPass_len (es := es))
/-- no more came: it is closed -/
theorem lwPass_fix : ∀ {es : List (Nat × Nat)} {here : List Nat}, (lwPass es here).length = here.length → (lwPass es here = here ∧ ∀ s g, (s, g) ∈ es → s ∈ here → g ∈ here)
  | [], _, _ => ⟨rfl, fun _ _ h => by cases h⟩
  | e :: es, here, h => by
    have h1 : (lwStep here e).length = here.length := by
      have := lwPass_len (es := es) (here := lwStep here e)
      have h2 := lwStep_len (here := here) (e := e)
      have h3 : (lwPass es (lwStep here e)).length = here.length := h
      omega
    have nc : ¬ (e.1 ∈ here ∧ e.2 ∉ here) := fun c => by
      unfold lwStep at h1
      rw [if_pos c] at h1
      simp at h1
    have es1 : lwStep here e = here := by unfold lwStep; rw [if_neg nc]
    have h' : (lwPass es here).length = here.length := by
      have h3 : (lwPass es (lwStep here e)).length = here.length := h
      rw [es1] at h3
      exact h3
    obtain ⟨q1, q2⟩ := lwPass_fix h'
    refine ⟨?_, fun s g hm hs => ?_⟩
    · show lwPass es (lwStep here e) = here
      rw [es1, q1]
    · rcases List.mem_cons.mp hm with z | z
      · subst z
        exact Decidable.byContradiction fun c => nc ⟨hs, c⟩
      · exact q2 s g z hs
theorem lwIter_fix {es : List (Nat × Nat)} {here : List Nat} (h : lwPass es here = here) : ∀ n, lwIter es n here = here
  | 0 => rfl
  | n + 1 => by show lwIter es n (lwPass es here) = here; rw [h]; exact lwIter_fix h n
theorem nodup_lt_len {size : Nat} {xs : List Nat} (nd : xs.Nodup) (h : ∀ v ∈ xs, v < size) : xs.length ≤ size := by
  have : xs.length ≤ (List.range size).length := nd.length_le_of_subset fun v hv => List.mem_range.mpr (h v hv)
  simpa using this
theorem lwIter_closed {es : List (Nat × Nat)} {size : Nat} (he : ∀ e ∈ es, e.2 < size) : ∀ {n : Nat} {here : List Nat}, LwOk es size here → size + 1 ≤ here.length + n → ∀ s g, (s, g) ∈ es → s ∈ lwIter es n here → g ∈ lwIter es n here
  | 0, here, h, hl => by
    have := nodup_lt_len h.nd h.lt
    omega
  | n + 1, here, h, hl => by
    by_cases c : (lwPass es here).length = here.length
    · obtain ⟨q1, q2⟩ := lwPass_fix c
      intro s g hm hs
      show g ∈ lwIter es n (lwPass es here)
      have hs : s ∈ lwIter es n (lwPass es here) := hs
      rw [q1, lwIter_fix q1] at hs ⊢
      exact q2 s g hm hs
    · have := lwPass_len (es := es) (here := here)
      exact lwIter_closed he (n := n) (lwPass_ok (fun e q => ⟨q, he e q⟩) h) (by omega)
/-- the law's walk finds what is reached -/
theorem lw_iff {es : List (Nat × Nat)} {size : Nat} (h0 : 0 < size) (he : ∀ e ∈ es, e.2 < size) {v : Nat} : v ∈ lwIter es size [0] ↔ Rch es v := by
  have ok : LwOk es size [0] := ⟨by simp, by simpa using h0, fun v hv => by simp at hv; subst hv; exact .zero⟩
  refine ⟨fun h => (lwIter_ok he ok).rch v h, fun r => ?_⟩
  exact r.closed (P := fun v => v ∈ lwIter es size [0]) (lwIter_sub (by simp)) fun s g hs hm => lwIter_closed he ok (by simp; omega) s g hm hs
theorem lw_nodup {es : List (Nat × Nat)} {size : Nat} (h0 : 0 < size) (he : ∀ e ∈ es, e.2 < size) : (lwIter es size [0]).Nodup ∧ ∀ v ∈ lwIter es size [0], v < size := by
  have ok : LwOk es size [0] := ⟨by simp, by simpa using h0, fun v hv => by simp at hv; subst hv; exact .zero⟩
  exact ⟨(lwIter_ok he ok).nd, (lwIter_ok he ok).lt⟩

/-! ### the program's walk -/
abbrev Here := List (Option Int)
def someAt (here : Here) (v : Nat) : Bool := match here[v]? with
  | some (some _) => true
  | _ => false
def wStep (st : Here × Bool) (e : O3) : Here × Bool := if someAt st.1 e.2.1 = true ∧ someAt st.1 e.2.2 = false then (st.1.set e.2.2 (some (e.1 : Int)), true) else st
def wPass (es : List O3) (here : Here) : Here × Bool := es.foldl wStep (here, false)
def wGo (es : List O3) : Nat → Here → Here
  | 0, here => here
  | n + 1, here => if (wPass es here).2 = true then wGo es n (wPass es here).1 else (wPass es here).1
def here0 (size : Nat) : Here := (List.replicate size none).set 0 (some (-1))
def wet (size : Nat) (es : List O3) : Here := wGo es (size + 1) (here0 size)
def prs (es : List O3) : List (Nat × Nat) := es.map (·.2)
theorem someAt_set {here : Here} {v w : Nat} {x : Int} (h : v < here.length) : someAt (here.set v (some x)) w = (if w = v then true else someAt here w) := by
  unfold someAt
  by_cases e : w = v
  · subst e
    rw [List.getElem?_set_self h, if_pos rfl]
  · rw [List.getElem?_set_ne (Ne.symm e), if_neg e]
/-- what holds of the walk's state: the length; the spring; only what is reached; each place by a pipe from one that came ahead of it -/
structure WOk (all : List O3) (size : Nat) (here : Here) : Prop where
  len : here.length = size
  spr : here[0]? = some (some (-1))
  rch : ∀ v, someAt here v = true → Rch (prs all) v
  par : ∃ rk : Nat → Nat, ∀ v n, v ≠ 0 → here[v]? = some (some n) → ∃ s, (∃ m : Nat, n = (m : Int) ∧ (m, s, v) ∈ all) ∧ someAt here s = true ∧ rk s < rk v
theorem someAt_iff {here : Here} {v : Nat} : someAt here v = true ↔ ∃ n, here[v]? = some (some n) := by
  unfold someAt
  constructor
  · intro h
    split at h
    · exact ⟨_, by assumption⟩
    · cases h
  · rintro ⟨n, h⟩
    rw [h]
theorem wStep_ok {all : List O3} {size : Nat} {st : Here × Bool} {e : O3} (h : WOk all size st.1) (he : e ∈ all) (hlt : e.2.2 < size) : WOk all size (wStep st e).1 := by
  unfold wStep
  split
  · rename_i c
    obtain ⟨m, s, g⟩ := e
    simp only at c hlt ⊢
    have hg0 : g ≠ 0 := fun z => by
      subst z
      have : someAt st.1 0 = true := someAt_iff.mpr ⟨_, h.spr⟩
      rw [this] at c
      cases c.2
    have hl : g < st.1.length := by rw [h.len]; exact hlt
    refine ⟨by simp [h.len], ?_, fun v hv => ?_, ?_⟩
    · rw [List.getElem?_set_ne hg0]
      exact h.spr
    · rw [someAt_set hl] at hv
      split at hv
      · rename_i e
        subst e
        exact .step (h.rch _ c.1) (List.mem_map.mpr ⟨(m, s, v), he, rfl⟩)
      · exact h.rch v hv
    · obtain ⟨rk, hr⟩ := h.par
      refine ⟨fun x => if x = g then rk s + 1 else rk x, fun v n h0 hv => ?_⟩
      have sg : s ≠ g := fun z => by rw [z] at c; rw [c.1] at c; cases c.2
      by_cases e : v = g
      · subst e
        rw [List.getElem?_set_self hl] at hv
        cases hv
        refine ⟨s, ⟨m, rfl, he⟩, ?_, by simp [sg]⟩
        rw [someAt_set hl, if_neg sg]
        exact c.1
      · rw [List.getElem?_set_ne (Ne.symm e)] at hv
        obtain ⟨s', q1, q2, q3⟩ := hr v n h0 hv
        have s'g : s' ≠ g := fun z => by rw [z] at q2; rw [q2] at c; cases c.2
        refine ⟨s', q1, ?_, by simp [e, s'g, q3]⟩
        rw [someAt_set hl, if_neg s'g]
        exact q2
  · exact h
theorem wFold_ok {all : List O3} {size : Nat} : ∀ {es : List O3} {st : Here × Bool}, (∀ e ∈ es, e ∈ all ∧ e.2.2 < size) → WOk all size st.1 → WOk all size (es.foldl wStep st).1
  | [], _, _, h => h
  | e :: es, _, he, h => wFold_ok (es := es) (fun x hx => he x (List.mem_cons_of_mem _ hx)) (wStep_ok h (he e (by simp)).1 (he e (by simp)).2)
/-- how many places are dry -/
def dry (here : Here) : Nat := here.countP (fun o => o.isNone)
theorem dry_set {here : Here} {v : Nat} {x : Int} (h : v < here.length) (hv : someAt here v = false) : dry (here.set v (some x)) + 1 = dry here := by
  unfold dry
  induction here generalizing v with
  | nil => simp at h
  | cons o here ih =>
    cases v with
    | zero =>
      have : o = none := by
        unfold someAt at hv
        simp at hv
        cases o with
        | none => rfl
        | some n => simp at hv
      subst this
      simp [List.countP_cons]
    | succ v =>
      have := ih (v := v) (by simpa using h) (by unfold someAt at hv ⊢; simpa using hv)
      simp only [List.set_cons_succ, List.countP_cons]
      omega
theorem wStep_dry {st : Here × Bool} {e : O3} (hlt : e.2.2 < st.1.length) : (wStep st e = st ∧ ¬ (someAt st.1 e.2.1 = true ∧ someAt st.1 e.2.2 = false)) ∨ ((wStep st e).2 = true ∧ dry (wStep st e).1 < dry st.1) := by
  unfold wStep
  split
  · rename_i c
    exact .inr ⟨rfl, by have := dry_set (x := (e.1 : Int)) hlt c.2; simp only; omega⟩
  · rename_i c
    exact .inl ⟨rfl, c⟩
theorem wStep_len {st : Here × Bool} {e : O3} : (wStep st e).1.length = st.1.length := by
  unfold wStep
  split <;> simp
theorem wStep_true {st : Here × Bool} {e : O3} (h : st.2 = true) : (wStep st e).2 = true := by
  unfold wStep
  split
  · rfl
  · exact h
theorem wFold_true : ∀ {es : List O3} {st : Here × Bool}, st.2 = true → (es.foldl wStep st).2 = true
  | [], _, h => h
  | e :: es, _, h => wFold_true (es := es) (wStep_true h)
theorem wFold_dry : ∀ {es : List O3} {st : Here × Bool}, (∀ e ∈ es, e.2.2 < st.1.length) → dry (es.foldl wStep st).1 ≤ dry st.1
  | [], _, _ => Nat.le_refl _
  | e :: es, st, h => by
    have ih := wFold_dry (es := es) (st := wStep st e) fun x hx => by rw [wStep_len]; exact h x (List.mem_cons_of_mem _ hx)
    rcases wStep_dry (h e (by simp)) with ⟨q, _⟩ | ⟨_, q⟩
    · rw [List.foldl_cons]; rw [q] at ih ⊢; exact ih
    · rw [List.foldl_cons]; omega
theorem wFold_turn : ∀ {es : List O3} {st : Here × Bool}, (∀ e ∈ es, e.2.2 < st.1.length) → st.2 = false → ((es.foldl wStep st) = st ∧ ∀ e ∈ es, ¬ (someAt st.1 e.2.1 = true ∧ someAt st.1 e.2.2 = false)) ∨ ((es.foldl wStep st).2 = true ∧ dry (es.foldl wStep st).1 < dry st.1)
  | [], _, _, _ => .inl ⟨rfl, fun e h => by cases h⟩
  | e :: es, st, h, hf => by
    rw [List.foldl_cons]
    have h' : ∀ x ∈ es, x.2.2 < (wStep st e).1.length := fun x hx => by rw [wStep_len]; exact h x (List.mem_cons_of_mem _ hx)
    rcases wStep_dry (h e (by simp)) with ⟨q, nc⟩ | ⟨q1, q2⟩
    · rw [q] at h' ⊢
      rcases wFold_turn h' hf with ⟨r1, r2⟩ | r
      · refine .inl ⟨r1, fun x hx => ?_⟩
        rcases List.mem_cons.mp hx with rfl | hx
        · exact nc
        · exact r2 x hx
      · exact .inr r
    · have := wFold_dry h'
      exact .inr ⟨wFold_true q1, by omega⟩
theorem wGo_ok {es : List O3} {size : Nat} (he : ∀ e ∈ es, e.2.2 < size) : ∀ {n : Nat} {here : Here}, WOk es size here → WOk es size (wGo es n here)
  | 0, _, h => h
  | n + 1, here, h => by
    have h1 : WOk es size (wPass es here).1 := wFold_ok (st := (here, false)) (fun e q => ⟨q, he e q⟩) h
    unfold wGo
    split
    · exact wGo_ok he h1
    · exact h1
theorem wGo_closed {es : List O3} {size : Nat} (he : ∀ e ∈ es, e.2.2 < size) : ∀ {n : Nat} {here : Here}, here.length = size → dry here < n → ∀ e ∈ es, someAt (wGo es n here) e.2.1 = true → someAt (wGo es n here) e.2.2 = true
  | 0, _, _, h => by omega
  | n + 1, here, hl, h => by
    have h1 := wFold_turn (es := es) (st := (here, false)) (fun e q => by show e.2.2 < here.length; rw [hl]; exact he e q) rfl
    unfold wGo
    rcases h1 with ⟨q1, q2⟩ | ⟨q1, q2⟩
    · have e1 : wPass es here = (here, false) := q1
      rw [e1]
      simp only [Bool.false_eq_true, if_false]
      intro e hm hs
      have := q2 e hm
      simp only [hs, true_and] at this
      simpa using this
    · have e1 : (wPass es here).2 = true := q1
      rw [if_pos e1]
      have hl2 : (wPass es here).1.length = size := by
        have : ∀ {es : List O3} {st : Here × Bool}, (es.foldl wStep st).1.length = st.1.length := fun {es} => by
          induction es with
          | nil => intro st; rfl
          | cons e es ih => intro st; rw [List.foldl_cons, ih, wStep_len]
        rw [← hl]
        exact this
      have q2 : dry (wPass es here).1 < dry here := q2
      exact wGo_closed he hl2 (by omega)
theorem here0_len {size : Nat} : (here0 size).length = size := by simp [here0]
theorem dry_le {here : Here} : dry here ≤ here.length := List.countP_le_length
theorem here0_ok {es : List O3} {size : Nat} (h : 0 < size) : WOk es size (here0 size) := by
  have at0 : (here0 size)[0]? = some (some (-1)) := by
    unfold here0
    rw [List.getElem?_set_self (by simpa using h)]
  have els : ∀ v, v ≠ 0 → someAt (here0 size) v = false := fun v hv => by
    unfold someAt here0
    rw [List.getElem?_set_ne (Ne.symm hv), List.getElem?_replicate]
    split <;> rename_i e <;> first | rfl | (split at e <;> cases e)
  refine ⟨here0_len, at0, fun v hv => ?_, fun _ => 0, fun v n h0 hv => ?_⟩
  · by_cases z : v = 0
    · subst z; exact .zero
    · rw [els v z] at hv; cases hv
  · have := someAt_iff.mpr ⟨n, hv⟩
    rw [els v h0] at this
    cases this
theorem wet_ok {es : List O3} {size : Nat} (h : 0 < size) (he : ∀ e ∈ es, e.2.2 < size) : WOk es size (wet size es) := wGo_ok he (here0_ok h)
theorem wet_iff {es : List O3} {size : Nat} (h : 0 < size) (he : ∀ e ∈ es, e.2.2 < size) {v : Nat} : someAt (wet size es) v = true ↔ Rch (prs es) v := by
  refine ⟨(wet_ok h he).rch v, fun r => ?_⟩
  refine r.closed (P := fun v => someAt (wet size es) v = true) (someAt_iff.mpr ⟨_, (wet_ok h he).spr⟩) fun s g hs hm => ?_
  obtain ⟨⟨m, s', g'⟩, hm2, e⟩ := List.mem_map.mp hm
  cases e
  exact wGo_closed he here0_len (by have := dry_le (here := here0 size); rw [here0_len] at this; omega) _ hm2 hs
end Z

set_option maxRecDepth 100000
namespace Z
open PySem PySem.Spec PyProof.Rows L2

/-! ### the law's own looks at a net -/
def dNs (ns : List Nat) : List D := ns.map dInt
instance : Cd Nat where
  enc := dInt
  dec := fun d => match d with
    | .int i => if 0 ≤ i then some i.toNat else none
    | _ => none
  de := fun x => by simp [dInt]
  ed := fun d x h => by
    split at h
    · split at h
      · cases h
        unfold dInt
        rw [Int.toNat_of_nonneg (by assumption)]
      · cases h
    · cases h
theorem decs_dNs (ns : List Nat) : (decs (dNs ns) : Option (List Nat)) = some ns := decs_enc ns
theorem dNs_some {ds : List D} {ns : List Nat} (h : decs ds = some ns) : ds = dNs ns := decs_some h
def pAt (ps : List P3) (k : Nat) : P3 := (ps[k]?).getD (0, 0, false)
theorem pAt_some {ps : List P3} {k : Nat} (h : k < ps.length) : ps[k]? = some (pAt ps k) := by unfold pAt; simp [h]
theorem pAt_mem {ps : List P3} {k : Nat} (h : k < ps.length) : pAt ps k ∈ ps := List.mem_of_getElem? (pAt_some h)
theorem atI_dPs {ps : List P3} {k : Nat} (h : k < ps.length) : atI (dPs ps) (k : Int) = some (dP (pAt ps k)) := by
  refine atI_nat ?_
  unfold dPs
  rw [List.getElem?_map, pAt_some h]
  rfl
/-- pipes[k][j] -/
theorem ixP {Γ : En} {f h : VF} {ps : List P3} {k : Nat} (h1 : f Γ = some (.lst (dPs ps))) (h2 : h Γ = some (dInt k)) (hk : k < ps.length) : v2 fIx f h Γ = some (dP (pAt ps k)) := v2e h1 h2 (atI_dPs hk)
theorem ixP0 {Γ : En} {f : VF} {p : P3} (h : f Γ = some (dP p)) : v2 fIx f (vC (.int 0)) Γ = some (dInt p.1) := v2e h rfl rfl
theorem ixP1 {Γ : En} {f : VF} {p : P3} (h : f Γ = some (dP p)) : v2 fIx f (vC (.int 1)) Γ = some (dInt p.2.1) := v2e h rfl rfl
theorem ixP2 {Γ : En} {f : VF} {p : P3} (h : f Γ = some (dP p)) : v2 fIx f (vC (.int 2)) Γ = some (.bl p.2.2) := v2e h rfl rfl
theorem ixO0 {Γ : En} {f : VF} {p : O3} (h : f Γ = some (dO3 p)) : v2 fIx f (vC (.int 0)) Γ = some (dInt p.1) := v2e h rfl rfl
theorem ixO1 {Γ : En} {f : VF} {p : O3} (h : f Γ = some (dO3 p)) : v2 fIx f (vC (.int 1)) Γ = some (dInt p.2.1) := v2e h rfl rfl
theorem ixO2 {Γ : En} {f : VF} {p : O3} (h : f Γ = some (dO3 p)) : v2 fIx f (vC (.int 2)) Γ = some (dInt p.2.2) := v2e h rfl rfl
/-- a number in a list of numbers -/
theorem inD_ns {n : Nat} {ns : List Nat} : inD (dInt n) (dNs ns) = some (decide (n ∈ ns)) := by
  unfold inD
  have h1 : scalD (dInt n) = true := rfl
  have h2 : (dNs ns).all scalD = true := by unfold dNs; rw [List.all_map]; simp [dInt, scalD, Function.comp_def]
  rw [h1, h2]
  show some _ = _
  refine congrArg some ?_
  unfold dNs
  rw [List.any_map]
  induction ns with
  | nil => rfl
  | cons m ns ih =>
    have ih := ih (by unfold dNs; rw [List.all_map]; simp [dInt, scalD, Function.comp_def])
    rw [List.any_cons, ih]
    have : ((fun y => eqF y (dInt n)) ∘ dInt) m = decide (n = m) := by
      show ((m : Int) == (n : Int)) = _
      by_cases c : n = m
      · subst c; simp
      · have : ¬ (m : Int) = (n : Int) := by omega
        simp [c, this]
    rw [this]
    simp
theorem fIn_ns {neg : Bool} {n : Nat} {ns : List Nat} : fIn neg (dInt n) (dNs ns) = some (.bl (if neg = true then !decide (n ∈ ns) else decide (n ∈ ns))) := by
  unfold fIn
  rw [inD_ns]
  rfl
theorem inE {Γ : En} {f : VF} {h : VL} {n : Nat} {ns : List Nat} (h1 : f Γ = some (dInt n)) (h2 : h Γ = some (dNs ns)) : v2 (fIn false) f h Γ = some (.bl (decide (n ∈ ns))) := v2e h1 h2 fIn_ns
theorem notInE {Γ : En} {f : VF} {h : VL} {n : Nat} {ns : List Nat} (h1 : f Γ = some (dInt n)) (h2 : h Γ = some (dNs ns)) : v2 (fIn true) f h Γ = some (.bl (decide (n ∉ ns))) := v2e h1 h2 (by rw [fIn_ns]; simp)

def lawOpen (ps : List P3) : List Nat := (List.range ps.length).filter fun k => (pAt ps k).2.2
def F_law_open : FN
  | [.val (.lst ds)] => (decs ds : Option (List P3)).bind fun ps => if ps.length ≤ 1000 then some (.inl (.own .loc (dNs (lawOpen ps)))) else none
  | _ => none
theorem F_open {ps : List P3} (h : ps.length ≤ 1000) : F_law_open [.val (.lst (dPs ps))] = some (.inl (.own .loc (dNs (lawOpen ps)))) := by
  show (decs (dPs ps)).bind _ = _
  rw [decs_dPs, Option.bind_some]
  exact ite_some h
/-- _law_open: 0 pipes 1 number -/
def t_law_open : VT := (seqT (retO (vLc [1] (lRng1 (v1 fLenL (lVar 0))) (gN 1) (bV (v2 fIx (v2 fIx (vVar 0) (vVar 1)) (vC (.int 2)))) (vVar 1))) skipT)
theorem lenPs {i : Nat} {Γ : En} {ps : List P3} (h : lVar i Γ = some (dPs ps)) : v1 fLenL (lVar i) Γ = some (.int (ps.length : Int)) := v1e h (by simp [fLenL, dPs])
theorem v_law_open : ∀ ss r, ss.length = 1 → F_law_open ss = some r → t_law_open (postP r) (En0 ss 2) ∧ ∃ s, r = .inl s := by
  intro ss r hl h
  unfold F_law_open at h
  split at h
  · rename_i ds
    obtain ⟨ps, e1, h'⟩ := Option.bind_eq_some_iff.mp h
    split at h'
    · rename_i hs
      have h'' := Option.some.inj h'
      subst h''
      cases dPs_some e1
      refine ⟨⟨_, vlc_filter (p := fun k => (pAt ps k).2.2) (h := dInt) (rng1e (i := (ps.length : Int)) (lenPs rfl) (by omega)) (by simp; omega) (fun k hk => ?_), rfl⟩, _, rfl⟩
      have hk : k < ps.length := by simpa using hk
      exact lcS rfl (bVe (ixP2 (ixP rfl rfl hk))) fun _ => rfl
    · cases h'
  · cases h
/-- pairs of places -/
def dE (e : Nat × Nat) : D := .tup [dInt e.1, dInt e.2]
def dEs (es : List (Nat × Nat)) : List D := es.map dE
instance : Cd (Nat × Nat) where
  enc := dE
  dec := fun d => match d with
    | .tup [.int a, .int b] => if 0 ≤ a ∧ 0 ≤ b then some (a.toNat, b.toNat) else none
    | _ => none
  de := fun x => by simp [dE, dInt]
  ed := fun d x h => by
    split at h
    · split at h
      · rename_i hc
        cases h
        simp only [dE, dInt]
        rw [show ((_ : Int).toNat : Int) = _ from Int.toNat_of_nonneg hc.1, show ((_ : Int).toNat : Int) = _ from Int.toNat_of_nonneg hc.2]
      · cases h
    · cases h
theorem decs_dEs (es : List (Nat × Nat)) : (decs (dEs es) : Option (List (Nat × Nat))) = some es := decs_enc es
def srtN (ns : List Nat) : List Nat := (srt (ns.map fun (n : Nat) => (n : Int))).map Int.toNat
theorem srtN_map (ns : List Nat) : (srt (ns.map fun (n : Nat) => (n : Int))).map D.int = dNs (srtN ns) := by
  unfold dNs srtN
  rw [List.map_map]
  refine List.map_congr_left fun i hi => ?_
  have := (srt_perm _).mem_iff.mp hi
  obtain ⟨n, _, rfl⟩ := List.mem_map.mp this
  show D.int (n : Int) = dInt (n : Int).toNat
  rw [Int.toNat_natCast]
  rfl
theorem srtN_perm (ns : List Nat) : (srtN ns).Perm ns := by
  unfold srtN
  have := (srt_perm (ns.map fun (n : Nat) => (n : Int))).map Int.toNat
  rwa [List.map_map, show (Int.toNat ∘ fun (n : Nat) => (n : Int)) = id from funext fun n => Int.toNat_natCast n, List.map_id] at this
theorem srtN_pairwise (ns : List Nat) : (srtN ns).Pairwise (· ≤ ·) := by
  unfold srtN
  rw [List.pairwise_map]
  exact (srt_pairwise _).imp fun h => by omega
theorem natSorted_eq {as bs : List Nat} (p : as.Perm bs) (h1 : as.Pairwise (· ≤ ·)) (h2 : bs.Pairwise (· ≤ ·)) : as = bs :=
  p.eq_of_pairwise (le := fun (a b : Nat) => a ≤ b) (fun a b _ _ q1 q2 => Nat.le_antisymm q1 q2) h1 h2
theorem srtN_sorted {ns : List Nat} (h : ns.Pairwise (· < ·)) : srtN ns = ns := natSorted_eq (srtN_perm ns) (srtN_pairwise ns) (h.imp Nat.le_of_lt)
theorem fSorted_ns (ns : List Nat) : fSorted (dNs ns) = some (.own .loc (dNs (srtN ns))) := by
  unfold fSorted
  have : dNs ns = (ns.map fun (n : Nat) => (n : Int)).map D.int := by unfold dNs; rw [List.map_map]; rfl
  rw [this, toIs_map]
  show some (Sl.own .loc ((srt _).map D.int)) = _
  rw [srtN_map]
def lawWet (size : Nat) (es : List (Nat × Nat)) : List Nat := srtN (lwIter es size [0])
def F_law_wet : FN
  | [.val (.int s), .val (.lst ds)] => (decs ds : Option (List (Nat × Nat))).bind fun es => if 0 ≤ s ∧ s ≤ 1000 ∧ es.length ≤ 900 then some (.inl (.own .loc (dNs (lawWet s.toNat es)))) else none
  | _ => none
theorem F_wetL {s : Nat} {es : List (Nat × Nat)} (h : s ≤ 1000) (h2 : es.length ≤ 900) : F_law_wet [.val (.int (s : Int)), .val (.lst (dEs es))] = some (.inl (.own .loc (dNs (lawWet s es)))) := by
  show (decs (dEs es)).bind _ = _
  rw [decs_dEs, Option.bind_some]
  exact ite_some (show 0 ≤ (s : Int) ∧ (s : Int) ≤ 1000 ∧ es.length ≤ 900 by omega)
/-- _law_wet: 0 size 1 pairs 2 here 3 turn 4 start 5 goal -/
def t_law_wet : VT := (seqT (asgO 2 (oLst (aCons (vC (.int 0)) aNil))) (seqT (forT (lRng1 (vVar 0)) (gN 3) (seqT (forT (v1 dL (vVar 1)) (gT [4, 5]) (seqT (ifT (bAnd (bV (v2 (fIn false) (vVar 4) (lVar 2))) (bV (v2 (fIn true) (vVar 5) (lVar 2)))) (seqT (appT 2 (vVar 5)) skipT) skipT) skipT)) skipT)) (seqT (retO (v1 fSorted (lVar 2))) skipT)))
theorem lwPass_bound : ∀ (es : List (Nat × Nat)) (here : List Nat), (lwPass es here).length ≤ here.length + es.length
  | [], _ => Nat.le_refl _
  | e :: es, here => by
    have ih := lwPass_bound es (lwStep here e)
    have : (lwStep here e).length ≤ here.length + 1 := by unfold lwStep; split <;> simp
    show (lwPass es (lwStep here e)).length ≤ _
    simp only [List.length_cons]
    omega
theorem lwIter_snoc (es : List (Nat × Nat)) : ∀ (n : Nat) (here : List Nat), lwIter es (n + 1) here = lwPass es (lwIter es n here)
  | 0, _ => rfl
  | n + 1, here => by show lwIter es (n + 1) (lwPass es here) = _; rw [lwIter_snoc es n]; rfl
theorem v_law_wet : ∀ ss r, ss.length = 2 → F_law_wet ss = some r → t_law_wet (postP r) (En0 ss 6) ∧ ∃ s, r = .inl s := by
  intro ss r hl h
  unfold F_law_wet at h
  split at h
  · rename_i s ds
    obtain ⟨es, e1, h'⟩ := Option.bind_eq_some_iff.mp h
    split at h'
    · rename_i hs
      have h'' := Option.some.inj h'
      subst h''
      have ed : ds = dEs es := decs_some e1
      subst ed
      obtain ⟨s, rfl⟩ := Int.eq_ofNat_of_zero_le hs.1
      refine ⟨?_, _, rfl⟩
      simp only [Int.toNat_natCast]
      refine ⟨_, rfl, ?_⟩
      refine ⟨_, rng1e (i := (s : Int)) rfl (by omega), ?_⟩
      refine loopT_inv (fun rest Γ => ∃ here n v3 v4 v5, n + rest.length = s ∧ here = lwIter es n [0] ∧ here.length ≤ 1 + n * es.length ∧ Γ = [some (.val (.int (s : Int))), some (.val (.lst (dEs es))), some (.own .loc (dNs here)), v3, v4, v5]) ?_ ?_ _ _
        ⟨[0], 0, none, none, none, by simp, rfl, by simp, rfl⟩
      · rintro t xs Γ k ⟨here, n, v3, v4, v5, hn, hh, hlen, rfl⟩ hk
        refine ⟨_, rfl, ?_⟩
        refine ⟨dEs es, rfl, ?_⟩
        have bound : n * es.length ≤ 900000 := Nat.mul_le_mul (show n ≤ 1000 by simp at hn; omega) (show es.length ≤ 900 by omega)
        refine loopT_inv (fun rest Γ => ∃ here' v4 v5, lwPass rest here' = lwPass es here ∧ here'.length + rest.length ≤ 1 + n * es.length + es.length ∧ Γ = [some (.val (.int (s : Int))), some (.val (.lst (dEs es))), some (.own .loc (dNs here')), some (.val (dInt t)), v4, v5]) ?_ ?_ es _ ⟨here, v4, v5, rfl, by omega, rfl⟩
        · rintro ⟨a, b⟩ rest Γ k' ⟨here', v4, v5, q1, q2, rfl⟩ hk'
          refine ⟨_, rfl, ?_⟩
          simp only [List.length_cons] at q2
          refine if_d (p := a ∈ here' ∧ b ∉ here') (bAnd_d (bVe (inE rfl rfl)) fun _ => bVe (notInE rfl rfl)) (fun c => ?_) (fun c => ?_)
          · refine ⟨(by intro z; cases z), dInt b, rfl, by simp [dNs]; omega, ?_⟩
            refine hk' _ ⟨here' ++ [b], some (.val (dInt a)), some (.val (dInt b)), ?_, by simp; omega, ?_⟩
            · rw [← q1]
              show lwPass rest (here' ++ [b]) = lwPass rest (lwStep here' (a, b))
              unfold lwStep
              rw [if_pos c]
            · show [_, _, some (Sl.own .loc (dNs here' ++ [dInt b])), _, _, _] = _
              unfold dNs
              rw [List.map_append]
              rfl
          · refine hk' _ ⟨here', _, _, ?_, by omega, rfl⟩
            rw [← q1]
            show lwPass rest here' = lwPass rest (lwStep here' (a, b))
            unfold lwStep
            rw [if_neg c]
        · rintro Γ ⟨here', v4, v5, q1, q2, rfl⟩
          have q1 : here' = lwPass es here := q1
          refine hk _ ⟨here', n + 1, _, _, _, by simp at hn; omega, ?_, ?_, rfl⟩
          · rw [q1, lwIter_snoc, hh]
          · have := lwPass_bound es here
            rw [q1, Nat.succ_mul]
            omega
      · rintro Γ ⟨here, n, v3, v4, v5, hn, hh, hlen, rfl⟩
        simp at hn
        subst hn
        subst hh
        exact ⟨_, v1e rfl (fSorted_ns _), rfl⟩
    · cases h'
  · cases h
def edgesOf (ps : List P3) (ks : List Nat) : List (Nat × Nat) := ks.map fun k => ((pAt ps k).1, (pAt ps k).2.1)
def lawReached (size : Nat) (ps : List P3) : List Nat := lawWet size (edgesOf ps (lawOpen ps))
def F_law_reached : FN
  | [.val (.int s), .val (.lst ds)] => (decs ds : Option (List P3)).bind fun ps => if 0 ≤ s ∧ s ≤ 1000 ∧ ps.length ≤ 900 then some (.inl (.own .loc (dNs (lawReached s.toNat ps)))) else none
  | _ => none
theorem F_reachedL {s : Nat} {ps : List P3} (h : s ≤ 1000) (h2 : ps.length ≤ 900) : F_law_reached [.val (.int (s : Int)), .val (.lst (dPs ps))] = some (.inl (.own .loc (dNs (lawReached s ps)))) := by
  show (decs (dPs ps)).bind _ = _
  rw [decs_dPs, Option.bind_some]
  exact ite_some (show 0 ≤ (s : Int) ∧ (s : Int) ≤ 1000 ∧ ps.length ≤ 900 by omega)
theorem lawOpen_lt {ps : List P3} {k : Nat} (h : k ∈ lawOpen ps) : k < ps.length ∧ (pAt ps k).2.2 = true := by
  unfold lawOpen at h
  rw [List.mem_filter, List.mem_range] at h
  exact h
theorem lawOpen_len (ps : List P3) : (lawOpen ps).length ≤ ps.length := by
  unfold lawOpen
  exact Nat.le_trans (List.length_filter_le _ _) (by simp)
/-- _law_reached: 0 size 1 pipes 2 k -/
def t_law_reached : VT := (seqT (retO (v1 inlO (xCall 2 F_law_wet (rV (vVar 0) (rV (v1 slD (vLc [2] (v1 slL (v1 inlO (xCall 1 F_law_open (rV (vVar 1) rNil)))) (gN 2) bT (vTup (aCons (v2 fIx (v2 fIx (vVar 1) (vVar 2)) (vC (.int 0))) (aCons (v2 fIx (v2 fIx (vVar 1) (vVar 2)) (vC (.int 1))) aNil))))) rNil))))) skipT)
theorem edges_e {Γ : En} {ps : List P3} {k : Nat} {f h : VF} (h1 : f Γ = some (.lst (dPs ps))) (h2 : h Γ = some (dInt k)) (hk : k < ps.length) :
    vTup (aCons (v2 fIx (v2 fIx f h) (vC (.int 0))) (aCons (v2 fIx (v2 fIx f h) (vC (.int 1))) aNil)) Γ = some (dE ((pAt ps k).1, (pAt ps k).2.1)) := by
  unfold vTup aCons
  rw [ixP0 (ixP h1 h2 hk), Option.bind_some, ixP1 (ixP h1 h2 hk)]
  rfl
theorem v_law_reached : ∀ ss r, ss.length = 2 → F_law_reached ss = some r → t_law_reached (postP r) (En0 ss 3) ∧ ∃ s, r = .inl s := by
  intro ss r hl h
  unfold F_law_reached at h
  split at h
  · rename_i s ds
    obtain ⟨ps, e1, h'⟩ := Option.bind_eq_some_iff.mp h
    split at h'
    · rename_i hs
      have h'' := Option.some.inj h'
      subst h''
      cases dPs_some e1
      obtain ⟨s, rfl⟩ := Int.eq_ofNat_of_zero_le hs.1
      refine ⟨?_, _, rfl⟩
      simp only [Int.toNat_natCast]
      have hlo := lawOpen_len ps
      refine ⟨.own .loc (dNs (lawReached s ps)), v1e (x := .inl (.own .loc (dNs (lawReached s ps)))) (xc (rVe rfl (rVe (v1e (vlc_map (enc := dInt) (xs := lawOpen ps) (h := fun k => dE ((pAt ps k).1, (pAt ps k).2.1)) (v1e (v1e (xc rfl ⟨rfl, rfl⟩ rfl (F_open (by omega))) rfl) rfl) (by omega)
        fun k hk => lcS1 rfl rfl (edges_e rfl rfl (lawOpen_lt hk).1)) rfl) rfl)) ⟨rfl, rfl⟩ rfl ?_) rfl, rfl⟩
      show F_law_wet [.val (.int (s : Int)), .val (.lst ((lawOpen ps).map fun k => dE ((pAt ps k).1, (pAt ps k).2.1)))] = _
      have := F_wetL (s := s) (es := edgesOf ps (lawOpen ps)) (by omega) (by simp [edgesOf]; omega)
      unfold dEs edgesOf at this
      rw [List.map_map] at this
      exact this
    · cases h'
  · cases h
def lawInto (ps : List P3) (ns : List Nat) : List Nat := (lawOpen ps).filter fun k => decide ((pAt ps k).1 ∉ ns ∧ (pAt ps k).2.1 ∈ ns)
def F_law_into : FN
  | [.val (.lst ds), .val (.lst es)] => (decs ds : Option (List P3)).bind fun ps => (decs es : Option (List Nat)).bind fun ns => if ps.length ≤ 900 then some (.inl (.own .loc (dNs (lawInto ps ns)))) else none
  | _ => none
theorem F_into {ps : List P3} {ns : List Nat} (h2 : ps.length ≤ 900) : F_law_into [.val (.lst (dPs ps)), .val (.lst (dNs ns))] = some (.inl (.own .loc (dNs (lawInto ps ns)))) := by
  show (decs (dPs ps)).bind _ = _
  rw [decs_dPs, Option.bind_some]
  show (decs (dNs ns)).bind _ = _
  rw [decs_dNs, Option.bind_some]
  exact ite_some h2
/-- _law_into: 0 pipes 1 places 2 k -/
def t_law_into : VT := (seqT (retO (vLc [2] (v1 slL (v1 inlO (xCall 1 F_law_open (rV (vVar 0) rNil)))) (gN 2) (bAnd (bV (v2 (fIn true) (v2 fIx (v2 fIx (vVar 0) (vVar 2)) (vC (.int 0))) (lVar 1))) (bV (v2 (fIn false) (v2 fIx (v2 fIx (vVar 0) (vVar 2)) (vC (.int 1))) (lVar 1)))) (vVar 2))) skipT)
theorem v_law_into : ∀ ss r, ss.length = 2 → F_law_into ss = some r → t_law_into (postP r) (En0 ss 3) ∧ ∃ s, r = .inl s := by
  intro ss r hl h
  unfold F_law_into at h
  split at h
  · rename_i ds es
    obtain ⟨ps, e1, h'⟩ := Option.bind_eq_some_iff.mp h
    obtain ⟨ns, e2, h2⟩ := Option.bind_eq_some_iff.mp h'
    split at h2
    · rename_i hs
      have h'' := Option.some.inj h2
      subst h''
      cases dPs_some e1
      cases dNs_some e2
      have hlo := lawOpen_len ps
      refine ⟨⟨.own .loc (dNs (lawInto ps ns)), ?_, rfl⟩, _, rfl⟩
      refine vlc_filter (enc := dInt) (xs := lawOpen ps) (h := dInt) (v1e (v1e (xc rfl ⟨rfl, rfl⟩ rfl (F_open (by omega))) rfl) rfl) (by omega) fun k hk => ?_
      have hk := (lawOpen_lt hk).1
      exact lcS rfl (bAnd_d (bVe (notInE (ixP0 (ixP rfl rfl hk)) rfl)) fun _ => bVe (inE (ixP1 (ixP rfl rfl hk)) rfl)) fun _ => rfl
    · cases h2
  · cases h
/-- all numbers are below the bound -/
def F_law_numbers : FN
  | [.val (.lst ds), .val (.int b)] => (decs ds : Option (List Nat)).bind fun ns => if ∀ n ∈ ns, (n : Int) < b then some (.inl (.val (.bl true))) else none
  | _ => none
theorem F_numbers {ns : List Nat} {b : Nat} (h : ∀ n ∈ ns, n < b) : F_law_numbers [.val (.lst (dNs ns)), .val (.int (b : Int))] = some (.inl (.val (.bl true))) := by
  show (decs (dNs ns)).bind _ = _
  rw [decs_dNs, Option.bind_some]
  exact ite_some (fun n hn => by have := h n hn; omega)
/-- _law_numbers: 0 found 1 bound 2 number -/
def t_law_numbers : VT := (seqT (ifT (bNot (bV (v1 (fIsi "list") (vVar 0)))) (seqT (retV (vC (.bl false))) skipT) skipT) (seqT (forT (v1 dL (vVar 0)) (gN 2) (seqT (ifT (bOr (bNot (bV (v1 slD (v1 inlO (xCall 1 F_law_whole (rV (vVar 2) rNil)))))) (bOr (bV (v2 fLt (vVar 2) (vC (.int 0)))) (bV (v2 fGe (vVar 2) (vVar 1))))) (seqT (retV (vC (.bl false))) skipT) skipT) skipT)) (seqT (retV (vC (.bl true))) skipT)))
theorem v_law_numbers : ∀ ss r, ss.length = 2 → F_law_numbers ss = some r → t_law_numbers (postP r) (En0 ss 3) ∧ ∃ s, r = .inl s := by
  intro ss r hl h
  unfold F_law_numbers at h
  split at h
  · rename_i ds b
    obtain ⟨ns, e1, h'⟩ := Option.bind_eq_some_iff.mp h
    split at h'
    · rename_i hs
      have h'' := Option.some.inj h'
      subst h''
      cases dNs_some e1
      refine ⟨?_, _, rfl⟩
      refine if_f (dec_f (p := ¬ True) (by simp) (bNot_d (bVe (v1e rfl isi_list)))) ?_
      refine ⟨dNs ns, rfl, ?_⟩
      refine loopT_inv (enc := dInt) (fun rest Γ => (∀ n ∈ rest, ((n : Nat) : Int) < b) ∧ ∃ v2, Γ = [some (.val (.lst (dNs ns))), some (.val (.int b)), v2]) ?_ ?_ ns _ ⟨hs, none, rfl⟩
      · rintro n rest Γ k ⟨hb, v2, rfl⟩ hk
        refine ⟨_, rfl, ?_⟩
        have hn := hb n (by simp)
        refine if_f (dec_f (p := (¬ True) ∨ ((n : Int) < 0 ∨ b ≤ (n : Int))) (by simp; omega) (bOr_d (bNot_d (bVe (v1e (v1e (xc rfl ⟨rfl, rfl⟩ rfl rfl) rfl) rfl))) fun _ => bOr_d rfl fun _ => rfl)) ?_
        exact hk _ ⟨fun m hm => hb m (List.mem_cons_of_mem _ hm), _, rfl⟩
      · rintro Γ ⟨_, v2, rfl⟩
        exact ⟨_, rfl, rfl⟩
    · cases h'
  · cases h
/-- == of data of numbers -/
theorem shaped_ns (ns : List Nat) : okD (.lst (dNs ns)) = true := by
  unfold okD
  rw [Bool.and_eq_true]
  constructor
  · unfold flatD
    induction ns with
    | nil => rfl
    | cons n ns ih => show (flatD (dInt n) && flatDs (dNs ns)) = true; rw [show flatDs (dNs ns) = true from ih]; rfl
  · unfold SeqAt.shaped toPy
    rw [Bool.and_eq_true]
    constructor
    · show PyData.canLayAll0 (toPys (dNs ns)) = true
      induction ns with
      | nil => rfl
      | cons n ns ih => show (PyData.canLay0 (toPy (dInt n)) && PyData.canLayAll0 (toPys (dNs ns))) = true; rw [ih]; rfl
    · refine decide_eq_true ?_
      have : ∀ ns : List Nat, PyData.depthAll (toPys (dNs ns)) ≤ 1 := fun ns => by
        induction ns with
        | nil => decide
        | cons n ns ih =>
          show PyData.depthAll (toPy (dInt n) :: toPys (dNs ns)) ≤ 1
          simp only [PyData.depthAll, dInt, toPy, PyData.depth]
          omega
      have h := this ns
      simp only [PyData.depth]
      omega
theorem eqv_refl_ok {d : D} (h : okD d = true) : PyData.eqv (toPy d) (toPy d) = true := by
  unfold okD at h
  rw [Bool.and_eq_true] at h
  exact SeqAt.eqv_refl _ (SeqAt.canLay_of_shaped h.2)
theorem fEq_refl {d : D} (h : okD d = true) : fEq d d = some (.bl true) := by
  unfold fEq
  split
  · simp
  · simp
  · simp
  · rw [h, eqv_refl_ok h]
    rfl
theorem fNe_refl {d : D} (h : okD d = true) : fNe d d = some (.bl false) := by unfold fNe; rw [fEq_refl h]; rfl
def F_law_rising : FN
  | [.val (.lst ds), .val (.int b)] => (decs ds : Option (List Nat)).bind fun ns => if (∀ n ∈ ns, (n : Int) < b) ∧ ns.Pairwise (· < ·) ∧ ns.length ≤ 4000 then some (.inl (.val (.bl true))) else none
  | _ => none
theorem F_rising {ns : List Nat} {b : Nat} (h : ∀ n ∈ ns, n < b) (h2 : ns.Pairwise (· < ·)) (h3 : ns.length ≤ 4000) : F_law_rising [.val (.lst (dNs ns)), .val (.int (b : Int))] = some (.inl (.val (.bl true))) := by
  show (decs (dNs ns)).bind _ = _
  rw [decs_dNs, Option.bind_some]
  exact ite_some ⟨fun n hn => by have := h n hn; omega, h2, h3⟩
/-- _law_rising: 0 found 1 bound -/
def t_law_rising : VT := (seqT (ifT (bNot (bV (v1 slD (v1 inlO (xCall 2 F_law_numbers (rV (vVar 0) (rV (vVar 1) rNil))))))) (seqT (retV (vC (.bl false))) skipT) skipT) (seqT (retV (vAnd (v2 fEq (vVar 0) (v1 slD (v1 fSorted (lVar 0)))) (v2 fEq (v1 fLenSet (lVar 0)) (v1 fLenL (lVar 0))))) skipT))
theorem fLenSet_ns {ns : List Nat} (h : ns.Nodup) (h3 : ns.length ≤ 4000) : fLenSet (dNs ns) = some (.int (ns.length : Int)) := by
  unfold fLenSet
  have e : dNs ns = (ns.map fun (n : Nat) => (n : Int)).map D.int := by unfold dNs; rw [List.map_map]; rfl
  rw [e, toIs_map, Option.bind_some]
  have hn : (ns.map fun (n : Nat) => (n : Int)).Nodup := by
    unfold List.Nodup
    rw [List.pairwise_map]
    exact h.imp fun q z => q (by omega)
  have hc : decide ((ns.map fun (n : Nat) => (n : Int)).Nodup ∧ (ns.map fun (n : Nat) => (n : Int)).length ≤ 4000) = true := decide_eq_true ⟨hn, by simpa using h3⟩
  rw [if_pos hc]
  simp
theorem v_law_rising : ∀ ss r, ss.length = 2 → F_law_rising ss = some r → t_law_rising (postP r) (En0 ss 2) ∧ ∃ s, r = .inl s := by
  intro ss r hl h
  unfold F_law_rising at h
  split at h
  · rename_i ds b
    obtain ⟨ns, e1, h'⟩ := Option.bind_eq_some_iff.mp h
    split at h'
    · rename_i hs
      have h'' := Option.some.inj h'
      subst h''
      cases dNs_some e1
      obtain ⟨hb, hp, hl⟩ := hs
      refine ⟨?_, _, rfl⟩
      have e0 : F_law_numbers [.val (.lst (dNs ns)), .val (.int b)] = some (.inl (.val (.bl true))) := by
        show (decs (dNs ns)).bind _ = _
        rw [decs_dNs, Option.bind_some]
        exact ite_some hb
      refine if_f (dec_f (p := ¬ True) (by simp) (bNot_d (bVe (v1e (v1e (xc rfl ⟨rfl, rfl⟩ rfl e0) rfl) rfl)))) ?_
      refine ⟨.bl true, vAnd_t (v2e rfl (v1e (v1e rfl (fSorted_ns ns)) rfl) ?_) ?_, rfl⟩
      · rw [srtN_sorted hp]
        exact fEq_refl (shaped_ns ns)
      · refine v2e (v1e rfl (fLenSet_ns (hp.imp fun q => Nat.ne_of_lt q) hl)) (v1e rfl rfl) ?_
        simp [fEq, dNs]
    · cases h'
  · cases h
end Z

set_option maxRecDepth 100000
namespace Z
open PySem PySem.Spec PyProof.Rows L2

/-! ### nets read back -/
def unNet (s : Int) (ds : List D) : Option (Nat × List P3) := (decs ds : Option (List P3)).bind fun ps => if 0 ≤ s ∧ okNet s.toNat ps then some (s.toNat, ps) else none
theorem unNet_of {s : Nat} {ps : List P3} (h : okNet s ps) : unNet (s : Int) (dPs ps) = some (s, ps) := by
  unfold unNet
  rw [decs_dPs, Option.bind_some]
  exact ite_some (show 0 ≤ (s : Int) ∧ okNet s ps from ⟨Int.natCast_nonneg s, h⟩)
theorem unNet_some {s : Int} {ds : List D} {x : Nat × List P3} (h : unNet s ds = some x) : s = (x.1 : Int) ∧ ds = dPs x.2 ∧ okNet x.1 x.2 := by
  obtain ⟨ps, e1, h'⟩ := Option.bind_eq_some_iff.mp h
  split at h'
  · rename_i hc
    cases h'
    exact ⟨(Int.toNat_of_nonneg hc.1).symm, dPs_some e1, hc.2⟩
  · cases h'
theorem okNet.pip {size : Nat} {ps : List P3} (h : okNet size ps) : ∀ p ∈ ps, okP size p := okPs_iff.mp h.2.2.1

/-! ### open pipes -/
def opOf (ps : List P3) (k : Nat) : O3 := (k, (pAt ps k).1, (pAt ps k).2.1)
def openOf (ps : List P3) : List O3 := (lawOpen ps).map (opOf ps)
def opGo : Nat → List P3 → List O3
  | _, [] => []
  | n, p :: ps => if p.2.2 = true then (n, p.1, p.2.1) :: opGo (n + 1) ps else opGo (n + 1) ps
theorem opGo_eq : ∀ (ps : List P3) (n : Nat), opGo n ps = ((List.range ps.length).filter fun k => (pAt ps k).2.2).map fun k => (n + k, (pAt ps k).1, (pAt ps k).2.1)
  | [], _ => rfl
  | p :: ps, n => by
    rw [List.length_cons, List.range_succ_eq_map, List.filter_cons, List.filter_map]
    have ih := opGo_eq ps (n + 1)
    have e : ((List.filter ((fun k => (pAt (p :: ps) k).2.2) ∘ Nat.succ) (List.range ps.length)).map Nat.succ).map (fun k => (n + k, (pAt (p :: ps) k).1, (pAt (p :: ps) k).2.1)) = opGo (n + 1) ps := by
      rw [ih, List.map_map]
      refine List.map_congr_left fun k _ => ?_
      show (n + (k + 1), _) = (n + 1 + k, _)
      rw [show n + (k + 1) = n + 1 + k by omega]
      rfl
    show (if p.2.2 = true then _ else _) = List.map _ (if p.2.2 = true then _ else _)
    split
    · rw [List.map_cons, e]; rfl
    · rw [e]
theorem opGo_open (ps : List P3) : opGo 0 ps = openOf ps := by
  rw [opGo_eq]
  unfold openOf lawOpen opOf
  simp
theorem openOf_mem {ps : List P3} {o : O3} : o ∈ openOf ps ↔ ∃ k, k < ps.length ∧ (pAt ps k).2.2 = true ∧ o = (k, (pAt ps k).1, (pAt ps k).2.1) := by
  unfold openOf
  rw [List.mem_map]
  constructor
  · rintro ⟨k, hk, rfl⟩
    exact ⟨k, (lawOpen_lt hk).1, (lawOpen_lt hk).2, rfl⟩
  · rintro ⟨k, h1, h2, rfl⟩
    refine ⟨k, ?_, rfl⟩
    unfold lawOpen
    rw [List.mem_filter, List.mem_range]
    exact ⟨h1, h2⟩
theorem openOf_len (ps : List P3) : (openOf ps).length ≤ ps.length := by
  unfold openOf
  rw [List.length_map]
  exact lawOpen_len ps
theorem openOf_lt {size : Nat} {ps : List P3} (h : ∀ p ∈ ps, okP size p) : ∀ o ∈ openOf ps, o.2.1 < size ∧ o.2.2 < size := by
  intro o ho
  obtain ⟨k, h1, _, rfl⟩ := openOf_mem.mp ho
  have := h _ (pAt_mem h1)
  exact ⟨this.1, this.2.1⟩
def enP : Nat → List P3 → List (Nat × P3)
  | _, [] => []
  | n, p :: ps => (n, p) :: enP (n + 1) ps
def dNP (x : Nat × P3) : D := .tup [.int (x.1 : Int), dP x.2]
theorem enumF_ps : ∀ (ps : List P3) (n : Nat), enumF n (dPs ps) = (enP n ps).map dNP
  | [], _ => rfl
  | p :: ps, n => by
    show _ :: enumF (n + 1) (dPs ps) = _
    rw [enumF_ps ps (n + 1)]
    rfl
theorem enP_len : ∀ (ps : List P3) (n : Nat), (enP n ps).length = ps.length
  | [], _ => rfl
  | p :: ps, n => by simp [enP, enP_len ps (n + 1)]
def opE : List (Nat × P3) → List O3
  | [] => []
  | x :: xs => if x.2.2.2 = true then (x.1, x.2.1, x.2.2.1) :: opE xs else opE xs
theorem opE_eq : ∀ (ps : List P3) (n : Nat), opE (enP n ps) = opGo n ps
  | [], _ => rfl
  | p :: ps, n => by simp only [enP, opE, opGo, opE_eq ps (n + 1)]
def F_open_pipes : FN
  | [.net _ s ds] => (unNet s ds).map fun x => .inl (.own .loc (dOs (openOf x.2)))
  | _ => none
theorem F_opens {m : Md} {s : Nat} {ps : List P3} (h : okNet s ps) : F_open_pipes [.net m (s : Int) (dPs ps)] = some (.inl (.own .loc (dOs (openOf ps)))) := by
  show (unNet _ _).map _ = _
  rw [unNet_of h]
  rfl
/-- open_pipes: 0 net 1 found 2 number 3 pipe -/
def t_open_pipes : VT := (seqT (asgO 1 (oLst aNil)) (seqT (forT (lEnum (v1 slD (v1 inlO (xMeth 1 F_pipes 0 rNil)))) (gT [2, 3]) (seqT (ifT (bV (v2 fIx (vVar 3) (vC (.int 2)))) (seqT (appT 1 (vTup (aCons (vVar 2) (aCons (v2 fIx (vVar 3) (vC (.int 0))) (aCons (v2 fIx (vVar 3) (vC (.int 1))) aNil))))) skipT) skipT) skipT)) (seqT (retS 1) skipT)))
theorem v_open_pipes : ∀ ss r, ss.length = 1 → F_open_pipes ss = some r → t_open_pipes (postP r) (En0 ss 4) ∧ ∃ s, r = .inl s := by
  intro ss r hl h
  unfold F_open_pipes at h
  split at h
  · rename_i m s ds
    obtain ⟨x, e1, e2⟩ := Option.map_eq_some_iff.mp h
    subst e2
    obtain ⟨rfl, rfl, hn⟩ := unNet_some e1
    obtain ⟨n, ps⟩ := x
    refine ⟨?_, _, rfl⟩
    refine ⟨_, rfl, ?_⟩
    have hlen : ps.length ≤ 60 := hn.2.2.2
    refine ⟨(enP 0 ps).map dNP, by rw [← enumF_ps ps 0]; rfl, ?_⟩
    refine loopT_inv (enc := dNP) (fun rest Γ => ∃ (found : List O3) (v2 v3 : Option Sl), found ++ opE rest = openOf ps ∧ Γ = [some (.net m (n : Int) (dPs ps)), some (.own .loc (dOs found)), v2, v3]) ?_ ?_ _ _ ⟨[], none, none, by rw [opE_eq, opGo_open]; rfl, rfl⟩
    · rintro ⟨k, p⟩ rest Γ kk ⟨found, v2, v3, e, rfl⟩ hk
      refine ⟨_, rfl, ?_⟩
      have hfl : found.length ≤ 60 := by
        have := congrArg List.length e
        have h2 := openOf_len ps
        rw [List.length_append] at this
        omega
      refine if_b (b := p.2.2) (bVe (ixP2 (p := p) rfl)) (fun c => ?_) (fun c => ?_)
      · refine ⟨(by intro z; cases z), dO3 (k, p.1, p.2.1), rfl, by simp; omega, ?_⟩
        refine hk _ ⟨found ++ [(k, p.1, p.2.1)], some (.val (dInt k)), some (.val (dP p)), ?_, ?_⟩
        · rw [← e]
          simp only [opE]
          rw [if_pos c]
          simp
        · show [_, some (Sl.own .loc (dOs found ++ [dO3 (k, p.1, p.2.1)])), _, _] = _
          unfold dOs
          rw [List.map_append]
          rfl
      · refine hk _ ⟨found, _, _, ?_, rfl⟩
        rw [← e]
        simp only [opE]
        rw [if_neg (by rw [c]; simp)]
    · rintro Γ ⟨found, v2, v3, e, rfl⟩
      have e : found = openOf ps := by simpa [opE] using e
      subst e
      exact ⟨_, rfl, rfl, rfl⟩
  · cases h

/-! ### where water comes to -/
def dOp : Option Int → D
  | none => .non
  | some i => .int i
def dHere (here : Here) : List D := here.map dOp
def hAt (here : Here) (v : Nat) : Option Int := (here[v]?).getD none
theorem hAt_some {here : Here} {v : Nat} (h : v < here.length) : here[v]? = some (hAt here v) := by unfold hAt; simp [h]
theorem someAt_hAt (here : Here) (v : Nat) : someAt here v = (hAt here v).isSome := by
  unfold someAt hAt
  cases here[v]? with
  | none => rfl
  | some o => cases o <;> rfl
theorem atI_here {here : Here} {v : Nat} (h : v < here.length) : atI (dHere here) (v : Int) = some (dOp (hAt here v)) := by
  refine atI_nat ?_
  unfold dHere
  rw [List.getElem?_map, hAt_some h]
  rfl
theorem isNon_dOp (o : Option Int) : isNon (dOp o) = !o.isSome := by cases o <;> rfl
theorem dryE {Γ : En} {f : VF} {here : Here} {v : Nat} (h : f Γ = some (dOp (hAt here v))) : v2 fIsN f (vC .non) Γ = some (.bl (decide (someAt here v = false))) := by
  refine v2e h rfl ?_
  show some (D.bl (isNon (dOp (hAt here v)))) = _
  rw [isNon_dOp, someAt_hAt]
  cases hAt here v <;> rfl
theorem wetE {Γ : En} {f : VF} {here : Here} {v : Nat} (h : f Γ = some (dOp (hAt here v))) : v2 fNotN f (vC .non) Γ = some (.bl (decide (someAt here v = true))) := by
  refine v2e h rfl ?_
  show some (D.bl (!isNon (dOp (hAt here v)))) = _
  rw [isNon_dOp, someAt_hAt]
  cases hAt here v <;> rfl
def F_wet : FN
  | [.val (.int s), .val (.lst ds)] => (decs ds : Option (List O3)).bind fun es => if 1 ≤ s ∧ s ≤ 1000 ∧ ∀ e ∈ es, (e.2.1 : Int) < s ∧ (e.2.2 : Int) < s then some (.inl (.own .loc (dHere (wet s.toNat es)))) else none
  | _ => none
theorem F_wetE {s : Nat} {es : List O3} (h : 1 ≤ s) (h2 : s ≤ 1000) (h3 : ∀ e ∈ es, e.2.1 < s ∧ e.2.2 < s) : F_wet [.val (.int (s : Int)), .val (.lst (dOs es))] = some (.inl (.own .loc (dHere (wet s es)))) := by
  show (decs (dOs es)).bind _ = _
  rw [decs_dOs, Option.bind_some]
  exact ite_some (show 1 ≤ (s : Int) ∧ (s : Int) ≤ 1000 ∧ _ from ⟨by omega, by omega, fun e he => by have := h3 e he; omega⟩)
/-- wet: 0 size 1 pipes 2 here 3 turned 4 number 5 start 6 goal 7 place -/
def t_wet : VT := (seqT (asgO 2 (vLc [7] (lRng1 (vVar 0)) (gN 7) bT (vC .non))) (seqT (setT 2 (vC (.int 0)) (v1 fNeg (vC (.int 1)))) (seqT (asgV 3 (vC (.bl true))) (seqT (whileT (bV (vVar 3)) (seqT (asgV 3 (vC (.bl false))) (seqT (forT (v1 dL (vVar 1)) (gT [4, 5, 6]) (seqT (ifT (bAnd (bV (v2 fNotN (v2 fIxL (lVar 2) (vVar 5)) (vC .non))) (bV (v2 fIsN (v2 fIxL (lVar 2) (vVar 6)) (vC .non)))) (seqT (setT 2 (vVar 6) (vVar 4)) (seqT (asgV 3 (vC (.bl true))) skipT)) skipT) skipT)) skipT))) (seqT (retS 2) skipT)))))
theorem wPass_len {es : List O3} : ∀ {st : Here × Bool}, (es.foldl wStep st).1.length = st.1.length := by
  induction es with
  | nil => intro st; rfl
  | cons e es ih => intro st; rw [List.foldl_cons, ih, wStep_len]
theorem v_wet : ∀ ss r, ss.length = 2 → F_wet ss = some r → t_wet (postP r) (En0 ss 8) ∧ ∃ s, r = .inl s := by
  intro ss r hl h
  unfold F_wet at h
  split at h
  · rename_i s ds
    obtain ⟨es, e1, h'⟩ := Option.bind_eq_some_iff.mp h
    split at h'
    · rename_i hs
      have h'' := Option.some.inj h'
      subst h''
      cases dOs_some e1
      obtain ⟨s, rfl⟩ := Int.eq_ofNat_of_zero_le (show 0 ≤ s by omega)
      obtain ⟨h1, h2, h3⟩ := hs
      have he : ∀ e ∈ es, e.2.1 < s ∧ e.2.2 < s := fun e q => by have := h3 e q; omega
      refine ⟨?_, _, rfl⟩
      simp only [Int.toNat_natCast]
      refine ⟨_, vlc_map (h := fun (_ : Nat) => D.non) (rng1e (i := (s : Int)) rfl (by omega)) (by simp; omega) (fun k hk => lcS1 rfl rfl rfl), ?_⟩
      have eh0 : ((List.range ((s : Int)).toNat).map fun (_ : Nat) => D.non).set 0 (.int (-1)) = dHere (here0 s) := by
        rw [Int.toNat_natCast]
        unfold dHere here0
        rw [List.map_set, List.map_replicate]
        congr 1
        rw [List.map_const', List.length_range]
        rfl
      refine ⟨(by intro z; cases z), _, 0, 0, rfl, rfl, ?_, ?_⟩
      · exact ixN_nat (n := ((List.range ((s : Int)).toNat).map fun (_ : Nat) => D.non).length) (j := 0) (by simp; omega)
      refine ⟨_, rfl, ?_⟩
      refine ⟨fun m Γ => ∃ (here : Here) (b : Bool) (n : Nat) (v4 v5 v6 v7 : Option Sl), here.length = s ∧ (b = true → wGo es n here = wet s es ∧ dry here < n ∧ m = n) ∧ (b = false → here = wet s es) ∧
        Γ = [some (.val (.int (s : Int))), some (.val (.lst (dOs es))), some (.own .loc (dHere here)), some (.val (.bl b)), v4, v5, v6, v7], ⟨s + 1, here0 s, true, s + 1, none, none, none, none, here0_len, fun _ => ⟨rfl, ?_, rfl⟩, fun z => (nomatch z), ?_⟩, ?_⟩
      · have := dry_le (here := here0 s)
        rw [here0_len] at this
        omega
      · rw [← eh0]
        rfl
      rintro m Γ ⟨here, b, n, v4, v5, v6, v7, hl, hT, hF, rfl⟩
      refine ⟨b, rfl, fun hb => ?_, fun hb => ?_⟩
      · obtain ⟨q1, q2, q3⟩ := hT hb
        refine ⟨_, rfl, ?_⟩
        refine ⟨dOs es, rfl, ?_⟩
        refine loopT_inv (enc := dO3) (fun rest Γ => ∃ (here' : Here) (b' : Bool) (v4 v5 v6 v7 : Option Sl), here'.length = s ∧ (∀ e ∈ rest, e ∈ es) ∧ rest.foldl wStep (here', b') = es.foldl wStep (here, false) ∧
          Γ = [some (.val (.int (s : Int))), some (.val (.lst (dOs es))), some (.own .loc (dHere here')), some (.val (.bl b')), v4, v5, v6, v7]) ?_ ?_ es _ ⟨here, false, v4, v5, v6, v7, hl, fun _ h => h, rfl, rfl⟩
        · rintro ⟨k, a, g⟩ rest Γ kk ⟨here', b', v4, v5, v6, v7, hl', hr, q, rfl⟩ hk
          refine ⟨_, rfl, ?_⟩
          have hag : a < s ∧ g < s := he (k, a, g) (hr _ (by simp))
          have hr' : ∀ e ∈ rest, e ∈ es := fun e h => hr e (List.mem_cons_of_mem _ h)
          refine if_d (p := someAt here' a = true ∧ someAt here' g = false) (bAnd_d (bVe (wetE (here := here') (v := a) (v2e rfl rfl (atI_here (v := a) (by omega))))) fun _ => bVe (dryE (here := here') (v := g) (v2e rfl rfl (atI_here (v := g) (by omega))))) (fun c => ?_) (fun c => ?_)
          · refine ⟨(by intro z; cases z), .int (k : Int), (g : Int), g, rfl, rfl, ixN_nat (by simp [dHere]; omega), ?_⟩
            refine ⟨_, rfl, ?_⟩
            refine hk _ ⟨here'.set g (some (k : Int)), true, some (.val (dInt k)), some (.val (dInt a)), some (.val (dInt g)), v7, by simpa using hl', hr', ?_, ?_⟩
            · rw [← q, List.foldl_cons]
              congr 1
              unfold wStep
              rw [if_pos c]
            · show [_, _, some (Sl.own .loc ((dHere here').set g (.int (k : Int)))), _, _, _, _, _] = _
              unfold dHere
              rw [List.map_set]
              rfl
          · refine hk _ ⟨here', b', _, _, _, v7, hl', hr', ?_, rfl⟩
            rw [← q, List.foldl_cons]
            congr 1
            unfold wStep
            rw [if_neg c]
        · rintro Γ ⟨here', b', v4, v5, v6, v7, hl', _, q, rfl⟩
          have q : (here', b') = wPass es here := q
          cases n with
          | zero => omega
          | succ n =>
            have q1 : (if (wPass es here).2 = true then wGo es n (wPass es here).1 else (wPass es here).1) = wet s es := q1
            rw [← q] at q1
            refine ⟨n, by omega, here', b', n, v4, v5, v6, v7, hl', fun z => ?_, fun z => ?_, rfl⟩
            · rw [if_pos z] at q1
              refine ⟨q1, ?_, rfl⟩
              have := wFold_turn (es := es) (st := (here, false)) (fun e he' => by show _ < here.length; rw [hl]; exact (he e he').2) rfl
              rcases this with ⟨w1, _⟩ | ⟨_, w2⟩
              · have w1 : wPass es here = (here, false) := w1
                rw [← q] at w1
                cases w1
                cases z
              · have w2 : dry (wPass es here).1 < dry here := w2
                rw [← q] at w2
                simp only at w2
                omega
            · rw [if_neg (by simp [z])] at q1
              exact q1
      · cases hF hb
        exact ⟨_, rfl, rfl, rfl⟩
    · cases h'
  · cases h
def reachedOf (size : Nat) (ps : List P3) : List Nat := (List.range size).filter fun v => someAt (wet size (openOf ps)) v
def F_reached : FN
  | [.net _ s ds] => (unNet s ds).map fun x => .inl (.own .loc (dNs (reachedOf x.1 x.2)))
  | _ => none
theorem F_reachedE {m : Md} {s : Nat} {ps : List P3} (h : okNet s ps) : F_reached [.net m (s : Int) (dPs ps)] = some (.inl (.own .loc (dNs (reachedOf s ps)))) := by
  show (unNet _ _).map _ = _
  rw [unNet_of h]
  rfl
/-- reached: 0 net 1 here 2 place -/
def t_reached : VT := (seqT (asgV 1 (v1 slD (v1 inlO (xCall 2 F_wet (rV (v1 slD (v1 inlO (xMeth 1 F_size 0 rNil))) (rV (v1 slD (v1 inlO (xCall 1 F_open_pipes (rS 0 rNil)))) rNil)))))) (seqT (retO (vLc [2] (lRng1 (v1 slD (v1 inlO (xMeth 1 F_size 0 rNil)))) (gN 2) (bV (v2 fNotN (v2 fIx (vVar 1) (vVar 2)) (vC .non))) (vVar 2))) skipT))
theorem wetOf_e {s : Nat} {ps : List P3} (hn : okNet s ps) : F_wet [.val (.int (s : Int)), .val (.lst (dOs (openOf ps)))] = some (.inl (.own .loc (dHere (wet s (openOf ps))))) :=
  F_wetE hn.1 (by have := hn.2.1; omega) (openOf_lt hn.pip)
theorem opens_e {i : Nat} {m : Md} {Γ : En} {s : Nat} {ps : List P3} (hn : okNet s ps) (e : Γ[i]? = some (some (.net m (s : Int) (dPs ps)))) : xCall 1 F_open_pipes (rS i rNil) Γ = some (.inl (.own .loc (dOs (openOf ps)))) := by
  refine xc (as := [.s i]) (ss := [.net .ro (s : Int) (dPs ps)]) ?_ ⟨rfl, rfl⟩ ?_ (F_opens hn)
  · unfold rS
    rw [e]
    rfl
  · simp [arSls, arSl, e, roS]
theorem v_reached : ∀ ss r, ss.length = 1 → F_reached ss = some r → t_reached (postP r) (En0 ss 3) ∧ ∃ s, r = .inl s := by
  intro ss r hl h
  unfold F_reached at h
  split at h
  · rename_i m s ds
    obtain ⟨x, e1, e2⟩ := Option.map_eq_some_iff.mp h
    subst e2
    obtain ⟨rfl, rfl, hn⟩ := unNet_some e1
    obtain ⟨n, ps⟩ := x
    refine ⟨?_, _, rfl⟩
    have hn1 : n ≤ 12 := hn.2.1
    have hlen : (wet n (openOf ps)).length = n := (wet_ok hn.1 fun e he => (openOf_lt hn.pip e he).2).len
    refine ⟨_, v1e (v1e (xc (rVe rfl (rVe (v1e (v1e (opens_e hn rfl) rfl) rfl) rfl)) ⟨rfl, rfl⟩ rfl (wetOf_e hn)) rfl) rfl, ?_⟩
    refine ⟨_, vlc_filter (enc := dInt) (xs := List.range n) (p := fun v => someAt (wet n (openOf ps)) v) (h := dInt) (rng1e (i := (n : Int)) rfl (by omega)) (by simp; omega) (fun v hv => ?_), rfl⟩
    have hv : v < n := by simpa using hv
    refine lcS (b := someAt (wet n (openOf ps)) v) rfl (bVe ?_) fun _ => rfl
    have := wetE (Γ := [some (.net m (n : Int) (dPs ps)), some (.val (.lst (dHere (wet n (openOf ps))))), some (.val (dInt v))]) (here := wet n (openOf ps)) (v := v) (f := v2 fIx (vVar 1) (vVar 2)) (v2e rfl rfl (atI_here (by omega)))
    rw [show decide (someAt (wet n (openOf ps)) v = true) = someAt (wet n (openOf ps)) v by simp] at this
    exact this
  · cases h
def F_entering : FN
  | [.net _ s ds, .val (.lst es)] => (unNet s ds).bind fun x => (decs es : Option (List Nat)).map fun ns => .inl (.own .loc (dNs (lawInto x.2 ns)))
  | _ => none
theorem F_enteringE {m : Md} {s : Nat} {ps : List P3} {ns : List Nat} (h : okNet s ps) : F_entering [.net m (s : Int) (dPs ps), .val (.lst (dNs ns))] = some (.inl (.own .loc (dNs (lawInto ps ns)))) := by
  show (unNet _ _).bind _ = _
  rw [unNet_of h, Option.bind_some, decs_dNs]
  rfl
/-- entering: 0 net 1 places 2 pipe -/
def t_entering : VT := (seqT (retO (vLc [2] (v1 slL (v1 inlO (xCall 1 F_open_pipes (rS 0 rNil)))) (gN 2) (bAnd (bV (v2 (fIn true) (v2 fIx (vVar 2) (vC (.int 1))) (lVar 1))) (bV (v2 (fIn false) (v2 fIx (vVar 2) (vC (.int 2))) (lVar 1)))) (v2 fIx (vVar 2) (vC (.int 0))))) skipT)
theorem lawInto_o (ps : List P3) (ns : List Nat) : ((openOf ps).filter fun o => decide (o.2.1 ∉ ns ∧ o.2.2 ∈ ns)).map (fun o => dInt o.1) = dNs (lawInto ps ns) := by
  unfold openOf lawInto dNs
  rw [List.filter_map, List.map_map]
  rfl
theorem v_entering : ∀ ss r, ss.length = 2 → F_entering ss = some r → t_entering (postP r) (En0 ss 3) ∧ ∃ s, r = .inl s := by
  intro ss r hl h
  unfold F_entering at h
  split at h
  · rename_i m s ds es
    obtain ⟨x, e1, h'⟩ := Option.bind_eq_some_iff.mp h
    obtain ⟨ns, e2, e3⟩ := Option.map_eq_some_iff.mp h'
    subst e3
    obtain ⟨rfl, rfl, hn⟩ := unNet_some e1
    cases dNs_some e2
    obtain ⟨n, ps⟩ := x
    refine ⟨?_, _, rfl⟩
    have hl := openOf_len ps
    have hn1 : ps.length ≤ 60 := hn.2.2.2
    refine ⟨.own .loc (dNs (lawInto ps ns)), ?_, rfl⟩
    rw [← lawInto_o]
    refine vlc_filter (enc := dO3) (xs := openOf ps) (h := fun o => dInt o.1) (v1e (v1e (opens_e hn rfl) rfl) rfl) (by omega) fun o ho => ?_
    exact lcS rfl (bAnd_d (bVe (notInE (ixO1 (p := o) rfl) rfl)) fun _ => bVe (inE (ixO2 (p := o) rfl) rfl)) fun _ => rfl
  · cases h
theorem reached_law {size : Nat} {ps : List P3} (hn : okNet size ps) : reachedOf size ps = lawReached size ps := by
  have he : ∀ e ∈ openOf ps, e.2.2 < size := fun e he => (openOf_lt hn.pip e he).2
  have ee : edgesOf ps (lawOpen ps) = prs (openOf ps) := by
    unfold edgesOf prs openOf
    rw [List.map_map]
    rfl
  have he' : ∀ e ∈ prs (openOf ps), e.2 < size := fun e q => by
    obtain ⟨o, h1, rfl⟩ := List.mem_map.mp q
    exact he o h1
  unfold lawReached lawWet
  rw [ee]
  obtain ⟨nd, hlt⟩ := lw_nodup hn.1 he'
  have nd2 : (reachedOf size ps).Nodup := List.Pairwise.filter _ (List.pairwise_lt_range.imp fun h => Nat.ne_of_lt h)
  refine natSorted_eq (List.Perm.trans ((List.perm_ext_iff_of_nodup nd2 nd).mpr fun v => ?_) (srtN_perm _).symm) ?_ (srtN_pairwise _)
  · unfold reachedOf
    rw [List.mem_filter, List.mem_range, wet_iff hn.1 he, lw_iff hn.1 he']
    exact ⟨fun q => q.2, fun q => ⟨hlt v ((lw_iff hn.1 he').mpr q), q⟩⟩
  · exact (List.Pairwise.filter _ List.pairwise_lt_range).imp Nat.le_of_lt
theorem reachedOf_lt {size : Nat} {ps : List P3} : (∀ n ∈ reachedOf size ps, n < size) ∧ (reachedOf size ps).Pairwise (· < ·) ∧ (reachedOf size ps).length ≤ size := by
  refine ⟨fun n hn => ?_, List.Pairwise.filter _ List.pairwise_lt_range, ?_⟩
  · unfold reachedOf at hn
    rw [List.mem_filter, List.mem_range] at hn
    exact hn.1
  · unfold reachedOf
    exact Nat.le_trans (List.length_filter_le _ _) (by simp)
theorem lawInto_lt {ps : List P3} {ns : List Nat} : (∀ n ∈ lawInto ps ns, n < ps.length) ∧ (lawInto ps ns).Pairwise (· < ·) ∧ (lawInto ps ns).length ≤ ps.length := by
  refine ⟨fun n hn => ?_, List.Pairwise.filter _ (List.Pairwise.filter _ List.pairwise_lt_range), ?_⟩
  · unfold lawInto at hn
    exact (lawOpen_lt (List.mem_filter.mp hn).1).1
  · unfold lawInto
    exact Nat.le_trans (List.length_filter_le _ _) (lawOpen_len ps)

/-! ### one pipe turned, or one more laid -/
def turnOne (size : Nat) (ps : List P3) (c : Int) : List P3 :=
  if c % 2 = 1 ∧ 1 < size ∧ ps.length < 60 then ps ++ [((pipeBy (c / 2) size).1, (pipeBy (c / 2) size).2.1, true)]
  else if 0 < ps.length then ps.set (c / 2 % ps.length).toNat ((pAt ps (c / 2 % ps.length).toNat).1, (pAt ps (c / 2 % ps.length).toNat).2.1, !(pAt ps (c / 2 % ps.length).toNat).2.2)
  else ps
theorem turnOne_ok {size : Nat} {ps : List P3} {c : Int} (h : okNet size ps) : okNet size (turnOne size ps c) := by
  obtain ⟨h1, h2, h3, h4⟩ := h
  have h3 := okPs_iff.mp h3
  unfold turnOne
  split
  · rename_i hc
    refine ⟨h1, h2, okPs_iff.mpr fun p hp => ?_, by simp; omega⟩
    rcases List.mem_append.mp hp with q | q
    · exact h3 p q
    · simp at q
      subst q
      have := pipeBy_ok (c := c / 2) (s := size) (by omega)
      exact this
  · split
    · rename_i hc
      refine ⟨h1, h2, okPs_iff.mpr fun p hp => ?_, by simpa using h4⟩
      rcases List.mem_or_eq_of_mem_set hp with q | q
      · exact h3 p q
      · subst q
        have hk : (c / 2 % (ps.length : Int)).toNat < ps.length := by
          have a1 : 0 ≤ c / 2 % (ps.length : Int) := Int.emod_nonneg _ (by omega)
          have a2 : c / 2 % (ps.length : Int) < ps.length := Int.emod_lt_of_pos _ (by omega)
          omega
        have := h3 _ (pAt_mem hk)
        exact this
    · exact ⟨h1, h2, okPs_iff.mpr h3, h4⟩
def G_law_turn_one : FM
  | [.net .mut s ds, .val (.int s'), .own .mut ds', .val (.int c)] => (unNet s ds).bind fun x => (decs ds' : Option (List P3)).bind fun ps' => if s' = s ∧ ps' = x.2 then
      some (.inl (.val .non), [.net .mut s (dPs (turnOne x.1 x.2 c)), .val (.int s'), .own .mut (dPs (turnOne x.1 x.2 c)), .val (.int c)]) else none
  | _ => none
theorem G_turnOne {s : Nat} {ps : List P3} {c : Int} (h : okNet s ps) : G_law_turn_one [.net .mut (s : Int) (dPs ps), .val (.int (s : Int)), .own .mut (dPs ps), .val (.int c)] =
    some (.inl (.val .non), [.net .mut (s : Int) (dPs (turnOne s ps c)), .val (.int (s : Int)), .own .mut (dPs (turnOne s ps c)), .val (.int c)]) := by
  show (unNet _ _).bind _ = _
  rw [unNet_of h, Option.bind_some, decs_dPs, Option.bind_some]
  exact ite_some ⟨rfl, rfl⟩
theorem G_shutE {s : Nat} {ps : List P3} {k : Nat} {p : P3} (h : ps[k]? = some p) : G_shut [.net .mut (s : Int) (dPs ps), .val (.int (k : Int))] = some (.inl (.val .non), [.net .mut (s : Int) (dPs (ps.set k (p.1, p.2.1, false))), .val (.int (k : Int))]) := by
  unfold G_shut
  simp only
  rw [turnPs_ok h]
  rfl
theorem G_reopenE {s : Nat} {ps : List P3} {k : Nat} {p : P3} (h : ps[k]? = some p) : G_reopen [.net .mut (s : Int) (dPs ps), .val (.int (k : Int))] = some (.inl (.val .non), [.net .mut (s : Int) (dPs (ps.set k (p.1, p.2.1, true))), .val (.int (k : Int))]) := by
  unfold G_reopen
  simp only
  rw [turnPs_ok h]
  rfl
/-- _law_turn_one: 0 net 1 size 2 pipes 3 cell 4 pipe 5 number 6 old -/
def t_law_turn_one : VT := (seqT (ifT (bAnd (bV (v2 fEq (v2 fMod (vVar 3) (vC (.int 2))) (vC (.int 1)))) (bAnd (bV (v2 fGt (vVar 1) (vC (.int 1)))) (bV (v2 fLt (v1 fLenL (lVar 2)) (vC (.int 60)))))) (seqT (asgV 4 (v1 slD (v1 inlO (xCall 2 F_law_pipe_by (rV (v2 fDiv (vVar 3) (vC (.int 2))) (rV (vVar 1) rNil)))))) (seqT (nmT none 3 G_lay 0 (rV (v2 fIx (vVar 4) (vC (.int 0))) (rV (v2 fIx (vVar 4) (vC (.int 1))) rNil))) (seqT (appT 2 (vTup (aCons (v2 fIx (vVar 4) (vC (.int 0))) (aCons (v2 fIx (vVar 4) (vC (.int 1))) (aCons (vC (.bl true)) aNil))))) skipT))) (seqT (ifT (bV (v2 fGt (v1 fLenL (lVar 2)) (vC (.int 0)))) (seqT (asgV 5 (v2 fMod (v2 fDiv (vVar 3) (vC (.int 2))) (v1 fLenL (lVar 2)))) (seqT (asgV 6 (v2 fIxL (lVar 2) (vVar 5))) (seqT (setT 2 (vVar 5) (vTup (aCons (v2 fIx (vVar 6) (vC (.int 0))) (aCons (v2 fIx (vVar 6) (vC (.int 1))) (aCons (v1 notD (v2 fIx (vVar 6) (vC (.int 2)))) aNil))))) (seqT (ifT (bV (v2 fIx (vVar 6) (vC (.int 2)))) (seqT (nmT none 2 G_shut 0 (rV (vVar 5) rNil)) skipT) (seqT (nmT none 2 G_reopen 0 (rV (vVar 5) rNil)) skipT)) skipT)))) skipT) skipT)) skipT)
theorem v_law_turn_one : ∀ ss r ss', ss.length = 4 → G_law_turn_one ss = some (r, ss') → t_law_turn_one (postM r ss ss') (En0 ss 7) := by
  intro ss r ss' hl h
  unfold G_law_turn_one at h
  split at h
  · rename_i s ds s' ds' c
    obtain ⟨x, e1, h1⟩ := Option.bind_eq_some_iff.mp h
    obtain ⟨ps', e2, h2⟩ := Option.bind_eq_some_iff.mp h1
    split at h2
    · rename_i hc
      have h3 := Option.some.inj h2
      cases h3
      obtain ⟨rfl, rfl, hn⟩ := unNet_some e1
      cases dPs_some e2
      obtain ⟨rfl, rfl⟩ := hc
      obtain ⟨n, ps⟩ := x
      have d2 : fDiv (.int c) (.int 2) = _ := fDiv_pos (by omega) (by omega)
      have m2 : fMod (.int c) (.int 2) = _ := fMod_pos (by omega)
      have ok := turnOne_ok (c := c) hn
      refine if_d (p := c % 2 = 1 ∧ 1 < n ∧ ps.length < 60) (bAnd_d (bVe (v2e (v2e rfl rfl m2) rfl rfl)) fun _ => bAnd_d (bVe (v2e rfl rfl (by simp [fGt, i2, tt2]; omega))) fun _ => bVe (v2e (lenPs rfl) rfl (by simp [fLt, i2, tt2]; omega))) (fun q => ?_) (fun q => ?_)
      · have et : turnOne n ps c = ps ++ [((pipeBy (c / 2) n).1, (pipeBy (c / 2) n).2.1, true)] := by unfold turnOne; rw [if_pos q]
        have hP := pipeBy_ok (c := c / 2) (s := n) (by omega)
        have hn2 := hn.2.1
        simp only at hn2
        refine ⟨_, v1e (v1e (xc (rVe (v2e rfl rfl d2) rfl) ⟨rfl, rfl⟩ rfl (F_pipeBy (by omega))) rfl) rfl, ?_⟩
        refine ⟨rfl, _, _, _, _, rfl, ⟨rfl, rfl⟩, rfl, lay_ok hP.1 hP.2.1 hP.2.2 q.2.2, ?_⟩
        refine ⟨(by intro z; cases z), dP ((pipeBy (c / 2) n).1, (pipeBy (c / 2) n).2.1, true), rfl, by simp [dPs]; omega, ?_⟩
        refine ⟨rfl, .inl ⟨rfl, ?_⟩, .inr ⟨rfl, rfl⟩, .inl ⟨rfl, ?_⟩, .inr ⟨rfl, rfl⟩, trivial⟩
        · rw [et]; rfl
        · rw [et]
          simp [dPs, putA, putGo]
      · refine if_d (p := 0 < ps.length) (bVe (v2e (lenPs rfl) rfl (by simp [fGt, i2, tt2]))) (fun q2 => ?_) (fun q2 => ?_)
        · have a1 : 0 ≤ c / 2 % (ps.length : Int) := Int.emod_nonneg _ (by omega)
          have a2 : c / 2 % (ps.length : Int) < ps.length := Int.emod_lt_of_pos _ (by omega)
          obtain ⟨k, hk⟩ := Int.eq_ofNat_of_zero_le a1
          have em : fMod (.int (c / 2)) (.int (ps.length : Int)) = some (.int (k : Int)) := by rw [fMod_pos (by omega), hk]
          have et : turnOne n ps c = ps.set k ((pAt ps k).1, (pAt ps k).2.1, !(pAt ps k).2.2) := by
            unfold turnOne
            rw [if_neg q, if_pos q2, hk, Int.toNat_natCast]
          have hkl : k < ps.length := by omega
          refine ⟨.int (k : Int), v2e (v2e rfl rfl d2) (lenPs rfl) em, ?_⟩
          refine ⟨dP (pAt ps k), v2e rfl rfl (atI_dPs hkl), ?_⟩
          refine ⟨(by intro z; cases z), dP ((pAt ps k).1, (pAt ps k).2.1, !(pAt ps k).2.2), (k : Int), k, rfl, rfl, ixN_nat (by simp [dPs]; omega), ?_⟩
          have es : (dPs ps).set k (dP ((pAt ps k).1, (pAt ps k).2.1, !(pAt ps k).2.2)) = dPs (turnOne n ps c) := by
            rw [et]
            unfold dPs
            rw [List.map_set]
          refine if_b (b := (pAt ps k).2.2) (bVe (ixP2 (p := pAt ps k) rfl)) (fun b => ?_) (fun b => ?_)
          · rw [b] at et
            refine ⟨rfl, _, _, _, _, rfl, ⟨rfl, rfl⟩, rfl, G_shutE (pAt_some hkl), ?_⟩
            refine ⟨rfl, .inl ⟨rfl, ?_⟩, .inr ⟨rfl, rfl⟩, .inl ⟨rfl, ?_⟩, .inr ⟨rfl, rfl⟩, trivial⟩
            · rw [et]; rfl
            · rw [← es]; rfl
          · rw [b] at et
            refine ⟨rfl, _, _, _, _, rfl, ⟨rfl, rfl⟩, rfl, G_reopenE (pAt_some hkl), ?_⟩
            refine ⟨rfl, .inl ⟨rfl, ?_⟩, .inr ⟨rfl, rfl⟩, .inl ⟨rfl, ?_⟩, .inr ⟨rfl, rfl⟩, trivial⟩
            · rw [et]; rfl
            · rw [← es]; rfl
        · have et : turnOne n ps c = ps := by unfold turnOne; rw [if_neg q, if_neg q2]
          rw [et]
          exact ⟨rfl, .inl ⟨rfl, rfl⟩, .inr ⟨rfl, rfl⟩, .inl ⟨rfl, rfl⟩, .inr ⟨rfl, rfl⟩, trivial⟩
    · cases h2
  · cases h
end Z

set_option maxRecDepth 100000
namespace Z
open PySem PySem.Spec PyProof.Rows L2

/-! ### the third law -/
theorem vFrzE {f : VF} {Γ : En} {d : D} (h : f (frz Γ) = some d) (hs : scalD d = true) : vFrz f Γ = some d := by unfold vFrz; rw [h]; show (if _ then _ else _) = _; rw [if_pos hs]
def F_law_right_k03 : FN
  | [.net _ s ds, .val (.int s'), .val (.lst ds'), .val (.lst pl)] => (unNet s ds).bind fun x => (decs ds' : Option (List P3)).bind fun ps' => (decs pl : Option (List Nat)).bind fun ns =>
    if s' = s ∧ ps' = x.2 then some (.inl (.val (.bl true))) else none
  | _ => none
theorem F_right03 {m : Md} {s : Nat} {ps : List P3} {ns : List Nat} (h : okNet s ps) : F_law_right_k03 [.net m (s : Int) (dPs ps), .val (.int (s : Int)), .val (.lst (dPs ps)), .val (.lst (dNs ns))] = some (.inl (.val (.bl true))) := by
  show (unNet _ _).bind _ = _
  rw [unNet_of h, Option.bind_some, decs_dPs, Option.bind_some, decs_dNs, Option.bind_some]
  exact ite_some ⟨rfl, rfl⟩
/-- _law_right: 0 net 1 size 2 pipes 3 places 4 found 5 handed 6 into 7 good -/
def t_law_right_k03 : VT := (seqT (asgO 4 (v1 inlO (xCall 1 F_reached (rS 0 rNil)))) (seqT (asgV 5 (v1 slD (v1 fList (lVar 3)))) (seqT (asgO 6 (v1 inlO (xCall 2 F_entering (rS 0 (rV (vVar 5) rNil))))) (seqT (ifT (bFrz (bOr (bNot (bV (v1 slD (v1 inlO (xCall 2 F_law_rising (rV (vVar 4) (rV (vVar 1) rNil))))))) (bOr (bNot (bV (v1 slD (v1 inlO (xCall 2 F_law_rising (rV (vVar 6) (rV (v1 fLenL (lVar 2)) rNil))))))) (bV (v2 fNe (vVar 5) (vVar 3)))))) (seqT (retV (vC (.bl false))) skipT) skipT) (seqT (asgV 7 (vFrz (vAnd (v2 fEq (vVar 4) (v1 slD (v1 inlO (xCall 2 F_law_reached (rV (vVar 1) (rV (vVar 2) rNil)))))) (v2 fEq (vVar 6) (v1 slD (v1 inlO (xCall 2 F_law_into (rV (vVar 2) (rV (vVar 3) rNil))))))))) (seqT (appT 4 (vC (.int 0))) (seqT (appT 6 (vC (.int 0))) (seqT (retV (vVar 7)) skipT))))))))
theorem v_law_right_k03 : ∀ ss r, ss.length = 4 → F_law_right_k03 ss = some r → t_law_right_k03 (postP r) (En0 ss 8) ∧ ∃ s, r = .inl s := by
  intro ss r hl h
  unfold F_law_right_k03 at h
  split at h
  · rename_i m s ds s' ds' pl
    obtain ⟨x, e1, h1⟩ := Option.bind_eq_some_iff.mp h
    obtain ⟨ps', e2, h2⟩ := Option.bind_eq_some_iff.mp h1
    obtain ⟨ns, e3, h3⟩ := Option.bind_eq_some_iff.mp h2
    split at h3
    · rename_i hc
      have h4 := Option.some.inj h3
      subst h4
      obtain ⟨rfl, rfl, hn⟩ := unNet_some e1
      cases dPs_some e2
      cases dNs_some e3
      obtain ⟨rfl, rfl⟩ := hc
      obtain ⟨n, ps⟩ := x
      refine ⟨?_, _, rfl⟩
      simp only at hn ⊢
      have hn1 := hn.2.1
      have hn2 := hn.2.2.2
      obtain ⟨r1, r2, r3⟩ := reachedOf_lt (size := n) (ps := ps)
      obtain ⟨i1, i2', i3⟩ := lawInto_lt (ps := ps) (ns := ns)
      refine ⟨.own .loc (dNs (reachedOf n ps)), v1e (xc rfl ⟨rfl, rfl⟩ rfl (F_reachedE hn)) rfl, ?_⟩
      refine ⟨_, rfl, ?_⟩
      refine ⟨.own .loc (dNs (lawInto ps ns)), v1e (xc rfl ⟨rfl, rfl⟩ rfl (F_enteringE hn)) rfl, ?_⟩
      refine if_f ?_ ?_
      · refine dec_f (p := (¬ True) ∨ (¬ True) ∨ False) (by simp) (bOr_d (bNot_d (bVe (v1e (v1e (xc rfl ⟨rfl, rfl⟩ rfl (F_rising r1 r2 (by omega))) rfl) rfl))) fun _ => bOr_d (bNot_d (bVe (v1e (v1e (xc (rVe rfl (rVe (lenPs rfl) rfl)) ⟨rfl, rfl⟩ rfl (F_rising i1 i2' (by omega))) rfl) rfl))) fun _ => bVe ?_)
        exact v2e rfl rfl (fNe_refl (shaped_ns ns))
      · refine ⟨.bl true, ?_, ?_⟩
        · exact vFrzE (vAnd_t (v2e rfl (v1e (v1e (xc rfl ⟨rfl, rfl⟩ rfl (F_reachedL (ps := ps) (by omega) (by omega))) rfl) rfl) (by rw [← reached_law hn]; exact fEq_refl (shaped_ns _)))
            (v2e rfl (v1e (v1e (xc rfl ⟨rfl, rfl⟩ rfl (F_into (ps := ps) (ns := ns) (by omega))) rfl) rfl) (fEq_refl (shaped_ns _)))) rfl
        · refine ⟨(by intro z; cases z), _, rfl, by simp [dNs]; omega, ?_⟩
          refine ⟨(by intro z; cases z), _, rfl, by simp [dNs]; omega, ?_⟩
          exact ⟨_, rfl, rfl⟩
    · cases h3
  · cases h
/-- the start of a law: a net by hand -/
theorem netBy_start {ns : List Int} {small many first : Nat} (h : 0 < small) (h2 : small ≤ 12) (h3 : many ≤ 55) : okNet (sizeOf ns small) (pipesBy ns first (manyOf ns many) (sizeOf ns small)) := by
  have h4 := sizeOf_le (ns := ns) h h2
  have h5 := manyOf_le (ns := ns) h3
  exact ⟨h4.1, h4.2, okPs_iff.mpr pipesBy_ok, Nat.le_trans pipesBy_len (by omega)⟩
def F_law_k03 : FN
  | [.val (.scr _)] => some (.inl (.val (.bl true)))
  | _ => none
theorem F_law_k03_t (ns : List Int) (_ : ns.length ≤ 63) : F_law_k03 [.val (.scr ns)] = some (.inl (.val (.bl true))) := rfl
/-- law: 0 script 1 size 2 pipes 3 net 4 digits 5 places 6 place -/
def t_law_k03 : VT := (seqT (asgV 1 (v1 slD (v1 inlO (xCall 2 F_law_size_of (rV (vVar 0) (rV (vC (.int 7)) rNil)))))) (seqT (asgO 2 (v1 inlO (xCall 4 F_law_pipes_by (rV (vVar 0) (rV (vC (.int 6)) (rV (v1 slD (v1 inlO (xCall 2 F_law_many_of (rV (vVar 0) (rV (vC (.int 12)) rNil))))) (rV (vVar 1) rNil))))))) (seqT (asgO 3 (v1 inlO (xCall 2 F_law_net_by (rV (vVar 1) (rS 2 rNil))))) (seqT (asgV 4 (v2 fMod (v1 slD (v1 inlO (xCall 2 F_law_cell_at (rV (vVar 0) (rV (vC (.int 2)) rNil))))) (vC (.int 531441)))) (seqT (asgO 5 (oLst aNil)) (seqT (forT (lRng1 (vVar 1)) (gN 6) (seqT (ifT (bV (v2 fEq (v2 fMod (vVar 4) (vC (.int 3))) (vC (.int 1)))) (seqT (appT 5 (vVar 6)) skipT) skipT) (seqT (asgV 4 (v2 fDiv (vVar 4) (vC (.int 3)))) skipT))) (seqT (ifT (bV (v2 fEq (v2 fMod (v1 slD (v1 inlO (xCall 2 F_law_cell_at (rV (vVar 0) (rV (vC (.int 3)) rNil))))) (vC (.int 2))) (vC (.int 1)))) (seqT (asgO 5 (v1 fRev (lVar 5))) skipT) skipT) (seqT (ifT (bFrz (bOr (bNot (bV (v1 slD (v1 inlO (xCall 4 F_law_right_k03 (rS 3 (rV (vVar 1) (rV (vVar 2) (rV (vVar 5) rNil))))))))) (bNot (bV (v1 slD (v1 inlO (xCall 4 F_law_right_k03 (rS 3 (rV (vVar 1) (rV (vVar 2) (rV (vVar 5) rNil))))))))))) (seqT (retV (vC (.bl false))) skipT) skipT) (seqT (cmT none 4 G_law_turn_one (rS 3 (rV (vVar 1) (rS 2 (rV (v1 slD (v1 inlO (xCall 2 F_law_cell_at (rV (vVar 0) (rV (vC (.int 4)) rNil))))) rNil))))) (seqT (retV (vFrz (v1 slD (v1 inlO (xCall 4 F_law_right_k03 (rS 3 (rV (vVar 1) (rV (vVar 2) (rV (vVar 5) rNil))))))))) skipT))))))))))
theorem v_law_k03 : ∀ ss r, ss.length = 1 → F_law_k03 ss = some r → t_law_k03 (postP r) (En0 ss 7) ∧ ∃ s, r = .inl s := by
  intro ss r hl h
  unfold F_law_k03 at h
  split at h
  · rename_i ns
    have h1 := Option.some.inj h
    subst h1
    refine ⟨?_, _, rfl⟩
    have hs := sizeOf_le (ns := ns) (k := 7) (by omega) (by omega)
    have hm := manyOf_le (ns := ns) (k := 12) (by omega)
    have hn := netBy_start (ns := ns) (small := 7) (many := 12) (first := 6) (by omega) (by omega) (by omega)
    generalize hps : pipesBy ns 6 (manyOf ns 12) (sizeOf ns 7) = ps at hn
    refine ⟨_, v1e (v1e (xc rfl ⟨rfl, rfl⟩ rfl (F_sizeOf (k := 7) (by omega))) rfl) rfl, ?_⟩
    generalize sizeOf ns 7 = n at *
    refine ⟨.own .loc (dPs ps), v1e (xc (rVe rfl (rVe rfl (rVe (v1e (v1e (xc rfl ⟨rfl, rfl⟩ rfl (F_manyOf (k := 12))) rfl) rfl) (rVe rfl rfl)))) ⟨rfl, rfl⟩ rfl (F_pipesBy (f := 6) (m := manyOf ns 12) (s := n) (by omega) (by omega))) (by rw [hps]; rfl), ?_⟩
    refine ⟨.net .loc (n : Int) (dPs ps), v1e (xc rfl ⟨rfl, rfl⟩ rfl (F_netBy rfl hn)) rfl, ?_⟩
    refine ⟨_, v2e (v1e (v1e (xc rfl ⟨rfl, rfl⟩ rfl (F_cell (k := 2))) rfl) rfl) rfl (fMod_pos (by omega)), ?_⟩
    refine ⟨_, rfl, ?_⟩
    refine ⟨_, rng1e (i := (n : Int)) rfl (by omega), ?_⟩
    rw [Int.toNat_natCast]
    refine loopT_inv (enc := dInt) (fun rest Γ => ∃ (pl : List Nat) (dg : Int) (v6 : Option Sl), pl.length + rest.length ≤ n ∧ Γ = [some (.val (.scr ns)), some (.val (.int (n : Int))), some (.own .loc (dPs ps)), some (.net .loc (n : Int) (dPs ps)), some (.val (.int dg)), some (.own .loc (dNs pl)), v6]) ?_ ?_ _ _
      ⟨[], cellAt ns 2 % 531441, none, by simp, rfl⟩
    · rintro v rest Γ k ⟨pl, dg, v6, hpl, rfl⟩ hk
      refine ⟨_, rfl, ?_⟩
      simp only [List.length_cons] at hpl
      refine if_d (p := dg % 3 = 1) (bVe (v2e (v2e rfl rfl (fMod_pos (by omega))) rfl rfl)) (fun c => ?_) (fun c => ?_)
      · refine ⟨(by intro z; cases z), dInt v, rfl, by simp [dNs]; omega, ?_⟩
        refine ⟨_, v2e rfl rfl (fDiv_pos (by omega) (by omega)), ?_⟩
        refine hk _ ⟨pl ++ [v], dg / 3, some (.val (dInt v)), by simp; omega, ?_⟩
        show [_, _, _, _, _, some (Sl.own .loc (dNs pl ++ [dInt v])), _] = _
        unfold dNs
        rw [List.map_append]
        rfl
      · refine ⟨_, v2e rfl rfl (fDiv_pos (by omega) (by omega)), ?_⟩
        exact hk _ ⟨pl, dg / 3, some (.val (dInt v)), by omega, rfl⟩
    · rintro Γ ⟨pl, dg, v6, hpl, rfl⟩
      have rest : ∀ pl : List Nat, (seqT (ifT (bFrz (bOr (bNot (bV (v1 slD (v1 inlO (xCall 4 F_law_right_k03 (rS 3 (rV (vVar 1) (rV (vVar 2) (rV (vVar 5) rNil))))))))) (bNot (bV (v1 slD (v1 inlO (xCall 4 F_law_right_k03 (rS 3 (rV (vVar 1) (rV (vVar 2) (rV (vVar 5) rNil))))))))))) (seqT (retV (vC (.bl false))) skipT) skipT) (seqT (cmT none 4 G_law_turn_one (rS 3 (rV (vVar 1) (rS 2 (rV (v1 slD (v1 inlO (xCall 2 F_law_cell_at (rV (vVar 0) (rV (vC (.int 4)) rNil))))) rNil))))) (seqT (retV (vFrz (v1 slD (v1 inlO (xCall 4 F_law_right_k03 (rS 3 (rV (vVar 1) (rV (vVar 2) (rV (vVar 5) rNil))))))))) skipT))) (postP (.inl (.val (.bl true))))
          [some (.val (.scr ns)), some (.val (.int (n : Int))), some (.own .loc (dPs ps)), some (.net .loc (n : Int) (dPs ps)), some (.val (.int dg)), some (.own .loc (dNs pl)), v6] := fun pl => by
        refine if_f (dec_f (p := (¬ True) ∨ (¬ True)) (by simp) (bOr_d (bNot_d (bVe (v1e (v1e (xc rfl ⟨rfl, rfl⟩ rfl (F_right03 hn)) rfl) rfl))) fun _ => bNot_d (bVe (v1e (v1e (xc rfl ⟨rfl, rfl⟩ rfl (F_right03 hn)) rfl) rfl)))) ?_
        have hn' := turnOne_ok (c := cellAt ns 4) hn
        refine ⟨_, _, _, _, rfl, ⟨rfl, rfl⟩, rfl, G_turnOne (c := cellAt ns 4) hn, ?_⟩
        exact ⟨.bl true, vFrzE (v1e (v1e (xc rfl ⟨rfl, rfl⟩ rfl (F_right03 hn')) rfl) rfl) rfl, rfl⟩
      refine if_d (p := cellAt ns 3 % 2 = 1) (bVe (v2e (v2e (v1e (v1e (xc rfl ⟨rfl, rfl⟩ rfl (F_cell (k := 3))) rfl) rfl) rfl (fMod_pos (by omega))) rfl rfl)) (fun c => ?_) (fun c => ?_)
      · refine ⟨_, rfl, ?_⟩
        have := rest pl.reverse
        unfold dNs at this ⊢
        rw [List.map_reverse] at this
        exact this
      · exact rest pl
  · cases h
end Z

set_option maxRecDepth 100000
namespace Z
open PySem PySem.Spec PyProof.Rows L2

/-! ### a way -/
inductive Clm (here : Here) (ps : List P3) : Nat → List Nat → Prop
  | zero : Clm here ps 0 []
  | step {v m : Nat} {l : List Nat} : v ≠ 0 → hAt here v = some (m : Int) → m < ps.length → v < here.length → Clm here ps (pAt ps m).1 l → Clm here ps v (l ++ [m])
theorem Clm.det {here : Here} {ps : List P3} {v : Nat} {l : List Nat} (h : Clm here ps v l) : ∀ {l' : List Nat}, Clm here ps v l' → l = l' := by
  induction h with
  | zero =>
    intro l' h'
    cases h' with
    | zero => rfl
    | step h0 => exact absurd rfl h0
  | step h0 h1 h2 h3 h4 ih =>
    intro l' h'
    cases h' with
    | zero => exact absurd rfl h0
    | step g0 g1 g2 g3 g4 =>
      rw [h1] at g1
      have := Option.some.inj g1
      have : _ = _ := Int.ofNat.inj this
      subst this
      rw [ih g4]
/-- where a row of pipes leads to -/
def chain (ps : List P3) : Nat → List Nat → Option Nat
  | u, [] => some u
  | u, k :: ks => if (pAt ps k).2.2 = true ∧ (pAt ps k).1 = u then chain ps (pAt ps k).2.1 ks else none
theorem chain_snoc {ps : List P3} {m : Nat} : ∀ {l : List Nat} {u w : Nat}, chain ps u l = some w → (pAt ps m).2.2 = true → (pAt ps m).1 = w → chain ps u (l ++ [m]) = some (pAt ps m).2.1
  | [], u, w, h, h1, h2 => by
    cases h
    show (if _ then _ else _) = _
    rw [if_pos ⟨h1, h2⟩]
    rfl
  | k :: l, u, w, h, h1, h2 => by
    show (if _ then _ else _) = _
    unfold chain at h
    split at h
    · rename_i c
      rw [if_pos c]
      exact chain_snoc h h1 h2
    · cases h
/-- a way by open pipes, none twice -/
structure IsWay (ps : List P3) (v : Nat) (l : List Nat) : Prop where
  ch : chain ps 0 l = some v
  nd : l.Nodup
  lt : ∀ m ∈ l, m < ps.length
theorem IsWay.len {ps : List P3} {v : Nat} {l : List Nat} (h : IsWay ps v l) : l.length ≤ ps.length := nodup_lt_len h.nd h.lt
theorem climb_ok {ps : List P3} {size : Nat} {here : Here} (W : WOk (openOf ps) size here) {v : Nat} (hv : someAt here v = true) : ∃ l, Clm here ps v l ∧ IsWay ps v l := by
  obtain ⟨rk, par⟩ := W.par
  have key : ∀ (n v : Nat), rk v < n → someAt here v = true → ∃ l, Clm here ps v l ∧ IsWay ps v l ∧ ∀ m ∈ l, rk (pAt ps m).2.1 ≤ rk v := by
    intro n
    induction n with
    | zero => intro v h; omega
    | succ n ih =>
      intro v h hv
      by_cases v0 : v = 0
      · subst v0
        exact ⟨[], .zero, ⟨rfl, .nil, fun m h => (nomatch h)⟩, fun m h => (nomatch h)⟩
      · obtain ⟨x, hx⟩ := someAt_iff.mp hv
        obtain ⟨s, ⟨m, rfl, hm⟩, hs, hr⟩ := par v x v0 hx
        obtain ⟨k, hk1, hk2, hk3⟩ := openOf_mem.mp hm
        cases hk3
        obtain ⟨l, c, w, q⟩ := ih _ (by omega) hs
        refine ⟨l ++ [m], .step v0 (by unfold hAt; rw [hx]; rfl) hk1 ((List.getElem?_eq_some_iff.mp hx).1) c, ⟨chain_snoc w.ch hk2 rfl, ?_, ?_⟩, ?_⟩
        · rw [List.nodup_append]
          refine ⟨w.nd, by simp, fun a ha b hb => ?_⟩
          simp at hb
          subst hb
          intro z
          subst z
          have := q a ha
          omega
        · intro a ha
          rcases List.mem_append.mp ha with z | z
          · exact w.lt a z
          · simp at z
            subst z
            exact hk1
        · intro a ha
          rcases List.mem_append.mp ha with z | z
          · have := q a z
            omega
          · simp at z
            subst z
            exact Nat.le_refl _
  obtain ⟨l, h1, h2, _⟩ := key (rk v + 1) v (by omega) hv
  exact ⟨l, h1, h2⟩
open Classical in
noncomputable def wayOf (size : Nat) (ps : List P3) (v : Nat) : List Nat := if h : ∃ l, Clm (wet size (openOf ps)) ps v l then Classical.choose h else []
theorem wayOf_ok {size : Nat} {ps : List P3} (hn : okNet size ps) {v : Nat} (hv : someAt (wet size (openOf ps)) v = true) : Clm (wet size (openOf ps)) ps v (wayOf size ps v) ∧ IsWay ps v (wayOf size ps v) := by
  obtain ⟨l, h1, h2⟩ := climb_ok (wet_ok hn.1 fun e he => (openOf_lt hn.pip e he).2) hv
  have h : ∃ l, Clm (wet size (openOf ps)) ps v l := ⟨l, h1⟩
  unfold wayOf
  rw [dif_pos h]
  have := Classical.choose_spec h
  refine ⟨this, ?_⟩
  rw [this.det h1]
  exact h2
noncomputable def wayR (size : Nat) (ps : List P3) (v : Nat) : D := if someAt (wet size (openOf ps)) v = true then .lst (dNs (wayOf size ps v)) else .non
noncomputable def F_way : FN
  | [.net _ s ds, .val (.int p)] => (unNet s ds).map fun x => if p < 0 ∨ (x.1 : Int) ≤ p then .inr .place else .inl (.val (wayR x.1 x.2 p.toNat))
  | _ => none
theorem F_wayE {m : Md} {s : Nat} {ps : List P3} {p : Int} (h : okNet s ps) : F_way [.net m (s : Int) (dPs ps), .val (.int p)] = some (if p < 0 ∨ (s : Int) ≤ p then .inr .place else .inl (.val (wayR s ps p.toNat))) := by
  show (unNet _ _).map _ = _
  rw [unNet_of h]
  rfl
theorem F_way_no {m : Md} {s : Nat} {ps : List P3} {p : Int} (h : okNet s ps) (hp : p < 0 ∨ (s : Int) ≤ p) : F_way [.net m (s : Int) (dPs ps), .val (.int p)] = some (.inr .place) := by rw [F_wayE h, if_pos hp]
theorem F_way_yes {m : Md} {s v : Nat} {ps : List P3} (h : okNet s ps) (hp : v < s) : F_way [.net m (s : Int) (dPs ps), .val (.int (v : Int))] = some (.inl (.val (wayR s ps v))) := by rw [F_wayE h, if_neg (by omega), Int.toNat_natCast]
theorem rSe {i : Nat} {Γ : En} {s : Sl} {fs : VA} {as : List Ar} (h : Γ[i]? = some (some s)) (h2 : fs Γ = some as) : rS i fs Γ = some (.s i :: as) := by
  unfold rS
  rw [h2, Option.bind_some, h]
/-- way: 0 net 1 place 2 here 3 laid 4 found -/
def t_way : VT := (seqT (exprX (xMeth 2 F_see_place 0 (rV (vVar 1) rNil))) (seqT (asgV 2 (v1 slD (v1 inlO (xCall 2 F_wet (rV (v1 slD (v1 inlO (xMeth 1 F_size 0 rNil))) (rV (v1 slD (v1 inlO (xCall 1 F_open_pipes (rS 0 rNil)))) rNil)))))) (seqT (ifT (bV (v2 fIsN (v2 fIx (vVar 2) (vVar 1)) (vC .non))) (seqT (retV (vC .non)) skipT) skipT) (seqT (asgV 3 (v1 slD (v1 inlO (xMeth 1 F_pipes 0 rNil)))) (seqT (asgV 4 (v1 slD (oLst aNil))) (seqT (whileT (bV (v2 fNe (vVar 1) (vC (.int 0)))) (seqT (asgV 4 (v1 slD (v2 fCat (v1 slL (oLst (aCons (v2 fIx (vVar 2) (vVar 1)) aNil))) (lVar 4)))) (seqT (asgV 1 (v2 fIx (v2 fIx (vVar 3) (v2 fIx (vVar 2) (vVar 1))) (vC (.int 0)))) skipT))) (seqT (retV (vVar 4)) skipT)))))))
theorem v_way : ∀ ss r, ss.length = 2 → F_way ss = some r → t_way (postP r) (En0 ss 5) := by
  intro ss r hl h
  unfold F_way at h
  split at h
  · rename_i m s ds p
    obtain ⟨x, e1, e2⟩ := Option.map_eq_some_iff.mp h
    clear h
    subst e2
    obtain ⟨rfl, rfl, hn⟩ := unNet_some e1
    obtain ⟨n, ps⟩ := x
    clear e1
    simp only at hn ⊢
    refine ⟨_, xm rfl (xc rfl ⟨rfl, rfl⟩ rfl rfl), ?_⟩
    by_cases c : p < 0 ∨ (n : Int) ≤ p
    · rw [if_pos c, if_pos c]
      exact rfl
    rw [if_neg c, if_neg c]
    obtain ⟨v, rfl⟩ := Int.eq_ofNat_of_zero_le (show 0 ≤ p by omega)
    have hv : v < n := by omega
    have hn1 := hn.2.1
    have hn2 := hn.2.2.2
    have hlen : (wet n (openOf ps)).length = n := (wet_ok hn.1 fun e he => (openOf_lt hn.pip e he).2).len
    rw [Int.toNat_natCast]
    refine ⟨_, v1e (v1e (xc (rVe rfl (rVe (v1e (v1e (opens_e hn rfl) rfl) rfl) rfl)) ⟨rfl, rfl⟩ rfl (wetOf_e hn)) rfl) rfl, ?_⟩
    refine if_d (p := someAt (wet n (openOf ps)) v = false) (bVe (dryE (here := wet n (openOf ps)) (v := v) (v2e rfl rfl (atI_here (v := v) (by omega))))) (fun d => ?_) (fun d => ?_)
    · refine ⟨_, rfl, ?_⟩
      show (Sum.inl (Sl.val (wayR n ps v)) : Rs) = _
      unfold wayR
      rw [if_neg (by rw [d]; simp)]
    · have d : someAt (wet n (openOf ps)) v = true := by simpa using d
      obtain ⟨w1, w2⟩ := wayOf_ok hn d
      have hL := w2.len
      have eR : wayR n ps v = .lst (dNs (wayOf n ps v)) := by unfold wayR; rw [if_pos d]
      rw [eR]
      generalize wayOf n ps v = L at *
      refine ⟨_, v1e (v1e (xm rfl (xc rfl ⟨rfl, rfl⟩ rfl rfl)) rfl) rfl, ?_⟩
      refine ⟨_, rfl, ?_⟩
      refine ⟨fun k Γ => ∃ (u : Nat) (acc l : List Nat), Clm (wet n (openOf ps)) ps u l ∧ l ++ acc = L ∧ k = l.length ∧ u < n ∧
        Γ = [some (.net m (n : Int) (dPs ps)), some (.val (dInt u)), some (.val (.lst (dHere (wet n (openOf ps))))), some (.val (.lst (dPs ps))), some (.val (.lst (dNs acc)))], ⟨L.length, v, [], L, w1, by simp, rfl, hv, rfl⟩, ?_⟩
      rintro k Γ ⟨u, acc, l, q1, q2, q3, q4, rfl⟩
      refine ⟨!decide ((u : Int) = 0), rfl, fun b => ?_, fun b => ?_⟩
      · cases q1 with
        | zero => simp at b
        | step g0 g1 g2 g3 g4 =>
          rename_i mm l
          have hix : v2 fIx (vVar 2) (vVar 1) [some (Sl.net m (n : Int) (dPs ps)), some (.val (dInt u)), some (.val (.lst (dHere (wet n (openOf ps))))), some (.val (.lst (dPs ps))), some (.val (.lst (dNs acc)))] = some (dInt mm) := v2e rfl rfl (by
            have := atI_here (here := wet n (openOf ps)) (v := u) (by omega)
            rw [g1] at this
            exact this)
          have hlen2 : acc.length + 1 ≤ 60 := by
            have := congrArg List.length q2
            simp at this
            omega
          refine ⟨.lst (dNs (mm :: acc)), ?_, ?_⟩
          · refine v1e (v2e (x := [dInt mm]) (y := dNs acc) (z := .own .loc (dInt mm :: dNs acc)) ?_ rfl ?_) rfl
            · refine v1e (x := .own .loc [dInt mm]) ?_ rfl
              unfold oLst aCons
              rw [hix]
              rfl
            · exact ite_some (decide_eq_true (by simp [dNs]; omega))
          · refine ⟨dInt (pAt ps mm).1, ?_, ?_⟩
            · exact ixP0 (p := pAt ps mm) (ixP (k := mm) rfl (by
                refine v2e (x := .lst (dHere (wet n (openOf ps)))) (y := dInt u) rfl rfl ?_
                have := atI_here (here := wet n (openOf ps)) (v := u) (by omega)
                rw [g1] at this
                exact this) g2)
            · have := hn.pip _ (pAt_mem g2)
              exact ⟨l.length, by rw [q3]; simp, (pAt ps mm).1, mm :: acc, l, g4, by rw [← q2]; simp, rfl, this.1, rfl⟩
      · have u0 : u = 0 := by
          have : ((u : Int) = 0) := by simpa using b
          omega
        subst u0
        have : l = [] := by
          cases q1 with
          | zero => rfl
          | step g0 => exact absurd rfl g0
        subst this
        have q2 : acc = L := q2
        subst q2
        exact ⟨_, rfl, rfl⟩
  · cases h

/-! ### ways as the law asks them -/
def F_law_is_way : FN
  | [.val (.lst es), .val (.lst ds), .val (.int v)] => (decs es : Option (List Nat)).bind fun l => (decs ds : Option (List P3)).bind fun ps =>
      if 0 ≤ v ∧ chain ps 0 l = some v.toNat ∧ l.Nodup ∧ (∀ m ∈ l, m < ps.length) ∧ ps.length ≤ 4000 then some (.inl (.val (.bl true))) else none
  | _ => none
theorem F_isWay {ps : List P3} {v : Nat} {l : List Nat} (w : IsWay ps v l) (h : ps.length ≤ 4000) : F_law_is_way [.val (.lst (dNs l)), .val (.lst (dPs ps)), .val (.int (v : Int))] = some (.inl (.val (.bl true))) := by
  show (decs (dNs l)).bind _ = _
  rw [decs_dNs, Option.bind_some, decs_dPs, Option.bind_some]
  exact ite_some ⟨Int.natCast_nonneg v, w.ch, w.nd, w.lt, h⟩
/-- _law_is_way: 0 found 1 pipes 2 place 3 here 4 number -/
def t_law_is_way : VT := (seqT (ifT (bOr (bNot (bV (v1 slD (v1 inlO (xCall 2 F_law_numbers (rV (vVar 0) (rV (v1 fLenL (lVar 1)) rNil))))))) (bV (v2 fNe (v1 fLenSet (lVar 0)) (v1 fLenL (lVar 0))))) (seqT (retV (vC (.bl false))) skipT) skipT) (seqT (asgV 3 (vC (.int 0))) (seqT (forT (v1 dL (vVar 0)) (gN 4) (seqT (ifT (bOr (bNot (bV (v2 fIx (v2 fIx (vVar 1) (vVar 4)) (vC (.int 2))))) (bV (v2 fNe (v2 fIx (v2 fIx (vVar 1) (vVar 4)) (vC (.int 0))) (vVar 3)))) (seqT (retV (vC (.bl false))) skipT) skipT) (seqT (asgV 3 (v2 fIx (v2 fIx (vVar 1) (vVar 4)) (vC (.int 1)))) skipT))) (seqT (retV (v2 fEq (vVar 3) (vVar 2))) skipT))))
theorem v_law_is_way : ∀ ss r, ss.length = 3 → F_law_is_way ss = some r → t_law_is_way (postP r) (En0 ss 5) ∧ ∃ s, r = .inl s := by
  intro ss r hl h
  unfold F_law_is_way at h
  split at h
  · rename_i es ds v
    obtain ⟨l, e1, h1⟩ := Option.bind_eq_some_iff.mp h
    obtain ⟨ps, e2, h2⟩ := Option.bind_eq_some_iff.mp h1
    clear h h1
    split at h2
    · rename_i hc
      have h3 := Option.some.inj h2
      clear h2
      subst h3
      cases dNs_some e1
      cases dPs_some e2
      obtain ⟨v0, hch, hnd, hlt, hps⟩ := hc
      obtain ⟨v, rfl⟩ := Int.eq_ofNat_of_zero_le v0
      rw [Int.toNat_natCast] at hch
      have hL : l.length ≤ ps.length := nodup_lt_len hnd hlt
      refine ⟨?_, _, rfl⟩
      refine if_f (dec_f (p := (¬ True) ∨ False) (by simp) (bOr_d (bNot_d (bVe (v1e (v1e (xc (rVe rfl (rVe (lenPs rfl) rfl)) ⟨rfl, rfl⟩ rfl (F_numbers hlt)) rfl) rfl))) fun _ => bVe ?_)) ?_
      · refine v2e (v1e (x := dNs l) rfl (fLenSet_ns hnd (by omega))) (v1e (x := dNs l) (y := .int (l.length : Int)) rfl (by simp [fLenL, dNs])) ?_
        simp [fNe, fEq, notD]
      refine ⟨_, rfl, ?_⟩
      refine ⟨dNs l, rfl, ?_⟩
      refine loopT_inv (enc := dInt) (fun rest Γ => ∃ (u : Nat) (v4 : Option Sl), (∀ k ∈ rest, k < ps.length) ∧ chain ps u rest = some v ∧ Γ = [some (.val (.lst (dNs l))), some (.val (.lst (dPs ps))), some (.val (.int (v : Int))), some (.val (dInt u)), v4]) ?_ ?_ l _ ⟨0, none, hlt, hch, rfl⟩
      · rintro k rest Γ kk ⟨u, v4, hr, hc, rfl⟩ hk
        refine ⟨_, rfl, ?_⟩
        have hkl := hr k (by simp)
        unfold chain at hc
        split at hc
        · rename_i q
          refine if_f (dec_f (p := (¬ True) ∨ False) (by simp) (bOr_d (bNot_d (bVe ?_)) fun _ => bVe ?_)) ?_
          · have := ixP2 (ixP (Γ := [some (.val (.lst (dNs l))), some (.val (.lst (dPs ps))), some (.val (.int (v : Int))), some (.val (dInt u)), some (.val (dInt k))]) (f := vVar 1) (h := vVar 4) (ps := ps) (k := k) rfl rfl hkl)
            rw [q.1] at this
            exact this
          · refine v2e (ixP0 (ixP (ps := ps) (k := k) rfl rfl hkl)) (y := dInt u) rfl ?_
            rw [q.2]
            simp [fNe, fEq, notD, dInt]
          · refine ⟨dInt (pAt ps k).2.1, ixP1 (ixP (ps := ps) (k := k) rfl rfl hkl), ?_⟩
            exact hk _ ⟨(pAt ps k).2.1, _, fun a ha => hr a (List.mem_cons_of_mem _ ha), hc, rfl⟩
        · cases hc
      · rintro Γ ⟨u, v4, _, hc, rfl⟩
        have hc := Option.some.inj hc
        subst hc
        exact ⟨.bl true, v2e rfl rfl (by simp [fEq, dInt]), rfl⟩
    · cases h2
  · cases h
noncomputable def F_law_no_place_k04 : FN
  | [.net _ s ds, .val (.int p)] => (unNet s ds).bind fun x => if p < 0 ∨ (x.1 : Int) ≤ p then some (.inl (.val (.bl true))) else none
  | _ => none
theorem F_noPlace04 {m : Md} {s : Nat} {ps : List P3} {p : Int} (h : okNet s ps) (hp : p < 0 ∨ (s : Int) ≤ p) : F_law_no_place_k04 [.net m (s : Int) (dPs ps), .val (.int p)] = some (.inl (.val (.bl true))) := by
  show (unNet _ _).bind _ = _
  rw [unNet_of h]
  exact ite_some hp
/-- _law_no_place: 0 net 1 place 2 refused -/
def t_law_no_place_k04 : VT := (seqT (asgV 2 (vC (.bl false))) (seqT (tryT (ctL [.place]) (seqT (exprX (xCall 2 F_way (rS 0 (rV (vVar 1) rNil)))) skipT) (seqT (asgV 2 (vC (.bl true))) skipT)) (seqT (retV (vVar 2)) skipT)))
theorem v_law_no_place_k04 : ∀ ss r, ss.length = 2 → F_law_no_place_k04 ss = some r → t_law_no_place_k04 (postP r) (En0 ss 3) ∧ ∃ s, r = .inl s := by
  intro ss r hl h
  unfold F_law_no_place_k04 at h
  split at h
  · rename_i m s ds p
    obtain ⟨x, e1, h1⟩ := Option.bind_eq_some_iff.mp h
    clear h
    split at h1
    · rename_i hc
      have h2 := Option.some.inj h1
      clear h1
      subst h2
      obtain ⟨rfl, rfl, hn⟩ := unNet_some e1
      refine ⟨?_, _, rfl⟩
      refine ⟨_, rfl, ?_⟩
      refine ⟨.inr .place, xc rfl ⟨rfl, rfl⟩ rfl (F_way_no hn hc), ?_⟩
      exact ⟨_, rfl, _, rfl, rfl⟩
    · cases h1
  · cases h
noncomputable def F_law_right_k04 : FN
  | [.net _ s ds, .val (.int s'), .val (.lst ds')] => (unNet s ds).bind fun x => (decs ds' : Option (List P3)).bind fun ps' => if s' = s ∧ ps' = x.2 then some (.inl (.val (.bl true))) else none
  | _ => none
theorem F_right04 {m : Md} {s : Nat} {ps : List P3} (h : okNet s ps) : F_law_right_k04 [.net m (s : Int) (dPs ps), .val (.int (s : Int)), .val (.lst (dPs ps))] = some (.inl (.val (.bl true))) := by
  show (unNet _ _).bind _ = _
  rw [unNet_of h, Option.bind_some, decs_dPs, Option.bind_some]
  exact ite_some ⟨rfl, rfl⟩
/-- _law_right: 0 net 1 size 2 pipes 3 here 4 place 5 found -/
def t_law_right_k04 : VT := (seqT (asgV 3 (v1 slD (v1 inlO (xCall 2 F_law_reached (rV (vVar 1) (rV (vVar 2) rNil)))))) (seqT (forT (lRng1 (vVar 1)) (gN 4) (seqT (asgV 5 (v1 slD (v1 inlO (xCall 2 F_way (rS 0 (rV (vVar 4) rNil)))))) (seqT (ifT (bV (v2 (fIn true) (vVar 4) (lVar 3))) (seqT (ifT (bV (v2 fNotN (vVar 5) (vC .non))) (seqT (retV (vC (.bl false))) skipT) skipT) skipT) (seqT (ifT (bNot (bV (v1 slD (v1 inlO (xCall 3 F_law_is_way (rV (vVar 5) (rV (vVar 2) (rV (vVar 4) rNil)))))))) (seqT (retV (vC (.bl false))) skipT) skipT) skipT)) skipT))) (seqT (retV (vC (.bl true))) skipT)))
theorem v_law_right_k04 : ∀ ss r, ss.length = 3 → F_law_right_k04 ss = some r → t_law_right_k04 (postP r) (En0 ss 6) ∧ ∃ s, r = .inl s := by
  intro ss r hl h
  unfold F_law_right_k04 at h
  split at h
  · rename_i m s ds s' ds'
    obtain ⟨x, e1, h1⟩ := Option.bind_eq_some_iff.mp h
    obtain ⟨ps', e2, h2⟩ := Option.bind_eq_some_iff.mp h1
    clear h h1
    split at h2
    · rename_i hc
      have h4 := Option.some.inj h2
      clear h2
      subst h4
      obtain ⟨rfl, rfl, hn⟩ := unNet_some e1
      cases dPs_some e2
      clear e1 e2
      obtain ⟨rfl, rfl⟩ := hc
      obtain ⟨n, ps⟩ := x
      refine ⟨?_, _, rfl⟩
      simp only at hn ⊢
      have hn1 := hn.2.1
      have hn2 := hn.2.2.2
      refine ⟨.lst (dNs (reachedOf n ps)), v1e (v1e (xc rfl ⟨rfl, rfl⟩ rfl (F_reachedL (ps := ps) (by omega) (by omega))) rfl) (by rw [← reached_law hn]; rfl), ?_⟩
      refine ⟨_, rng1e (i := (n : Int)) rfl (by omega), ?_⟩
      rw [Int.toNat_natCast]
      refine loopT_inv (enc := dInt) (fun rest Γ => (∀ v ∈ rest, v < n) ∧ ∃ v4 v5, Γ = [some (.net m (n : Int) (dPs ps)), some (.val (.int (n : Int))), some (.val (.lst (dPs ps))), some (.val (.lst (dNs (reachedOf n ps)))), v4, v5]) ?_ ?_ _ _ ⟨fun v hv => by simpa using hv, none, none, rfl⟩
      · rintro v rest Γ k ⟨hr, v4, v5, rfl⟩ hk
        refine ⟨_, rfl, ?_⟩
        have hv := hr v (by simp)
        have hr' : ∀ v ∈ rest, v < n := fun a ha => hr a (List.mem_cons_of_mem _ ha)
        refine ⟨wayR n ps v, v1e (v1e (xc rfl ⟨rfl, rfl⟩ rfl (F_way_yes hn hv)) rfl) rfl, ?_⟩
        have hm : v ∈ reachedOf n ps ↔ someAt (wet n (openOf ps)) v = true := by
          unfold reachedOf
          rw [List.mem_filter, List.mem_range]
          exact ⟨fun q => q.2, fun q => ⟨hv, q⟩⟩
        refine if_d (p := v ∉ reachedOf n ps) (bVe (notInE rfl rfl)) (fun c => ?_) (fun c => ?_)
        · have : wayR n ps v = .non := by unfold wayR; rw [if_neg (fun z => c (hm.mpr z))]
          rw [this]
          refine if_f rfl ?_
          exact hk _ ⟨hr', _, _, rfl⟩
        · have d : someAt (wet n (openOf ps)) v = true := hm.mp (Decidable.not_not.mp c)
          have : wayR n ps v = .lst (dNs (wayOf n ps v)) := by unfold wayR; rw [if_pos d]
          rw [this]
          refine if_f (dec_f (p := ¬ True) (by simp) (bNot_d (bVe (v1e (v1e (xc rfl ⟨rfl, rfl⟩ rfl (F_isWay (wayOf_ok hn d).2 (by omega))) rfl) rfl)))) ?_
          exact hk _ ⟨hr', _, _, rfl⟩
      · rintro Γ ⟨_, v4, v5, rfl⟩
        exact ⟨_, rfl, rfl⟩
    · cases h2
  · cases h
def F_law_k04 : FN
  | [.val (.scr _)] => some (.inl (.val (.bl true)))
  | _ => none
theorem F_law_k04_t (ns : List Int) (_ : ns.length ≤ 63) : F_law_k04 [.val (.scr ns)] = some (.inl (.val (.bl true))) := rfl
/-- law: 0 script 1 size 2 pipes 3 net -/
def t_law_k04 : VT := (seqT (asgV 1 (v1 slD (v1 inlO (xCall 2 F_law_size_of (rV (vVar 0) (rV (vC (.int 7)) rNil)))))) (seqT (asgO 2 (v1 inlO (xCall 4 F_law_pipes_by (rV (vVar 0) (rV (vC (.int 6)) (rV (v1 slD (v1 inlO (xCall 2 F_law_many_of (rV (vVar 0) (rV (vC (.int 12)) rNil))))) (rV (vVar 1) rNil))))))) (seqT (asgO 3 (v1 inlO (xCall 2 F_law_net_by (rV (vVar 1) (rS 2 rNil))))) (seqT (ifT (bFrz (bNot (bV (v1 slD (v1 inlO (xCall 3 F_law_right_k04 (rS 3 (rV (vVar 1) (rV (vVar 2) rNil))))))))) (seqT (retV (vC (.bl false))) skipT) skipT) (seqT (cmT none 4 G_law_turn_one (rS 3 (rV (vVar 1) (rS 2 (rV (v1 slD (v1 inlO (xCall 2 F_law_cell_at (rV (vVar 0) (rV (vC (.int 3)) rNil))))) rNil))))) (seqT (ifT (bFrz (bNot (bV (v1 slD (v1 inlO (xCall 3 F_law_right_k04 (rS 3 (rV (vVar 1) (rV (vVar 2) rNil))))))))) (seqT (retV (vC (.bl false))) skipT) skipT) (seqT (retV (vAnd (v1 slD (v1 inlO (xCall 2 F_law_no_place_k04 (rS 3 (rV (v1 fNeg (vC (.int 1))) rNil))))) (v1 slD (v1 inlO (xCall 2 F_law_no_place_k04 (rS 3 (rV (v2 fAdd (vVar 1) (v2 fMod (v1 slD (v1 inlO (xCall 2 F_law_cell_at (rV (vVar 0) (rV (vC (.int 2)) rNil))))) (vC (.int 9)))) rNil))))))) skipT)))))))
theorem v_law_k04 : ∀ ss r, ss.length = 1 → F_law_k04 ss = some r → t_law_k04 (postP r) (En0 ss 4) ∧ ∃ s, r = .inl s := by
  intro ss r hl h
  unfold F_law_k04 at h
  split at h
  · rename_i ns
    have h1 := Option.some.inj h
    clear h
    subst h1
    refine ⟨?_, _, rfl⟩
    have hs := sizeOf_le (ns := ns) (k := 7) (by omega) (by omega)
    have hm := manyOf_le (ns := ns) (k := 12) (by omega)
    have hn := netBy_start (ns := ns) (small := 7) (many := 12) (first := 6) (by omega) (by omega) (by omega)
    generalize hps : pipesBy ns 6 (manyOf ns 12) (sizeOf ns 7) = ps at hn
    refine ⟨_, v1e (v1e (xc rfl ⟨rfl, rfl⟩ rfl (F_sizeOf (k := 7) (by omega))) rfl) rfl, ?_⟩
    generalize sizeOf ns 7 = n at *
    refine ⟨.own .loc (dPs ps), v1e (xc (rVe rfl (rVe rfl (rVe (v1e (v1e (xc rfl ⟨rfl, rfl⟩ rfl (F_manyOf (k := 12))) rfl) rfl) (rVe rfl rfl)))) ⟨rfl, rfl⟩ rfl (F_pipesBy (f := 6) (m := manyOf ns 12) (s := n) (by omega) (by omega))) (by rw [hps]; rfl), ?_⟩
    refine ⟨.net .loc (n : Int) (dPs ps), v1e (xc rfl ⟨rfl, rfl⟩ rfl (F_netBy rfl hn)) rfl, ?_⟩
    refine if_f (dec_f (p := ¬ True) (by simp) (bNot_d (bVe (v1e (v1e (xc rfl ⟨rfl, rfl⟩ rfl (F_right04 hn)) rfl) rfl)))) ?_
    have hn' := turnOne_ok (c := cellAt ns 3) hn
    refine ⟨_, _, _, _, rfl, ⟨rfl, rfl⟩, rfl, G_turnOne (c := cellAt ns 3) hn, ?_⟩
    refine if_f (dec_f (p := ¬ True) (by simp) (bNot_d (bVe (v1e (v1e (xc rfl ⟨rfl, rfl⟩ rfl (F_right04 hn')) rfl) rfl)))) ?_
    have c9 : 0 ≤ cellAt ns 2 % 9 := Int.emod_nonneg _ (by omega)
    refine ⟨.bl true, vAnd_t (v1e (v1e (xc rfl ⟨rfl, rfl⟩ rfl (F_noPlace04 hn' (by omega))) rfl) rfl) (v1e (v1e (xc (rSe rfl (rVe (v2e (z := .int ((n : Int) + cellAt ns 2 % 9)) rfl (v2e (v1e (v1e (xc rfl ⟨rfl, rfl⟩ rfl (F_cell (k := 2))) rfl) rfl) rfl (fMod_pos (i := cellAt ns 2) (j := 9) (by omega))) rfl) rfl)) ⟨rfl, rfl⟩ rfl (F_noPlace04 (p := (n : Int) + cellAt ns 2 % 9) hn' (by omega))) rfl) rfl), rfl⟩
  · cases h
end Z

set_option maxRecDepth 100000
namespace Z
open PySem PySem.Spec PyProof.Rows L2

/-! ### one pipe shut -/
theorem okD_O3 (a : O3) : okD (dO3 a) = true := rfl
theorem fEq_O3 (a b : O3) : fEq (dO3 a) (dO3 b) = some (.bl (decide (a = b))) := by
  show (if (okD (dO3 a) && okD (dO3 b)) = true then some (D.bl (PyData.eqv (toPy (dO3 a)) (toPy (dO3 b)))) else none) = _
  rw [okD_O3, okD_O3]
  show some (D.bl (PyData.eqv (toPy (dO3 a)) (toPy (dO3 b)))) = _
  refine congrArg (fun b => some (D.bl b)) ?_
  obtain ⟨a1, a2, a3⟩ := a
  obtain ⟨b1, b2, b3⟩ := b
  show (((a1 : Int) == (b1 : Int)) && (((a2 : Int) == (b2 : Int)) && (((a3 : Int) == (b3 : Int)) && true))) = _
  by_cases c1 : a1 = b1 <;> by_cases c2 : a2 = b2 <;> by_cases c3 : a3 = b3 <;> simp [c1, c2, c3] <;> omega
theorem neO3 {Γ : En} {f h : VF} {a b : O3} (h1 : f Γ = some (dO3 a)) (h2 : h Γ = some (dO3 b)) : v2 fNe f h Γ = some (.bl (decide (a ≠ b))) := by
  refine v2e h1 h2 ?_
  unfold fNe
  rw [fEq_O3]
  show some (D.bl (!decide (a = b))) = _
  simp
theorem openOf_edges (ps : List P3) : edgesOf ps (lawOpen ps) = prs (openOf ps) := by
  unfold edgesOf prs openOf
  rw [List.map_map]
  rfl
theorem openOf_ne (ps : List P3) (k : Nat) : (openOf ps).filter (fun o => decide (o ≠ opOf ps k)) = ((lawOpen ps).filter fun j => decide (j ≠ k)).map (opOf ps) := by
  unfold openOf
  rw [List.filter_map]
  congr 1
  refine List.filter_congr fun j hj => ?_
  show decide (opOf ps j ≠ opOf ps k) = decide (j ≠ k)
  by_cases c : j = k
  · subst c; simp
  · have : opOf ps j ≠ opOf ps k := fun z => c (congrArg Prod.fst z)
    simp [c, this]
theorem mem_lawWet {size : Nat} {es : List (Nat × Nat)} (h0 : 0 < size) (he : ∀ e ∈ es, e.2 < size) {v : Nat} : v ∈ lawWet size es ↔ Rch es v := by
  unfold lawWet
  rw [(srtN_perm _).mem_iff, lw_iff h0 he]
theorem wet_law {size : Nat} {os : List O3} (h0 : 0 < size) (he : ∀ o ∈ os, o.2.2 < size) {v : Nat} : someAt (wet size os) v = true ↔ v ∈ lawWet size (prs os) := by
  rw [wet_iff h0 he, mem_lawWet h0]
  intro e q
  obtain ⟨o, h1, rfl⟩ := List.mem_map.mp q
  exact he o h1
def lawNeeded (size : Nat) (ps : List P3) (v : Nat) : List Nat := if v ∈ lawReached size ps then (lawOpen ps).filter fun k => decide (v ∉ lawWet size (edgesOf ps ((lawOpen ps).filter fun j => decide (j ≠ k)))) else []
theorem lawNeeded_lt {size v : Nat} {ps : List P3} : (∀ n ∈ lawNeeded size ps v, n < ps.length) ∧ (lawNeeded size ps v).Pairwise (· < ·) ∧ (lawNeeded size ps v).length ≤ ps.length := by
  unfold lawNeeded
  split
  · refine ⟨fun n hn => (lawOpen_lt (List.mem_filter.mp hn).1).1, List.Pairwise.filter _ (List.Pairwise.filter _ List.pairwise_lt_range), Nat.le_trans (List.length_filter_le _ _) (lawOpen_len ps)⟩
  · exact ⟨fun n hn => (nomatch hn), .nil, by simp⟩
/-- what the program tells -/
theorem needed_eq {size v : Nat} {ps : List P3} (hn : okNet size ps) (hv : someAt (wet size (openOf ps)) v = true) :
    ((openOf ps).filter fun o => decide (someAt (wet size ((openOf ps).filter fun p => decide (p ≠ o))) v = false)).map (fun o => dInt o.1) = dNs (lawNeeded size ps v) := by
  have ho := openOf_lt hn.pip
  have hr : v ∈ lawReached size ps := by
    unfold lawReached
    rw [openOf_edges]
    exact (wet_law hn.1 fun o q => (ho o q).2).mp hv
  unfold lawNeeded
  rw [if_pos hr]
  show ((List.filter _ ((lawOpen ps).map (opOf ps))).map _) = _
  rw [List.filter_map, List.map_map]
  unfold dNs
  show List.map dInt _ = _
  congr 1
  refine List.filter_congr fun k hk => ?_
  show decide (someAt (wet size ((openOf ps).filter fun p => decide (p ≠ opOf ps k))) v = false) = _
  have e : prs ((openOf ps).filter fun p => decide (p ≠ opOf ps k)) = edgesOf ps ((lawOpen ps).filter fun j => decide (j ≠ k)) := by
    rw [openOf_ne]
    unfold prs edgesOf
    rw [List.map_map]
    rfl
  have := wet_law (v := v) (os := (openOf ps).filter fun p => decide (p ≠ opOf ps k)) hn.1 fun o q => (ho o (List.mem_filter.mp q).1).2
  rw [e] at this
  by_cases c : someAt (wet size ((openOf ps).filter fun p => decide (p ≠ opOf ps k))) v = true
  · rw [decide_eq_false (show ¬ someAt (wet size ((openOf ps).filter fun p => decide (p ≠ opOf ps k))) v = false by rw [c]; simp)]
    exact (decide_eq_false (Decidable.not_not.mpr (this.mp c))).symm
  · have c' : someAt (wet size ((openOf ps).filter fun p => decide (p ≠ opOf ps k))) v = false := by simpa using c
    rw [decide_eq_true c']
    exact (decide_eq_true (show ¬ v ∈ _ from fun z => c (this.mpr z))).symm
def F_needed : FN
  | [.net _ s ds, .val (.int p)] => (unNet s ds).map fun x => if p < 0 ∨ (x.1 : Int) ≤ p then .inr .place else .inl (.own .loc (dNs (lawNeeded x.1 x.2 p.toNat)))
  | _ => none
theorem F_needed_no {m : Md} {s : Nat} {ps : List P3} {p : Int} (h : okNet s ps) (hp : p < 0 ∨ (s : Int) ≤ p) : F_needed [.net m (s : Int) (dPs ps), .val (.int p)] = some (.inr .place) := by
  show (unNet _ _).map _ = _
  rw [unNet_of h, Option.map_some, if_pos hp]
theorem F_needed_yes {m : Md} {s v : Nat} {ps : List P3} (h : okNet s ps) (hp : v < s) : F_needed [.net m (s : Int) (dPs ps), .val (.int (v : Int))] = some (.inl (.own .loc (dNs (lawNeeded s ps v)))) := by
  show (unNet _ _).map _ = _
  rw [unNet_of h, Option.map_some, if_neg (by omega), Int.toNat_natCast]
/-- needed: 0 net 1 place 2 pipes 3 found 4 pipe 5 other -/
def t_needed : VT := (seqT (exprX (xMeth 2 F_see_place 0 (rV (vVar 1) rNil))) (seqT (asgV 2 (v1 slD (v1 inlO (xCall 1 F_open_pipes (rS 0 rNil))))) (seqT (asgO 3 (oLst aNil)) (seqT (ifT (bV (v2 fIsN (v2 fIx (v1 slD (v1 inlO (xCall 2 F_wet (rV (v1 slD (v1 inlO (xMeth 1 F_size 0 rNil))) (rV (vVar 2) rNil))))) (vVar 1)) (vC .non))) (seqT (retS 3) skipT) skipT) (seqT (forT (v1 dL (vVar 2)) (gN 4) (seqT (ifT (bV (v2 fIsN (v2 fIx (v1 slD (v1 inlO (xCall 2 F_wet (rV (v1 slD (v1 inlO (xMeth 1 F_size 0 rNil))) (rV (v1 slD (vLc [5] (lVar 2) (gN 5) (bV (v2 fNe (vVar 5) (vVar 4))) (vVar 5))) rNil))))) (vVar 1)) (vC .non))) (seqT (appT 3 (v2 fIx (vVar 4) (vC (.int 0)))) skipT) skipT) skipT)) (seqT (retS 3) skipT))))))
theorem v_needed : ∀ ss r, ss.length = 2 → F_needed ss = some r → t_needed (postP r) (En0 ss 6) := by
  intro ss r hl h
  unfold F_needed at h
  split at h
  · rename_i m s ds p
    obtain ⟨x, e1, e2⟩ := Option.map_eq_some_iff.mp h
    clear h
    subst e2
    obtain ⟨rfl, rfl, hn⟩ := unNet_some e1
    obtain ⟨n, ps⟩ := x
    clear e1
    simp only at hn ⊢
    refine ⟨_, xm rfl (xc rfl ⟨rfl, rfl⟩ rfl rfl), ?_⟩
    by_cases c : p < 0 ∨ (n : Int) ≤ p
    · rw [if_pos c, if_pos c]
      exact rfl
    rw [if_neg c, if_neg c]
    obtain ⟨v, rfl⟩ := Int.eq_ofNat_of_zero_le (show 0 ≤ p by omega)
    have hv : v < n := by omega
    have hn1 := hn.2.1
    have hn2 := hn.2.2.2
    have ho := openOf_lt hn.pip
    have hol := openOf_len ps
    have hlen : ∀ os : List O3, (∀ o ∈ os, o.2.2 < n) → (wet n os).length = n := fun os h => (wet_ok hn.1 h).len
    rw [Int.toNat_natCast]
    refine ⟨_, v1e (v1e (opens_e hn rfl) rfl) rfl, ?_⟩
    refine ⟨_, rfl, ?_⟩
    have l0 := hlen (openOf ps) fun o q => (ho o q).2
    refine if_d (p := someAt (wet n (openOf ps)) v = false) (bVe (dryE (here := wet n (openOf ps)) (v := v) (v2e (v1e (v1e (xc rfl ⟨rfl, rfl⟩ rfl (wetOf_e hn)) rfl) rfl) rfl (atI_here (v := v) (by omega))))) (fun d => ?_) (fun d => ?_)
    · refine ⟨_, rfl, rfl, ?_⟩
      show (Sum.inl (Sl.own .loc (dNs (lawNeeded n ps v))) : Rs) = _
      unfold lawNeeded
      rw [if_neg]
      · rfl
      · intro z
        unfold lawReached at z
        rw [openOf_edges] at z
        have := (wet_law hn.1 fun o q => (ho o q).2).mpr z
        rw [d] at this
        cases this
    · have d : someAt (wet n (openOf ps)) v = true := by simpa using d
      refine ⟨dOs (openOf ps), rfl, ?_⟩
      refine loopT_inv (enc := dO3) (fun rest Γ => ∃ (done : List O3) (v4 v5 : Option Sl), done ++ rest = openOf ps ∧
        Γ = [some (.net m (n : Int) (dPs ps)), some (.val (dInt v)), some (.val (.lst (dOs (openOf ps)))), some (.own .loc ((done.filter fun o => decide (someAt (wet n ((openOf ps).filter fun p => decide (p ≠ o))) v = false)).map fun o => dInt o.1)), v4, v5]) ?_ ?_ _ _ ⟨[], none, none, rfl, rfl⟩
      · rintro o rest Γ k ⟨done, v4, v5, hd, rfl⟩ hk
        refine ⟨_, rfl, ?_⟩
        have hf : ∀ q ∈ (openOf ps).filter (fun p => decide (p ≠ o)), q.2.1 < n ∧ q.2.2 < n := fun q z => ho q (List.mem_filter.mp z).1
        have l1 := hlen _ fun q z => (hf q z).2
        have hdl : done.length ≤ 60 := by
          have := congrArg List.length hd
          rw [List.length_append] at this
          omega
        refine if_d (p := someAt (wet n ((openOf ps).filter fun p => decide (p ≠ o))) v = false) (bVe (dryE (here := wet n ((openOf ps).filter fun p => decide (p ≠ o))) (v := v) (v2e (v1e (v1e (xc (rVe rfl (rVe (v1e (vlc_filter (enc := dO3) (xs := openOf ps) (p := fun p => decide (p ≠ o)) (h := dO3) rfl (by omega) (fun q _ => lcS rfl (bVe (neO3 rfl rfl)) fun _ => rfl)) rfl) rfl)) ⟨rfl, rfl⟩ rfl (F_wetE hn.1 (by omega) hf)) rfl) rfl) rfl (atI_here (v := v) (by omega))))) (fun c => ?_) (fun c => ?_)
        · refine ⟨(by intro z; cases z), dInt o.1, rfl, by rw [List.length_map]; exact Nat.le_trans (List.length_filter_le _ _) (by omega), ?_⟩
          refine hk _ ⟨done ++ [o], some (.val (dO3 o)), v5, by rw [← hd]; simp, ?_⟩
          rw [List.filter_append, List.map_append]
          rw [show ([o].filter fun o => decide (someAt (wet n ((openOf ps).filter fun p => decide (p ≠ o))) v = false)) = [o] by rw [List.filter_cons, if_pos (decide_eq_true c)]; rfl]
          rfl
        · refine hk _ ⟨done ++ [o], some (.val (dO3 o)), v5, by rw [← hd]; simp, ?_⟩
          rw [List.filter_append, List.map_append]
          rw [show ([o].filter fun o => decide (someAt (wet n ((openOf ps).filter fun p => decide (p ≠ o))) v = false)) = [] by rw [List.filter_cons, if_neg (by rw [decide_eq_false c]; simp)]; rfl]
          rw [List.map_nil, List.append_nil]
          rfl
      · rintro Γ ⟨done, v4, v5, hd, rfl⟩
        rw [List.append_nil] at hd
        subst hd
        rw [needed_eq hn d]
        exact ⟨_, rfl, rfl, rfl⟩
  · cases h
def F_law_no_place_k05 : FN
  | [.net _ s ds, .val (.int p)] => (unNet s ds).bind fun x => if p < 0 ∨ (x.1 : Int) ≤ p then some (.inl (.val (.bl true))) else none
  | _ => none
theorem F_noPlace05 {m : Md} {s : Nat} {ps : List P3} {p : Int} (h : okNet s ps) (hp : p < 0 ∨ (s : Int) ≤ p) : F_law_no_place_k05 [.net m (s : Int) (dPs ps), .val (.int p)] = some (.inl (.val (.bl true))) := by
  show (unNet _ _).bind _ = _
  rw [unNet_of h]
  exact ite_some hp
/-- _law_no_place: 0 net 1 place 2 refused -/
def t_law_no_place_k05 : VT := (seqT (asgV 2 (vC (.bl false))) (seqT (tryT (ctL [.place]) (seqT (exprX (xCall 2 F_needed (rS 0 (rV (vVar 1) rNil)))) skipT) (seqT (asgV 2 (vC (.bl true))) skipT)) (seqT (retV (vVar 2)) skipT)))
theorem v_law_no_place_k05 : ∀ ss r, ss.length = 2 → F_law_no_place_k05 ss = some r → t_law_no_place_k05 (postP r) (En0 ss 3) ∧ ∃ s, r = .inl s := by
  intro ss r hl h
  unfold F_law_no_place_k05 at h
  split at h
  · rename_i m s ds p
    obtain ⟨x, e1, h1⟩ := Option.bind_eq_some_iff.mp h
    clear h
    split at h1
    · rename_i hc
      have h2 := Option.some.inj h1
      clear h1
      subst h2
      obtain ⟨rfl, rfl, hn⟩ := unNet_some e1
      refine ⟨?_, _, rfl⟩
      refine ⟨_, rfl, ?_⟩
      refine ⟨.inr .place, xc rfl ⟨rfl, rfl⟩ rfl (F_needed_no hn hc), ?_⟩
      exact ⟨_, rfl, _, rfl, rfl⟩
    · cases h1
  · cases h
def F_law_needed : FN
  | [.val (.int s), .val (.lst ds), .val (.int v)] => (unNet s ds).bind fun x => if 0 ≤ v then some (.inl (.own .loc (dNs (lawNeeded x.1 x.2 v.toNat)))) else none
  | _ => none
theorem F_lawNeeded {s v : Nat} {ps : List P3} (h : okNet s ps) : F_law_needed [.val (.int (s : Int)), .val (.lst (dPs ps)), .val (.int (v : Int))] = some (.inl (.own .loc (dNs (lawNeeded s ps v)))) := by
  show (unNet _ _).bind _ = _
  rw [unNet_of h]
  exact ite_some (Int.natCast_nonneg v)
/-- _law_needed: 0 size 1 pipes 2 place 3 found 4 number 5 others 6 k -/
def t_law_needed : VT := (seqT (asgO 3 (oLst aNil)) (seqT (ifT (bV (v2 (fIn false) (vVar 2) (v1 slL (v1 inlO (xCall 2 F_law_reached (rV (vVar 0) (rV (vVar 1) rNil))))))) (seqT (forT (v1 dL (v1 slD (v1 inlO (xCall 1 F_law_open (rV (vVar 1) rNil))))) (gN 4) (seqT (asgV 5 (v1 slD (vLc [6] (v1 slL (v1 inlO (xCall 1 F_law_open (rV (vVar 1) rNil)))) (gN 6) (bV (v2 fNe (vVar 6) (vVar 4))) (vVar 6)))) (seqT (ifT (bV (v2 (fIn true) (vVar 2) (v1 slL (v1 inlO (xCall 2 F_law_wet (rV (vVar 0) (rV (v1 slD (vLc [6] (lVar 5) (gN 6) bT (vTup (aCons (v2 fIx (v2 fIx (vVar 1) (vVar 6)) (vC (.int 0))) (aCons (v2 fIx (v2 fIx (vVar 1) (vVar 6)) (vC (.int 1))) aNil))))) rNil))))))) (seqT (appT 3 (vVar 4)) skipT) skipT) skipT))) skipT) skipT) (seqT (retS 3) skipT)))
theorem v_law_needed : ∀ ss r, ss.length = 3 → F_law_needed ss = some r → t_law_needed (postP r) (En0 ss 7) ∧ ∃ s, r = .inl s := by
  intro ss r hl h
  unfold F_law_needed at h
  split at h
  · rename_i s ds v
    obtain ⟨x, e1, h1⟩ := Option.bind_eq_some_iff.mp h
    clear h
    split at h1
    · rename_i hc
      have h2 := Option.some.inj h1
      clear h1
      subst h2
      obtain ⟨rfl, rfl, hn⟩ := unNet_some e1
      obtain ⟨n, ps⟩ := x
      obtain ⟨v, rfl⟩ := Int.eq_ofNat_of_zero_le hc
      clear e1
      simp only at hn ⊢
      have hn1 := hn.2.1
      have hn2 := hn.2.2.2
      have hlo := lawOpen_len ps
      refine ⟨?_, _, rfl⟩
      rw [Int.toNat_natCast]
      refine ⟨_, rfl, ?_⟩
      refine if_d (p := v ∈ lawReached n ps) (bVe (inE rfl (v1e (v1e (xc rfl ⟨rfl, rfl⟩ rfl (F_reachedL (ps := ps) (by omega) (by omega))) rfl) rfl))) (fun c => ?_) (fun c => ?_)
      · refine ⟨dNs (lawOpen ps), v1e (v1e (v1e (xc rfl ⟨rfl, rfl⟩ rfl (F_open (by omega))) rfl) rfl) rfl, ?_⟩
        refine loopT_inv (enc := dInt) (fun rest Γ => ∃ (done : List Nat) (v4 v5 v6 : Option Sl), done ++ rest = lawOpen ps ∧
          Γ = [some (.val (.int (n : Int))), some (.val (.lst (dPs ps))), some (.val (dInt v)), some (.own .loc (dNs (done.filter fun k => decide (v ∉ lawWet n (edgesOf ps ((lawOpen ps).filter fun j => decide (j ≠ k))))))), v4, v5, v6]) ?_ ?_ _ _ ⟨[], none, none, none, rfl, rfl⟩
        · rintro o rest Γ k ⟨done, v4, v5, v6, hd, rfl⟩ hk
          refine ⟨_, rfl, ?_⟩
          have hdl : done.length ≤ 60 := by
            have := congrArg List.length hd
            rw [List.length_append] at this
            omega
          have hfl : ((lawOpen ps).filter fun j => decide (j ≠ o)).length ≤ 60 := Nat.le_trans (List.length_filter_le _ _) (by omega)
          refine ⟨.lst (dNs ((lawOpen ps).filter fun j => decide (j ≠ o))), v1e (vlc_filter (enc := dInt) (xs := lawOpen ps) (p := fun j => decide (j ≠ o)) (h := dInt) (v1e (v1e (xc rfl ⟨rfl, rfl⟩ rfl (F_open (by omega))) rfl) rfl) (by omega) (fun q _ => lcS rfl (bVe (v2e (x := dInt q) (y := dInt o) rfl rfl (by
            show some (D.bl (!decide ((q : Int) = (o : Int)))) = _
            by_cases c : q = o
            · subst c; simp
            · have : ¬ (q : Int) = (o : Int) := by omega
              simp [c, this]))) fun _ => rfl)) rfl, ?_⟩
          refine if_d (p := v ∉ lawWet n (edgesOf ps ((lawOpen ps).filter fun j => decide (j ≠ o)))) (bVe (notInE rfl (v1e (v1e (x := .inl (.own .loc (dNs (lawWet n (edgesOf ps ((lawOpen ps).filter fun j => decide (j ≠ o))))))) (xc (rVe rfl (rVe (v1e (vlc_map (enc := dInt) (xs := (lawOpen ps).filter fun j => decide (j ≠ o)) (h := fun k => dE ((pAt ps k).1, (pAt ps k).2.1)) rfl (by omega)
            fun k hk => lcS1 rfl rfl (edges_e rfl rfl (lawOpen_lt (List.mem_filter.mp hk).1).1)) rfl) rfl)) ⟨rfl, rfl⟩ rfl ?_) rfl) rfl))) (fun c => ?_) (fun c => ?_)
          · show F_law_wet [.val (.int (n : Int)), .val (.lst (((lawOpen ps).filter fun j => decide (j ≠ o)).map fun k => dE ((pAt ps k).1, (pAt ps k).2.1)))] = _
            have := F_wetL (s := n) (es := edgesOf ps ((lawOpen ps).filter fun j => decide (j ≠ o))) (by omega) (by unfold edgesOf; rw [List.length_map]; omega)
            unfold dEs edgesOf at this
            rw [List.map_map] at this
            exact this
          · refine ⟨(by intro z; cases z), dInt o, rfl, by unfold dNs; rw [List.length_map]; exact Nat.le_trans (List.length_filter_le _ _) (by omega), ?_⟩
            refine hk _ ⟨done ++ [o], some (.val (dInt o)), some (.val (.lst (dNs ((lawOpen ps).filter fun j => decide (j ≠ o))))), v6, by rw [← hd]; simp, ?_⟩
            rw [List.filter_append]
            rw [show ([o].filter fun k => decide (v ∉ lawWet n (edgesOf ps ((lawOpen ps).filter fun j => decide (j ≠ k))))) = [o] by rw [List.filter_cons, if_pos (decide_eq_true c)]; rfl]
            unfold dNs
            rw [List.map_append]
            rfl
          · refine hk _ ⟨done ++ [o], some (.val (dInt o)), some (.val (.lst (dNs ((lawOpen ps).filter fun j => decide (j ≠ o))))), v6, by rw [← hd]; simp, ?_⟩
            rw [List.filter_append]
            rw [show ([o].filter fun k => decide (v ∉ lawWet n (edgesOf ps ((lawOpen ps).filter fun j => decide (j ≠ k))))) = [] by rw [List.filter_cons, if_neg (by rw [decide_eq_false c]; simp)]; rfl]
            rw [List.append_nil]
            rfl
        · rintro Γ ⟨done, v4, v5, v6, hd, rfl⟩
          rw [List.append_nil] at hd
          subst hd
          refine ⟨_, rfl, rfl, ?_⟩
          show (Sum.inl (Sl.own .loc (dNs (lawNeeded n ps v))) : Rs) = _
          unfold lawNeeded
          rw [if_pos c]
      · refine ⟨_, rfl, rfl, ?_⟩
        show (Sum.inl (Sl.own .loc (dNs (lawNeeded n ps v))) : Rs) = _
        unfold lawNeeded
        rw [if_neg c]
        rfl
    · cases h1
  · cases h
end Z

set_option maxRecDepth 100000
namespace Z
open PySem PySem.Spec PyProof.Rows L2

/-! ### a pipe turned by hand -/
def turnAt (ps : List P3) (k : Nat) (o : Bool) : List P3 := ps.set k ((pAt ps k).1, (pAt ps k).2.1, o)
theorem turnAt_len {ps : List P3} {k : Nat} {o : Bool} : (turnAt ps k o).length = ps.length := by unfold turnAt; simp
theorem pAt_turn {ps : List P3} {k j : Nat} {o : Bool} (h : k < ps.length) : pAt (turnAt ps k o) j = if j = k then ((pAt ps k).1, (pAt ps k).2.1, o) else pAt ps j := by
  by_cases c : j = k
  · subst c
    rw [if_pos rfl]
    unfold pAt turnAt
    rw [List.getElem?_set_self h]
    rfl
  · rw [if_neg c]
    unfold turnAt
    conv => lhs; unfold pAt
    conv => rhs; unfold pAt
    rw [List.getElem?_set_ne (Ne.symm c)]
theorem pAt_turn1 {ps : List P3} {k j : Nat} {o : Bool} (h : k < ps.length) : (pAt (turnAt ps k o) j).1 = (pAt ps j).1 ∧ (pAt (turnAt ps k o) j).2.1 = (pAt ps j).2.1 := by
  rw [pAt_turn h]
  split
  · rename_i e
    subst e
    exact ⟨rfl, rfl⟩
  · exact ⟨rfl, rfl⟩
theorem turnAt_same {ps : List P3} {k : Nat} (h : k < ps.length) : turnAt ps k (pAt ps k).2.2 = ps := by
  unfold turnAt
  rw [show ((pAt ps k).1, (pAt ps k).2.1, (pAt ps k).2.2) = pAt ps k from rfl]
  refine List.ext_getElem? fun j => ?_
  by_cases c : k = j
  · subst c
    rw [List.getElem?_set_self h, pAt_some h]
  · rw [List.getElem?_set_ne c]
theorem turnAt_turnAt {ps : List P3} {k : Nat} {o p : Bool} (h : k < ps.length) : turnAt (turnAt ps k o) k p = turnAt ps k p := by
  show (turnAt ps k o).set k ((pAt (turnAt ps k o) k).1, (pAt (turnAt ps k o) k).2.1, p) = _
  rw [(pAt_turn1 h).1, (pAt_turn1 h).2]
  unfold turnAt
  rw [List.set_set]
theorem turnAt_ok {size k : Nat} {ps : List P3} {o : Bool} (hn : okNet size ps) (h : k < ps.length) : okNet size (turnAt ps k o) := by
  obtain ⟨h1, h2, h3, h4⟩ := hn
  have h3 := okPs_iff.mp h3
  refine ⟨h1, h2, okPs_iff.mpr fun p hp => ?_, by rw [turnAt_len]; exact h4⟩
  unfold turnAt at hp
  rcases List.mem_or_eq_of_mem_set hp with q | q
  · exact h3 p q
  · subst q
    have := h3 _ (pAt_mem h)
    exact this
theorem edgesOf_turn {ps : List P3} {k : Nat} {o : Bool} (h : k < ps.length) (ks : List Nat) : edgesOf (turnAt ps k o) ks = edgesOf ps ks := by
  unfold edgesOf
  refine List.map_congr_left fun j _ => ?_
  rw [(pAt_turn1 h).1, (pAt_turn1 h).2]
theorem lawOpen_shut {ps : List P3} {k : Nat} (h : k < ps.length) : lawOpen (turnAt ps k false) = (lawOpen ps).filter fun j => decide (j ≠ k) := by
  unfold lawOpen
  rw [turnAt_len, List.filter_filter]
  refine List.filter_congr fun j _ => ?_
  rw [pAt_turn h]
  by_cases c : j = k
  · simp [c]
  · simp [c]
theorem G_shutT {s : Nat} {ps : List P3} {k : Nat} (h : k < ps.length) : G_shut [.net .mut (s : Int) (dPs ps), .val (.int (k : Int))] = some (.inl (.val .non), [.net .mut (s : Int) (dPs (turnAt ps k false)), .val (.int (k : Int))]) := G_shutE (pAt_some h)
theorem G_reopenT {s : Nat} {ps : List P3} {k : Nat} (h : k < ps.length) : G_reopen [.net .mut (s : Int) (dPs ps), .val (.int (k : Int))] = some (.inl (.val .non), [.net .mut (s : Int) (dPs (turnAt ps k true)), .val (.int (k : Int))]) := G_reopenE (pAt_some h)
theorem fNe_ns (ns : List Nat) : fNe (.lst (dNs ns)) (.lst (dNs ns)) = some (.bl false) := fNe_refl (shaped_ns ns)
def F_law_k05 : FN
  | [.val (.scr _)] => some (.inl (.val (.bl true)))
  | _ => none
theorem F_law_k05_t (ns : List Int) (_ : ns.length ≤ 63) : F_law_k05 [.val (.scr ns)] = some (.inl (.val (.bl true))) := rfl
/-- law: 0 script 1 size 2 pipes 3 net 4 place 5 found 6 number 7 again -/
def t_law_k05 : VT := (seqT (asgV 1 (v1 slD (v1 inlO (xCall 2 F_law_size_of (rV (vVar 0) (rV (vC (.int 7)) rNil)))))) (seqT (asgO 2 (v1 inlO (xCall 4 F_law_pipes_by (rV (vVar 0) (rV (vC (.int 6)) (rV (v1 slD (v1 inlO (xCall 2 F_law_many_of (rV (vVar 0) (rV (vC (.int 12)) rNil))))) (rV (vVar 1) rNil))))))) (seqT (asgO 3 (v1 inlO (xCall 2 F_law_net_by (rV (vVar 1) (rS 2 rNil))))) (seqT (asgV 4 (v2 fMod (v1 slD (v1 inlO (xCall 2 F_law_cell_at (rV (vVar 0) (rV (vC (.int 2)) rNil))))) (vVar 1))) (seqT (asgV 5 (v1 slD (v1 inlO (xCall 2 F_needed (rS 3 (rV (vVar 4) rNil)))))) (seqT (ifT (bFrz (bOr (bNot (bV (v1 slD (v1 inlO (xCall 2 F_law_rising (rV (vVar 5) (rV (v1 fLenL (lVar 2)) rNil))))))) (bV (v2 fNe (vVar 5) (v1 slD (v1 inlO (xCall 3 F_law_needed (rV (vVar 1) (rV (vVar 2) (rV (vVar 4) rNil)))))))))) (seqT (retV (vC (.bl false))) skipT) skipT) (seqT (forT (v1 dL (vVar 5)) (gN 6) (seqT (nmT none 2 G_shut 3 (rV (vVar 6) rNil)) (seqT (ifT (bV (v2 (fIn false) (vVar 4) (v1 slL (v1 inlO (xCall 1 F_reached (rS 3 rNil)))))) (seqT (retV (vC (.bl false))) skipT) skipT) (seqT (nmT none 2 G_reopen 3 (rV (vVar 6) rNil)) skipT)))) (seqT (ifT (bFrz (bOr (bV (v2 fNe (v2 (fIn false) (vVar 4) (v1 slL (v1 inlO (xCall 1 F_reached (rS 3 rNil))))) (v2 (fIn false) (vVar 4) (v1 slL (v1 inlO (xCall 2 F_law_reached (rV (vVar 1) (rV (vVar 2) rNil)))))))) (bV (v2 fNe (v1 slD (v1 inlO (xCall 2 F_needed (rS 3 (rV (vVar 4) rNil))))) (vVar 5))))) (seqT (retV (vC (.bl false))) skipT) skipT) (seqT (cmT none 4 G_law_turn_one (rS 3 (rV (vVar 1) (rS 2 (rV (v1 slD (v1 inlO (xCall 2 F_law_cell_at (rV (vVar 0) (rV (vC (.int 4)) rNil))))) rNil))))) (seqT (asgV 7 (v1 slD (v1 inlO (xCall 2 F_needed (rS 3 (rV (vVar 4) rNil)))))) (seqT (ifT (bFrz (bOr (bNot (bV (v1 slD (v1 inlO (xCall 2 F_law_rising (rV (vVar 7) (rV (v1 fLenL (lVar 2)) rNil))))))) (bV (v2 fNe (vVar 7) (v1 slD (v1 inlO (xCall 3 F_law_needed (rV (vVar 1) (rV (vVar 2) (rV (vVar 4) rNil)))))))))) (seqT (retV (vC (.bl false))) skipT) skipT) (seqT (retV (vAnd (v1 slD (v1 inlO (xCall 2 F_law_no_place_k05 (rS 3 (rV (v1 fNeg (vC (.int 1))) rNil))))) (v1 slD (v1 inlO (xCall 2 F_law_no_place_k05 (rS 3 (rV (v2 fAdd (vVar 1) (v2 fMod (v1 slD (v1 inlO (xCall 2 F_law_cell_at (rV (vVar 0) (rV (vC (.int 3)) rNil))))) (vC (.int 9)))) rNil))))))) skipT))))))))))))
theorem needed_reach {n v k : Nat} {ps : List P3} (hn : okNet n ps) (hk : k ∈ lawNeeded n ps v) : k < ps.length ∧ (pAt ps k).2.2 = true ∧ v ∉ reachedOf n (turnAt ps k false) := by
  unfold lawNeeded at hk
  split at hk
  · rw [List.mem_filter] at hk
    obtain ⟨h1, h2⟩ := hk
    have hl := lawOpen_lt h1
    refine ⟨hl.1, hl.2, ?_⟩
    rw [reached_law (turnAt_ok hn hl.1)]
    unfold lawReached
    rw [edgesOf_turn hl.1, lawOpen_shut hl.1]
    exact of_decide_eq_true h2
  · cases hk
theorem v_law_k05 : ∀ ss r, ss.length = 1 → F_law_k05 ss = some r → t_law_k05 (postP r) (En0 ss 8) ∧ ∃ s, r = .inl s := by
  intro ss r hl h
  unfold F_law_k05 at h
  split at h
  · rename_i ns
    have h1 := Option.some.inj h
    clear h
    subst h1
    refine ⟨?_, _, rfl⟩
    have hs := sizeOf_le (ns := ns) (k := 7) (by omega) (by omega)
    have hm := manyOf_le (ns := ns) (k := 12) (by omega)
    have hn := netBy_start (ns := ns) (small := 7) (many := 12) (first := 6) (by omega) (by omega) (by omega)
    generalize hps : pipesBy ns 6 (manyOf ns 12) (sizeOf ns 7) = ps at hn
    refine ⟨_, v1e (v1e (xc rfl ⟨rfl, rfl⟩ rfl (F_sizeOf (k := 7) (by omega))) rfl) rfl, ?_⟩
    generalize sizeOf ns 7 = n at *
    refine ⟨.own .loc (dPs ps), v1e (xc (rVe rfl (rVe rfl (rVe (v1e (v1e (xc rfl ⟨rfl, rfl⟩ rfl (F_manyOf (k := 12))) rfl) rfl) (rVe rfl rfl)))) ⟨rfl, rfl⟩ rfl (F_pipesBy (f := 6) (m := manyOf ns 12) (s := n) (by omega) (by omega))) (by rw [hps]; rfl), ?_⟩
    refine ⟨.net .loc (n : Int) (dPs ps), v1e (xc rfl ⟨rfl, rfl⟩ rfl (F_netBy rfl hn)) rfl, ?_⟩
    have a1 : 0 ≤ cellAt ns 2 % (n : Int) := Int.emod_nonneg _ (by omega)
    have a2 : cellAt ns 2 % (n : Int) < n := Int.emod_lt_of_pos _ (by omega)
    obtain ⟨v, hv⟩ := Int.eq_ofNat_of_zero_le a1
    refine ⟨dInt v, v2e (v1e (v1e (xc rfl ⟨rfl, rfl⟩ rfl (F_cell (k := 2))) rfl) rfl) rfl (by rw [fMod_pos (i := cellAt ns 2) (j := (n : Int)) (by omega), hv]; rfl), ?_⟩
    have hvn : v < n := by omega
    have hpl := hn.2.2.2
    refine ⟨.lst (dNs (lawNeeded n ps v)), v1e (v1e (xc rfl ⟨rfl, rfl⟩ rfl (F_needed_yes hn hvn)) rfl) rfl, ?_⟩
    obtain ⟨b1, b2, b3⟩ := lawNeeded_lt (size := n) (v := v) (ps := ps)
    refine if_f (dec_f (p := (¬ True) ∨ False) (by simp) (bOr_d (bNot_d (bVe (v1e (v1e (xc (rVe rfl (rVe (lenPs rfl) rfl)) ⟨rfl, rfl⟩ rfl (F_rising b1 b2 (by omega))) rfl) rfl))) fun _ => bVe (v2e rfl (v1e (v1e (xc rfl ⟨rfl, rfl⟩ rfl (F_lawNeeded hn)) rfl) rfl) (fNe_ns _)))) ?_
    refine ⟨dNs (lawNeeded n ps v), rfl, ?_⟩
    refine loopT_inv (enc := dInt) (fun rest Γ => ∃ (v6 : Option Sl), (∀ k ∈ rest, k ∈ lawNeeded n ps v) ∧ Γ = [some (.val (.scr ns)), some (.val (.int (n : Int))), some (.own .loc (dPs ps)), some (.net .loc (n : Int) (dPs ps)), some (.val (dInt v)), some (.val (.lst (dNs (lawNeeded n ps v)))), v6, none]) ?_ ?_ _ _ ⟨none, fun _ h => h, rfl⟩
    · rintro k rest Γ kk ⟨v6, hr, rfl⟩ hk
      refine ⟨_, rfl, ?_⟩
      obtain ⟨k1, k2, k3⟩ := needed_reach hn (hr k (by simp))
      have hn' := turnAt_ok (o := false) hn k1
      refine ⟨rfl, _, _, _, _, rfl, ⟨rfl, rfl⟩, rfl, G_shutT k1, ?_⟩
      refine if_f (dec_f (p := v ∈ reachedOf n (turnAt ps k false)) k3 (bVe (inE rfl (v1e (v1e (xc rfl ⟨rfl, rfl⟩ rfl (F_reachedE hn')) rfl) rfl)))) ?_
      refine ⟨rfl, _, _, _, _, rfl, ⟨rfl, rfl⟩, rfl, G_reopenT (by rw [turnAt_len]; exact k1), ?_⟩
      have e : turnAt (turnAt ps k false) k true = ps := by
        rw [turnAt_turnAt k1, ← k2, turnAt_same k1]
      rw [e]
      exact hk _ ⟨some (.val (dInt k)), fun a ha => hr a (List.mem_cons_of_mem _ ha), rfl⟩
    · rintro Γ ⟨v6, _, rfl⟩
      refine if_f (dec_f (p := False ∨ False) (by simp) (bOr_d (bVe (v2e (inE rfl (v1e (v1e (xc rfl ⟨rfl, rfl⟩ rfl (F_reachedE hn)) rfl) rfl)) (inE rfl (v1e (v1e (xc rfl ⟨rfl, rfl⟩ rfl (F_reachedL (ps := ps) (by omega) (by omega))) rfl) rfl)) (by rw [← reached_law hn]; simp [fNe, fEq, notD]))) fun _ => bVe (v2e (v1e (v1e (xc rfl ⟨rfl, rfl⟩ rfl (F_needed_yes hn hvn)) rfl) rfl) rfl (fNe_ns _)))) ?_
      have hn' := turnOne_ok (c := cellAt ns 4) hn
      refine ⟨_, _, _, _, rfl, ⟨rfl, rfl⟩, rfl, G_turnOne (c := cellAt ns 4) hn, ?_⟩
      have hpl' := hn'.2.2.2
      obtain ⟨b1', b2', b3'⟩ := lawNeeded_lt (size := n) (v := v) (ps := turnOne n ps (cellAt ns 4))
      refine ⟨.lst (dNs (lawNeeded n (turnOne n ps (cellAt ns 4)) v)), v1e (v1e (xc rfl ⟨rfl, rfl⟩ rfl (F_needed_yes hn' hvn)) rfl) rfl, ?_⟩
      refine if_f (dec_f (p := (¬ True) ∨ False) (by simp) (bOr_d (bNot_d (bVe (v1e (v1e (xc (rVe rfl (rVe (lenPs rfl) rfl)) ⟨rfl, rfl⟩ rfl (F_rising b1' b2' (by omega))) rfl) rfl))) fun _ => bVe (v2e rfl (v1e (v1e (xc rfl ⟨rfl, rfl⟩ rfl (F_lawNeeded hn')) rfl) rfl) (fNe_ns _)))) ?_
      have c9 : 0 ≤ cellAt ns 3 % 9 := Int.emod_nonneg _ (by omega)
      refine ⟨.bl true, vAnd_t (v1e (v1e (xc rfl ⟨rfl, rfl⟩ rfl (F_noPlace05 hn' (by omega))) rfl) rfl) (v1e (v1e (xc (rSe rfl (rVe (v2e (z := .int ((n : Int) + cellAt ns 3 % 9)) rfl (v2e (v1e (v1e (xc rfl ⟨rfl, rfl⟩ rfl (F_cell (k := 3))) rfl) rfl) rfl (fMod_pos (i := cellAt ns 3) (j := 9) (by omega))) rfl) rfl)) ⟨rfl, rfl⟩ rfl (F_noPlace05 (p := (n : Int) + cellAt ns 3 % 9) hn' (by omega))) rfl) rfl), rfl⟩
  · cases h
end Z

set_option maxRecDepth 100000
namespace Z
open PySem PySem.Spec PyProof.Rows L2

/-! ### ways without a common pipe: plain mathematics -/
abbrev Stp := Option (Nat × Nat × Bool)
abbrev Stps := List Stp
def stAt (st : Stps) (v : Nat) : Stp := (st[v]?).getD none
theorem stAt_set {st : Stps} {v w : Nat} {x : Nat × Nat × Bool} (h : v < st.length) : stAt (st.set v (some x)) w = if w = v then some x else stAt st w := by
  unfold stAt
  by_cases e : w = v
  · subst e
    rw [List.getElem?_set_self h, if_pos rfl]
    rfl
  · rw [List.getElem?_set_ne (Ne.symm e), if_neg e]
structure EdOk (all : List O3) (size : Nat) : Prop where
  pos : 0 < size
  nd : (all.map (·.1)).Nodup
  lt : ∀ e ∈ all, e.2.1 < size ∧ e.2.2 < size
theorem EdOk.inj {all : List O3} {size : Nat} (E : EdOk all size) {a b : O3} (ha : a ∈ all) (hb : b ∈ all) (e : a.1 = b.1) : a = b := by
  have nd := E.nd
  clear E
  induction all with
  | nil => cases ha
  | cons x xs ih =>
    rw [List.map_cons, List.nodup_cons] at nd
    rcases List.mem_cons.mp ha with h1 | h1
    · rcases List.mem_cons.mp hb with h2 | h2
      · rw [h1, h2]
      · exact (nd.1 (List.mem_map.mpr ⟨b, h2, by rw [← e, h1]⟩)).elim
    · rcases List.mem_cons.mp hb with h2 | h2
      · exact (nd.1 (List.mem_map.mpr ⟨a, h1, by rw [e, h2]⟩)).elim
      · exact ih h1 h2 nd.2
abbrev Cst := Stps × List Nat
def cfStep1 (used : List Int) (here : Nat) (x : Cst) (e : O3) : Cst := if e.2.1 = here ∧ (e.1 : Int) ∉ used ∧ e.2.2 ≠ 0 ∧ stAt x.1 e.2.2 = none then (x.1.set e.2.2 (some (e.1, e.2.1, true)), x.2 ++ [e.2.2]) else x
def cfStep2 (used : List Int) (here : Nat) (x : Cst) (e : O3) : Cst := if e.2.2 = here ∧ (e.1 : Int) ∈ used ∧ e.2.1 ≠ 0 ∧ stAt x.1 e.2.1 = none then (x.1.set e.2.1 (some (e.1, e.2.2, false)), x.2 ++ [e.2.1]) else x
def cfStep (used : List Int) (here : Nat) (x : Cst) (e : O3) : Cst := cfStep2 used here (cfStep1 used here x e) e
def cfPass (used : List Int) (all : List O3) (here : Nat) (x : Cst) : Cst := all.foldl (cfStep used here) x
def cfGo (used : List Int) (all : List O3) : Nat → Nat → Cst → Cst
  | 0, _, x => x
  | f + 1, d, x => match x.2[d]? with
    | some h => cfGo used all f (d + 1) (cfPass used all h x)
    | none => x
def cf0 (size : Nat) : Cst := (List.replicate size none, [0])
def comeFrom (size : Nat) (all : List O3) (used : List Int) : Stps := (cfGo used all (size + 1) 0 (cf0 size)).1
structure COk (all : List O3) (used : List Int) (size : Nat) (x : Cst) : Prop where
  len : x.1.length = size
  nd : x.2.Nodup
  mem : ∀ v, v ∈ x.2 ↔ v = 0 ∨ (stAt x.1 v).isSome = true
  lt : ∀ v ∈ x.2, v < size
  st0 : stAt x.1 0 = none
  par : ∃ rk : Nat → Nat, ∀ v n u b, stAt x.1 v = some (n, u, b) → rk u < rk v ∧ u ∈ x.2 ∧ (b = true → (n, u, v) ∈ all ∧ (n : Int) ∉ used) ∧ (b = false → (n, v, u) ∈ all ∧ (n : Int) ∈ used)
theorem COk.add {all : List O3} {used : List Int} {size : Nat} {x : Cst} {v n u : Nat} {b : Bool} (C : COk all used size x) (v0 : v ≠ 0) (vs : v < size) (hv : stAt x.1 v = none) (hu : u ∈ x.2)
    (h1 : b = true → (n, u, v) ∈ all ∧ (n : Int) ∉ used) (h2 : b = false → (n, v, u) ∈ all ∧ (n : Int) ∈ used) : COk all used size (x.1.set v (some (n, u, b)), x.2 ++ [v]) := by
  have vl : v < x.1.length := by rw [C.len]; exact vs
  have nv : v ∉ x.2 := fun z => by
    rcases (C.mem v).mp z with q | q
    · exact v0 q
    · rw [hv] at q; cases q
  refine ⟨by simp [C.len], ?_, fun w => ?_, fun w hw => ?_, ?_, ?_⟩
  · rw [List.nodup_append]
    refine ⟨C.nd, by simp, fun a ha c hc => ?_⟩
    simp at hc
    subst hc
    intro z
    subst z
    exact nv ha
  · rw [List.mem_append, C.mem w]
    simp only [stAt_set vl, List.mem_singleton]
    by_cases c : w = v
    · subst c; simp
    · simp [c]
  · rcases List.mem_append.mp hw with q | q
    · exact C.lt w q
    · simp at q; subst q; exact vs
  · simp only [stAt_set vl]
    rw [if_neg (Ne.symm v0)]
    exact C.st0
  · obtain ⟨rk, hr⟩ := C.par
    refine ⟨fun w => if w = v then rk u + 1 else rk w, fun w m p c hw => ?_⟩
    simp only [stAt_set vl] at hw
    have uv : u ≠ v := fun z => nv (z ▸ hu)
    by_cases cw : w = v
    · subst cw
      rw [if_pos rfl] at hw
      cases hw
      refine ⟨by simp [uv], List.mem_append_left _ hu, h1, h2⟩
    · rw [if_neg cw] at hw
      obtain ⟨q1, q2, q3, q4⟩ := hr w m p c hw
      have pv : p ≠ v := fun z => nv (z ▸ q2)
      exact ⟨by simp [cw, pv, q1], List.mem_append_left _ q2, q3, q4⟩
theorem cfStep_ok {all : List O3} {used : List Int} {size here : Nat} {x : Cst} {e : O3} (E : EdOk all size) (C : COk all used size x) (he : e ∈ all) (hh : here ∈ x.2) : COk all used size (cfStep used here x e) ∧ here ∈ (cfStep used here x e).2 := by
  have h1 : COk all used size (cfStep1 used here x e) ∧ here ∈ (cfStep1 used here x e).2 := by
    unfold cfStep1
    split
    · rename_i c
      refine ⟨C.add c.2.2.1 (E.lt e he).2 c.2.2.2 (c.1 ▸ hh) (fun _ => ⟨he, c.2.1⟩) (fun z => (nomatch z)), List.mem_append_left _ hh⟩
    · exact ⟨C, hh⟩
  unfold cfStep
  generalize cfStep1 used here x e = y at *
  unfold cfStep2
  split
  · rename_i c
    exact ⟨h1.1.add c.2.2.1 (E.lt e he).1 c.2.2.2 (c.1 ▸ h1.2) (fun z => (nomatch z)) (fun _ => ⟨he, c.2.1⟩), List.mem_append_left _ h1.2⟩
  · exact h1
theorem cfStep_more {used : List Int} {here : Nat} {x : Cst} {e : O3} : ∃ more, (cfStep used here x e).2 = x.2 ++ more := by
  have h1 : ∃ more, (cfStep1 used here x e).2 = x.2 ++ more := by
    unfold cfStep1
    split
    · exact ⟨_, rfl⟩
    · exact ⟨[], by simp⟩
  unfold cfStep
  generalize cfStep1 used here x e = y at *
  obtain ⟨m, h1⟩ := h1
  unfold cfStep2
  split
  · exact ⟨m ++ [e.2.1], by simp only; rw [h1]; simp⟩
  · exact ⟨m, h1⟩
/-- nothing more can be come to from a place by a pipe -/
def Cl1 (used : List Int) (line : List Nat) (here : Nat) (e : O3) : Prop := (e.2.1 = here → (e.1 : Int) ∉ used → e.2.2 ∈ line) ∧ (e.2.2 = here → (e.1 : Int) ∈ used → e.2.1 ∈ line)
theorem Cl1.more {used : List Int} {line more : List Nat} {here : Nat} {e : O3} (h : Cl1 used line here e) : Cl1 used (line ++ more) here e := ⟨fun a b => List.mem_append_left _ (h.1 a b), fun a b => List.mem_append_left _ (h.2 a b)⟩
theorem cfStep_cl {all : List O3} {used : List Int} {size here : Nat} {x : Cst} {e : O3} (E : EdOk all size) (C : COk all used size x) (he : e ∈ all) (hh : here ∈ x.2) : Cl1 used (cfStep used here x e).2 here e := by
  have h1 : (e.2.1 = here → (e.1 : Int) ∉ used → e.2.2 ∈ (cfStep1 used here x e).2) := by
    intro a b
    unfold cfStep1
    split
    · exact List.mem_append_right _ (by simp)
    · rename_i c
      by_cases z : e.2.2 = 0
      · rw [z]; exact (C.mem 0).mpr (.inl rfl)
      · refine (C.mem _).mpr (.inr ?_)
        cases q : stAt x.1 e.2.2 with
        | none => exact absurd ⟨a, b, z, q⟩ c
        | some y => rfl
  have C1 : COk all used size (cfStep1 used here x e) := by
    unfold cfStep1
    split
    · rename_i c
      exact C.add c.2.2.1 (E.lt e he).2 c.2.2.2 (c.1 ▸ hh) (fun _ => ⟨he, c.2.1⟩) (fun z => (nomatch z))
    · exact C
  unfold cfStep
  generalize cfStep1 used here x e = y at *
  refine ⟨fun a b => ?_, fun a b => ?_⟩
  · have := h1 a b
    unfold cfStep2
    split
    · exact List.mem_append_left _ this
    · exact this
  · unfold cfStep2
    split
    · exact List.mem_append_right _ (by simp)
    · rename_i c
      by_cases z : e.2.1 = 0
      · rw [z]; exact (C1.mem 0).mpr (.inl rfl)
      · refine (C1.mem _).mpr (.inr ?_)
        cases q : stAt y.1 e.2.1 with
        | none => exact absurd ⟨a, b, z, q⟩ c
        | some y => rfl
theorem cfFold_ok {all : List O3} {used : List Int} {size here : Nat} (E : EdOk all size) : ∀ {es : List O3} {x : Cst}, (∀ e ∈ es, e ∈ all) → COk all used size x → here ∈ x.2 →
    COk all used size (es.foldl (cfStep used here) x) ∧ (∃ more, (es.foldl (cfStep used here) x).2 = x.2 ++ more) ∧ ∀ e ∈ es, Cl1 used (es.foldl (cfStep used here) x).2 here e
  | [], x, _, C, _ => ⟨C, ⟨[], by simp⟩, fun e h => (nomatch h)⟩
  | e :: es, x, he, C, hh => by
    obtain ⟨C1, hh1⟩ := cfStep_ok E C (he e (by simp)) hh
    obtain ⟨C2, ⟨m2, e2⟩, k2⟩ := cfFold_ok E (es := es) (fun a ha => he a (List.mem_cons_of_mem _ ha)) C1 hh1
    obtain ⟨m1, e1⟩ := cfStep_more (used := used) (here := here) (x := x) (e := e)
    refine ⟨C2, ⟨m1 ++ m2, by rw [List.foldl_cons, e2, e1]; simp⟩, fun a ha => ?_⟩
    rcases List.mem_cons.mp ha with rfl | ha
    · rw [List.foldl_cons, e2]
      exact (cfStep_cl E C (he a (by simp)) hh).more
    · exact k2 a ha
theorem cfGo_ok {all : List O3} {used : List Int} {size : Nat} (E : EdOk all size) : ∀ {f d : Nat} {x : Cst}, COk all used size x → d ≤ x.2.length → size + 1 ≤ f + d → (∀ i h, i < d → x.2[i]? = some h → ∀ e ∈ all, Cl1 used x.2 h e) →
    COk all used size (cfGo used all f d x) ∧ ∀ h ∈ (cfGo used all f d x).2, ∀ e ∈ all, Cl1 used (cfGo used all f d x).2 h e
  | 0, d, x, C, hd, hf, _ => by
    have := nodup_lt_len C.nd C.lt
    omega
  | f + 1, d, x, C, hd, hf, k => by
    unfold cfGo
    split
    · rename_i h hh
      have hm : h ∈ x.2 := List.mem_of_getElem? hh
      have dl := (List.getElem?_eq_some_iff.mp hh).1
      obtain ⟨C2, ⟨m2, e2⟩, k2⟩ := cfFold_ok (here := h) E (es := all) (fun _ q => q) C hm
      refine cfGo_ok E (f := f) (d := d + 1) C2 (by show d + 1 ≤ (cfPass used all h x).2.length; unfold cfPass; rw [e2]; simp; omega) (by omega) fun i w hi hw e he => ?_
      show Cl1 used (cfPass used all h x).2 w e
      unfold cfPass at hw ⊢
      by_cases c : i = d
      · subst c
        rw [e2, List.getElem?_append_left dl, hh] at hw
        cases hw
        exact k2 e he
      · rw [e2] at hw ⊢
        rw [List.getElem?_append_left (by omega)] at hw
        exact (k i w (by omega) hw e he).more
    · rename_i hh
      refine ⟨C, fun h hm e he => ?_⟩
      obtain ⟨i, hi, hi2⟩ := List.mem_iff_getElem.mp hm
      have : x.2.length ≤ d := List.getElem?_eq_none_iff.mp hh
      exact k i h (by omega) (by rw [← hi2]; exact List.getElem?_eq_getElem hi) e he
theorem cf0_ok {all : List O3} {used : List Int} {size : Nat} (E : EdOk all size) : COk all used size (cf0 size) := by
  have none_ : ∀ v, stAt (List.replicate size none) v = none := fun v => by
    unfold stAt
    rw [List.getElem?_replicate]
    split <;> rfl
  refine ⟨by simp [cf0], by simp [cf0], fun v => ?_, fun v hv => ?_, none_ 0, fun _ => 0, fun v n u b h => ?_⟩
  · show v ∈ [0] ↔ v = 0 ∨ (stAt (List.replicate size none) v).isSome = true
    rw [none_ v]
    simp
  · have : v = 0 := by simpa [cf0] using hv
    subst this
    exact E.pos
  · have h : stAt (List.replicate size none) v = _ := h
    rw [none_ v] at h
    cases h
/-- come to -/
def rc (st : Stps) (v : Nat) : Prop := v = 0 ∨ (stAt st v).isSome = true
instance (st : Stps) (v : Nat) : Decidable (rc st v) := by unfold rc; infer_instance
structure SOk (all : List O3) (used : List Int) (size : Nat) (st : Stps) : Prop where
  len : st.length = size
  lt : ∀ v, rc st v → v < size
  st0 : stAt st 0 = none
  par : ∃ rk : Nat → Nat, ∀ v n u b, stAt st v = some (n, u, b) → rk u < rk v ∧ rc st u ∧ (b = true → (n, u, v) ∈ all ∧ (n : Int) ∉ used) ∧ (b = false → (n, v, u) ∈ all ∧ (n : Int) ∈ used)
  fwd : ∀ e ∈ all, rc st e.2.1 → (e.1 : Int) ∉ used → rc st e.2.2
  bwd : ∀ e ∈ all, rc st e.2.2 → (e.1 : Int) ∈ used → rc st e.2.1
theorem comeFrom_ok {all : List O3} {used : List Int} {size : Nat} (E : EdOk all size) : SOk all used size (comeFrom size all used) := by
  obtain ⟨C, k⟩ := cfGo_ok (used := used) E (f := size + 1) (d := 0) (cf0_ok E) (Nat.zero_le _) (by omega) fun i h hi => by omega
  obtain ⟨rk, hr⟩ := C.par
  refine ⟨C.len, fun v hv => C.lt v ((C.mem v).mpr hv), C.st0, ⟨rk, fun v n u b h => ?_⟩, fun e he h1 h2 => ?_, fun e he h1 h2 => ?_⟩
  · obtain ⟨q1, q2, q3, q4⟩ := hr v n u b h
    exact ⟨q1, (C.mem u).mp q2, q3, q4⟩
  · exact (C.mem _).mp ((k _ ((C.mem _).mpr h1) e he).1 rfl h2)
  · exact (C.mem _).mp ((k _ ((C.mem _).mpr h1) e he).2 rfl h2)
end Z

set_option maxRecDepth 100000
namespace Z
open PySem PySem.Spec PyProof.Rows L2

/-! ### balances -/
def ind (p : Prop) [Decidable p] : Int := if p then 1 else 0
theorem ind_t {p : Prop} [Decidable p] (h : p) : ind p = 1 := if_pos h
theorem ind_f {p : Prop} [Decidable p] (h : ¬ p) : ind p = 0 := if_neg h
def sumI {α : Type} (f : α → Int) : List α → Int
  | [] => 0
  | x :: xs => f x + sumI f xs
theorem sumI_congr {α : Type} {f g : α → Int} : ∀ {xs : List α}, (∀ x ∈ xs, f x = g x) → sumI f xs = sumI g xs
  | [], _ => rfl
  | x :: xs, h => by
    show f x + sumI f xs = g x + sumI g xs
    rw [h x (by simp), sumI_congr fun y hy => h y (List.mem_cons_of_mem _ hy)]
theorem sumI_add {α : Type} (f g : α → Int) : ∀ xs : List α, sumI (fun x => f x + g x) xs = sumI f xs + sumI g xs
  | [] => rfl
  | x :: xs => by
    show f x + g x + sumI (fun x => f x + g x) xs = (f x + sumI f xs) + (g x + sumI g xs)
    rw [sumI_add f g xs]
    omega
theorem sumI_neg {α : Type} (f : α → Int) : ∀ xs : List α, sumI (fun x => - f x) xs = - sumI f xs
  | [] => rfl
  | x :: xs => by
    show - f x + sumI (fun x => - f x) xs = - (f x + sumI f xs)
    rw [sumI_neg f xs]
    omega
theorem sumI_zero {α : Type} : ∀ xs : List α, sumI (fun _ => (0 : Int)) xs = 0
  | [] => rfl
  | x :: xs => by
    show 0 + sumI (fun _ => (0 : Int)) xs = 0
    rw [sumI_zero xs]
    rfl
theorem sumI_le {α : Type} {f g : α → Int} : ∀ {xs : List α}, (∀ x ∈ xs, f x ≤ g x) → sumI f xs ≤ sumI g xs
  | [], _ => Int.le_refl _
  | x :: xs, h => by
    show f x + sumI f xs ≤ g x + sumI g xs
    have := h x (by simp)
    have := sumI_le (xs := xs) fun y hy => h y (List.mem_cons_of_mem _ hy)
    omega
/-- sums changed about -/
theorem sumI_swap {α β : Type} (f : α → β → Int) : ∀ (xs : List α) (ys : List β), sumI (fun x => sumI (f x) ys) xs = sumI (fun y => sumI (fun x => f x y) xs) ys
  | [], ys => by
    show 0 = sumI (fun y => 0) ys
    rw [sumI_zero]
  | x :: xs, ys => by
    show sumI (f x) ys + sumI (fun x => sumI (f x) ys) xs = sumI (fun y => f x y + sumI (fun x => f x y) xs) ys
    rw [sumI_swap f xs ys, sumI_add]
theorem sumI_ind {v : Nat} : ∀ {S : List Nat}, S.Nodup → sumI (fun w => ind (v = w)) S = ind (v ∈ S)
  | [], _ => rfl
  | w :: S, h => by
    have h' := List.nodup_cons.mp h
    show ind (v = w) + sumI (fun w => ind (v = w)) S = _
    rw [sumI_ind h'.2]
    by_cases c : v = w
    · subst c
      rw [ind_t rfl, ind_f h'.1, ind_t (by simp)]
      rfl
    · rw [ind_f c]
      by_cases d : v ∈ S
      · rw [ind_t d, ind_t (by simp [d])]
        rfl
      · rw [ind_f d, ind_f (by simp [c, d])]
        rfl
theorem sumI_count {α : Type} (p : α → Bool) : ∀ xs : List α, sumI (fun x => ind (p x = true)) xs = ((xs.filter p).length : Int)
  | [] => rfl
  | x :: xs => by
    show ind (p x = true) + sumI _ xs = _
    rw [sumI_count p xs, List.filter_cons]
    by_cases c : p x = true
    · rw [ind_t c, if_pos c]
      simp
      omega
    · rw [ind_f c, if_neg c]
      omega
/-- one item changed -/
theorem sumI_one {all : List O3} {e0 : O3} {f g : O3 → Int} {δ : Int} : (all.map (·.1)).Nodup → e0 ∈ all → (∀ e ∈ all, e.1 ≠ e0.1 → g e = f e) → g e0 = f e0 + δ → sumI g all = sumI f all + δ := by
  induction all with
  | nil => intro _ h; cases h
  | cons x xs ih =>
    intro nd h0 hf hg
    rw [List.map_cons, List.nodup_cons] at nd
    show g x + sumI g xs = f x + sumI f xs + δ
    rcases List.mem_cons.mp h0 with h1 | h1
    · have : sumI g xs = sumI f xs := sumI_congr fun y hy => hf y (List.mem_cons_of_mem _ hy) fun z => nd.1 (List.mem_map.mpr ⟨y, hy, by rw [z, h1]⟩)
      rw [this, ← h1, hg]
      omega
    · have := ih nd.2 h1 (fun e he => hf e (List.mem_cons_of_mem _ he)) hg
      rw [this, hf x (by simp) fun z => nd.1 (List.mem_map.mpr ⟨e0, h1, z.symm⟩)]
      omega
def flo (used : List Int) (v : Nat) (e : O3) : Int := if (e.1 : Int) ∈ used then ind (e.2.1 = v) - ind (e.2.2 = v) else 0
def bal (all : List O3) (used : List Int) (v : Nat) : Int := sumI (flo used v) all
theorem bal_put {all : List O3} {used used' : List Int} {size n s g : Nat} (E : EdOk all size) (h : (n, s, g) ∈ all) (h0 : (n : Int) ∉ used) (h1 : (n : Int) ∈ used') (hm : ∀ m : Int, m ≠ n → (m ∈ used' ↔ m ∈ used)) (v : Nat) :
    bal all used' v = bal all used v + (ind (s = v) - ind (g = v)) := by
  refine sumI_one E.nd h (fun e he hne => ?_) ?_
  · unfold flo
    have : (e.1 : Int) ≠ (n : Int) := fun z => hne (by simp only at z ⊢; omega)
    by_cases c : (e.1 : Int) ∈ used
    · rw [if_pos c, if_pos ((hm _ this).mpr c)]
    · rw [if_neg c, if_neg fun z => c ((hm _ this).mp z)]
  · unfold flo
    simp only
    rw [if_pos h1, if_neg h0]
    omega
def delI (used : List Int) (n : Int) : List Int := used.filter fun x => decide (x ≠ n)
theorem mem_delI {used : List Int} {n m : Int} : m ∈ delI used n ↔ m ∈ used ∧ m ≠ n := by
  unfold delI
  rw [List.mem_filter]
  simp
def tog (used : List Int) (x : Nat × Bool) : List Int := if x.2 = true then putI used x.1 else delI used x.1
theorem mem_putI {used : List Int} {n m : Int} : m ∈ putI used n ↔ m ∈ used ∨ m = n := by
  unfold putI
  split
  · rename_i h
    exact ⟨.inl, fun q => q.elim id fun e => e ▸ h⟩
  · simp
theorem mem_tog_ne {used : List Int} {x : Nat × Bool} {m : Int} (h : m ≠ x.1) : m ∈ tog used x ↔ m ∈ used := by
  unfold tog
  split
  · rw [mem_putI]
    exact ⟨fun q => q.elim id fun e => absurd e h, .inl⟩
  · rw [mem_delI]
    exact ⟨And.left, fun q => ⟨q, h⟩⟩
/-- the keys of a dict of pipes -/
structure UOk (all : List O3) (used : List Int) : Prop where
  nd : used.Nodup
  sub : ∀ k ∈ used, ∃ e ∈ all, (e.1 : Int) = k
theorem UOk.len {all : List O3} {used : List Int} (U : UOk all used) : used.length ≤ all.length := by
  have := U.nd.length_le_of_subset (l₂ := all.map fun e => (e.1 : Int)) fun k hk => by
    obtain ⟨e, h1, h2⟩ := U.sub k hk
    exact List.mem_map.mpr ⟨e, h1, h2⟩
  simpa using this
theorem putI_nd {used : List Int} {n : Int} (h : used.Nodup) : (putI used n).Nodup := by
  unfold putI
  split
  · exact h
  · rename_i c
    rw [List.nodup_append]
    refine ⟨h, by simp, fun a ha b hb => ?_⟩
    simp at hb
    subst hb
    intro z
    subst z
    exact c ha
theorem delI_nd {used : List Int} {n : Int} (h : used.Nodup) : (delI used n).Nodup := List.Pairwise.filter _ h
theorem UOk.tog {all : List O3} {used : List Int} {x : Nat × Bool} (U : UOk all used) (h : ∃ e ∈ all, e.1 = x.1) : UOk all (tog used x) := by
  unfold Z.tog
  split
  · refine ⟨putI_nd U.nd, fun k hk => ?_⟩
    rcases mem_putI.mp hk with q | q
    · exact U.sub k q
    · obtain ⟨e, h1, h2⟩ := h
      exact ⟨e, h1, by rw [q, h2]⟩
  · exact ⟨delI_nd U.nd, fun k hk => U.sub k (mem_delI.mp hk).1⟩
inductive Pth (st : Stps) : Nat → List (Nat × Bool) → Prop
  | zero : Pth st 0 []
  | step {v n u : Nat} {b : Bool} {l : List (Nat × Bool)} : v ≠ 0 → v < st.length → stAt st v = some (n, u, b) → Pth st u l → Pth st v ((n, b) :: l)
theorem Pth.det {st : Stps} {v : Nat} {l : List (Nat × Bool)} (h : Pth st v l) : ∀ {l'}, Pth st v l' → l = l' := by
  induction h with
  | zero =>
    intro l' h'
    cases h' with
    | zero => rfl
    | step h0 => exact absurd rfl h0
  | step h0 h1 h2 h3 ih =>
    intro l' h'
    cases h' with
    | zero => exact absurd rfl h0
    | step g0 g1 g2 g3 =>
      rw [h2] at g2
      cases g2
      rw [ih g3]
def togs (l : List (Nat × Bool)) (used : List Int) : List Int := l.foldl tog used
/-- it may be done: what is put in is not there, what is taken out is -/
def May (l : List (Nat × Bool)) (used : List Int) : Prop := (l.map (·.1)).Nodup ∧ ∀ x ∈ l, (x.2 = true → (x.1 : Int) ∉ used) ∧ (x.2 = false → (x.1 : Int) ∈ used)
theorem May.tail {l : List (Nat × Bool)} {x : Nat × Bool} {used : List Int} (h : May (x :: l) used) : May l (tog used x) := by
  obtain ⟨nd, k⟩ := h
  rw [List.map_cons, List.nodup_cons] at nd
  refine ⟨nd.2, fun y hy => ?_⟩
  have ne : (y.1 : Int) ≠ x.1 := fun z => nd.1 (List.mem_map.mpr ⟨y, hy, by omega⟩)
  rw [mem_tog_ne ne]
  exact k y (List.mem_cons_of_mem _ hy)
theorem path_ok {all : List O3} {used : List Int} {size : Nat} {st : Stps} (E : EdOk all size) (S : SOk all used size st) {v : Nat} (hv : rc st v) :
    ∃ l, Pth st v l ∧ May l used ∧ (∀ x ∈ l, ∃ e ∈ all, e.1 = x.1) ∧ ∀ used0, May l used0 → ∀ w, bal all (togs l used0) w = bal all used0 w + (ind (0 = w) - ind (v = w)) := by
  obtain ⟨rk, hr⟩ := S.par
  have key : ∀ (n v : Nat), rk v < n → rc st v → ∃ l, Pth st v l ∧ May l used ∧ (∀ x ∈ l, ∃ w u, stAt st w = some (x.1, u, x.2) ∧ rk w ≤ rk v) ∧ ∀ used0, May l used0 → ∀ w, bal all (togs l used0) w = bal all used0 w + (ind (0 = w) - ind (v = w)) := by
    intro n
    induction n with
    | zero => intro v h; omega
    | succ n ih =>
      intro v h hv
      by_cases v0 : v = 0
      · subst v0
        exact ⟨[], .zero, ⟨.nil, fun x hx => (nomatch hx)⟩, fun x hx => (nomatch hx), fun used0 _ w => by show bal all used0 w = _; omega⟩
      · rcases hv with z | hs
        · exact absurd z v0
        obtain ⟨⟨m, u, b⟩, hx⟩ := Option.isSome_iff_exists.mp hs
        obtain ⟨r1, r2, r3, r4⟩ := hr v m u b hx
        obtain ⟨l, p, my, nod, q⟩ := ih u (by omega) r2
        have vl : v < st.length := by rw [S.len]; exact S.lt v (.inr hs)
        have fresh : m ∉ l.map (·.1) := fun z => by
          obtain ⟨⟨m', b'⟩, hy, e⟩ := List.mem_map.mp z
          simp only at e
          subst e
          obtain ⟨w, u', hw, hwr⟩ := nod _ hy
          simp only at hw
          obtain ⟨_, _, s3, s4⟩ := hr w _ u' b' hw
          have : w = v := by
            cases b with
            | true =>
              cases b' with
              | true =>
                have := E.inj (r3 rfl).1 (s3 rfl).1 rfl
                cases this
                rfl
              | false => exact absurd (s4 rfl).2 (r3 rfl).2
            | false =>
              cases b' with
              | true => exact absurd (r4 rfl).2 (s3 rfl).2
              | false =>
                have := E.inj (r4 rfl).1 (s4 rfl).1 rfl
                cases this
                rfl
          subst this
          omega
        refine ⟨(m, b) :: l, .step v0 vl hx p, ⟨?_, fun x hx' => ?_⟩, fun x hx' => ?_, fun used0 hm w => ?_⟩
        · rw [List.map_cons, List.nodup_cons]
          exact ⟨fresh, my.1⟩
        · rcases List.mem_cons.mp hx' with rfl | hx'
          · exact ⟨fun e => (r3 e).2, fun e => (r4 e).2⟩
          · exact my.2 x hx'
        · rcases List.mem_cons.mp hx' with rfl | hx'
          · exact ⟨v, u, hx, Nat.le_refl _⟩
          · obtain ⟨w, u', z1, z2⟩ := nod x hx'
            exact ⟨w, u', z1, by omega⟩
        · show bal all (togs l (tog used0 (m, b))) w = _
          rw [q _ hm.tail w]
          have st0 := hm.2 (m, b) (by simp)
          have : bal all (tog used0 (m, b)) w = bal all used0 w + (ind (u = w) - ind (v = w)) := by
            cases b with
            | true => exact bal_put E (r3 rfl).1 (st0.1 rfl) (mem_putI.mpr (.inr rfl)) (fun k hk => mem_tog_ne (x := (m, true)) hk) w
            | false =>
              have := bal_put (used := tog used0 (m, false)) (used' := used0) E (r4 rfl).1 (fun z => (mem_delI.mp z).2 rfl) (st0.2 rfl) (fun k hk => (mem_tog_ne (x := (m, false)) hk).symm) w
              omega
          rw [this]
          omega
  obtain ⟨l, h1, h2, h3, h4⟩ := key (rk v + 1) v (by omega) hv
  refine ⟨l, h1, h2, fun x hx => ?_, h4⟩
  obtain ⟨w, u, z, _⟩ := h3 x hx
  obtain ⟨_, _, s3, s4⟩ := hr w _ u _ z
  cases hb : x.2 with
  | true => exact ⟨_, (s3 hb).1, rfl⟩
  | false => exact ⟨_, (s4 hb).1, rfl⟩
theorem UOk.togs {all : List O3} : ∀ {l : List (Nat × Bool)} {used : List Int}, UOk all used → (∀ x ∈ l, ∃ e ∈ all, e.1 = x.1) → UOk all (togs l used)
  | [], _, U, _ => U
  | x :: l, used, U, h => (U.tog (h x (by simp))).togs fun y hy => h y (List.mem_cons_of_mem _ hy)
/-- so many ways' worth of pipes in use -/
def FOk (all : List O3) (used : List Int) (place : Nat) (r : Nat) : Prop := ∀ w, bal all used w = (r : Int) * (ind (0 = w) - ind (place = w))
theorem bal_nil (all : List O3) (w : Nat) : bal all [] w = 0 := by
  unfold bal
  rw [sumI_congr (f := flo [] w) (g := fun _ => 0) fun e _ => by unfold flo; rw [if_neg (by simp)]]
  exact sumI_zero all
theorem FOk.zero {all : List O3} {place : Nat} : FOk all [] place 0 := fun w => by rw [bal_nil]; simp
theorem FOk.more {all : List O3} {used used' : List Int} {place r : Nat} (F : FOk all used place r) (h : ∀ w, bal all used' w = bal all used w + (ind (0 = w) - ind (place = w))) : FOk all used' place (r + 1) := fun w => by
  rw [h w, F w]
  push_cast
  rw [Int.add_mul, Int.one_mul]

/-! ### narrow sets -/
/-- how many pipes enter a set -/
def cut (all : List O3) (S : List Nat) : Nat := (all.filter fun e => decide (e.2.1 ∉ S ∧ e.2.2 ∈ S)).length
theorem bal_sum {all : List O3} {used : List Int} {S : List Nat} (nd : S.Nodup) : sumI (bal all used) S = sumI (fun e => if (e.1 : Int) ∈ used then ind (e.2.1 ∈ S) - ind (e.2.2 ∈ S) else 0) all := by
  show sumI (fun w => sumI (flo used w) all) S = _
  rw [sumI_swap (fun w e => flo used w e) S all]
  refine sumI_congr fun e _ => ?_
  show sumI (fun w => flo used w e) S = _
  unfold flo
  split
  · have : sumI (fun w => ind (e.2.1 = w) - ind (e.2.2 = w)) S = sumI (fun w => ind (e.2.1 = w) + - ind (e.2.2 = w)) S := sumI_congr fun w _ => by omega
    rw [this, sumI_add, sumI_neg, sumI_ind nd, sumI_ind nd]
    omega
  · exact sumI_zero S
theorem FOk.sum {all : List O3} {used : List Int} {place r : Nat} (F : FOk all used place r) {S : List Nat} (nd : S.Nodup) (h0 : 0 ∉ S) (hp : place ∈ S) : sumI (bal all used) S = - (r : Int) := by
  have : sumI (bal all used) S = sumI (fun w => (r : Int) * ind (0 = w) + - ((r : Int) * ind (place = w))) S := sumI_congr fun w _ => by rw [F w, Int.mul_sub]; omega
  have mul : ∀ v, sumI (fun w => (r : Int) * ind (v = w)) S = (r : Int) * sumI (fun w => ind (v = w)) S := fun v => by
    clear nd h0 hp this
    induction S with
    | nil => show (0 : Int) = _; simp [sumI]
    | cons x S ih =>
      show (r : Int) * ind (v = x) + sumI _ S = (r : Int) * (ind (v = x) + sumI _ S)
      rw [ih, Int.mul_add]
  rw [this, sumI_add, sumI_neg, mul, mul, sumI_ind nd, sumI_ind nd, ind_f h0, ind_t hp]
  omega
theorem cut_sum (all : List O3) (S : List Nat) : (cut all S : Int) = sumI (fun e => ind (e.2.1 ∉ S ∧ e.2.2 ∈ S)) all := by
  unfold cut
  rw [← sumI_count]
  exact sumI_congr fun e _ => by unfold ind; simp
/-- no set is too narrow -/
theorem FOk.le_cut {all : List O3} {used : List Int} {place r : Nat} (F : FOk all used place r) {S : List Nat} (nd : S.Nodup) (h0 : 0 ∉ S) (hp : place ∈ S) : r ≤ cut all S := by
  have h1 := F.sum nd h0 hp
  rw [bal_sum nd] at h1
  have h2 : sumI (fun e => - ind (e.2.1 ∉ S ∧ e.2.2 ∈ S)) all ≤ sumI (fun (e : O3) => if (e.1 : Int) ∈ used then ind (e.2.1 ∈ S) - ind (e.2.2 ∈ S) else 0) all := sumI_le fun e _ => by
    unfold ind
    split <;> (repeat' split) <;> simp_all
  rw [sumI_neg, ← cut_sum] at h2
  omega
/-- the places not come to are as narrow as may be -/
theorem FOk.cut_eq {all : List O3} {used : List Int} {size place r : Nat} {st : Stps} (F : FOk all used place r) (S : SOk all used size st) {T : List Nat} (nd : T.Nodup) (hT : ∀ e ∈ all, (e.2.1 ∈ T ↔ ¬ rc st e.2.1) ∧ (e.2.2 ∈ T ↔ ¬ rc st e.2.2)) (h0 : 0 ∉ T) (hp : place ∈ T) : r = cut all T := by
  have h1 := F.sum nd h0 hp
  rw [bal_sum nd] at h1
  have h2 : sumI (fun e => - ind (e.2.1 ∉ T ∧ e.2.2 ∈ T)) all = sumI (fun (e : O3) => if (e.1 : Int) ∈ used then ind (e.2.1 ∈ T) - ind (e.2.2 ∈ T) else 0) all := sumI_congr fun e he => by
    have f := S.fwd e he
    have b := S.bwd e he
    obtain ⟨t1, t2⟩ := hT e he
    by_cases c1 : (e.1 : Int) ∈ used
    · rw [if_pos c1]
      by_cases c2 : rc st e.2.2
      · have := b c2 c1
        rw [ind_f (fun z => (t2.mp z.2) c2), ind_f (fun z => (t1.mp z) this), ind_f (fun z => (t2.mp z) c2)]
        rfl
      · by_cases c3 : rc st e.2.1
        · rw [ind_t ⟨fun z => t1.mp z c3, t2.mpr c2⟩, ind_f (fun z => (t1.mp z) c3), ind_t (t2.mpr c2)]
          rfl
        · rw [ind_f (fun z => z.1 (t1.mpr c3)), ind_t (t1.mpr c3), ind_t (t2.mpr c2)]
          rfl
    · rw [if_neg c1, ind_f]
      · rfl
      · intro z
        have c2 : rc st e.2.1 := Decidable.not_not.mp fun q => z.1 (t1.mpr q)
        exact t2.mp z.2 (f c2 c1)
  rw [sumI_neg, ← cut_sum] at h2
  omega
end Z

set_option maxRecDepth 100000
namespace Z
open PySem PySem.Spec PyProof.Rows L2

/-! ### one way more, again and again -/
open Classical in
noncomputable def oneMore (st : Stps) (used : List Int) (v : Nat) : List Int := if h : ∃ l, Pth st v l then togs (Classical.choose h) used else used
theorem oneMore_eq {st : Stps} {used : List Int} {v : Nat} {l : List (Nat × Bool)} (h : Pth st v l) : oneMore st used v = togs l used := by
  have hh : ∃ l, Pth st v l := ⟨l, h⟩
  unfold oneMore
  rw [dif_pos hh, (Classical.choose_spec hh).det h]
noncomputable def spSt (size : Nat) (all : List O3) (place : Nat) : Nat → List Int
  | 0 => []
  | k + 1 => oneMore (comeFrom size all (spSt size all place k)) (spSt size all place k) place
noncomputable def spSteps (size : Nat) (all : List O3) (place k : Nat) : Stps := comeFrom size all (spSt size all place k)
def blk (st : Stps) (place : Nat) : Prop := stAt st place = none
instance (st : Stps) (place : Nat) : Decidable (blk st place) := by unfold blk; infer_instance
noncomputable def spGo (size : Nat) (all : List O3) (place : Nat) : Nat → Nat → Nat
  | 0, g => g
  | l + 1, g => if blk (spSteps size all place g) place then g else spGo size all place l (g + 1)
noncomputable def spR (size : Nat) (all : List O3) (place many : Nat) : Nat := spGo size all place many 0
theorem spGo_spec {size : Nat} {all : List O3} {place : Nat} : ∀ (l g : Nat), g ≤ spGo size all place l g ∧ spGo size all place l g ≤ g + l ∧ (∀ i, g ≤ i → i < spGo size all place l g → ¬ blk (spSteps size all place i) place) ∧ (spGo size all place l g < g + l → blk (spSteps size all place (spGo size all place l g)) place)
  | 0, g => ⟨Nat.le_refl _, Nat.le_refl _, fun i h1 h2 => by have : i < g := h2; omega, fun h => by have : g < g + 0 := h; omega⟩
  | l + 1, g => by
    unfold spGo
    split
    · rename_i h
      exact ⟨Nat.le_refl _, by omega, fun i h1 h2 => by omega, fun _ => h⟩
    · rename_i h
      obtain ⟨q1, q2, q3, q4⟩ := spGo_spec (size := size) (all := all) (place := place) l (g + 1)
      refine ⟨by omega, by omega, fun i h1 h2 => ?_, fun z => q4 (by omega)⟩
      by_cases c : i = g
      · subst c; exact h
      · exact q3 i (by omega) h2
theorem spR_spec {size : Nat} {all : List O3} {place many : Nat} : spR size all place many ≤ many ∧ (∀ i, i < spR size all place many → ¬ blk (spSteps size all place i) place) ∧ (spR size all place many < many → blk (spSteps size all place (spR size all place many)) place) := by
  obtain ⟨q1, q2, q3, q4⟩ := spGo_spec (size := size) (all := all) (place := place) many 0
  exact ⟨by unfold spR; omega, fun i hi => q3 i (Nat.zero_le _) hi, fun h => q4 (by unfold spR at h; omega)⟩
/-- what holds of the pipes in use -/
structure SpOk (all : List O3) (place r : Nat) (used : List Int) : Prop where
  f : FOk all used place r
  u : UOk all used
theorem spSt_ok {size : Nat} {all : List O3} {place : Nat} (E : EdOk all size) : ∀ (k : Nat), (∀ i, i < k → ¬ blk (spSteps size all place i) place) → SpOk all place k (spSt size all place k)
  | 0, _ => ⟨FOk.zero, ⟨.nil, fun k hk => (nomatch hk)⟩⟩
  | k + 1, h => by
    obtain ⟨F, U⟩ := spSt_ok (place := place) E k fun i hi => h i (by omega)
    have nb := h k (by omega)
    have S := comeFrom_ok (used := spSt size all place k) E
    have hv : rc (comeFrom size all (spSt size all place k)) place := .inr (by
      unfold blk spSteps at nb
      cases q : stAt (comeFrom size all (spSt size all place k)) place with
      | none => exact absurd q nb
      | some x => rfl)
    obtain ⟨l, p1, p2, p3, p4⟩ := path_ok E S hv
    show SpOk all place (k + 1) (oneMore (comeFrom size all (spSt size all place k)) (spSt size all place k) place)
    rw [oneMore_eq p1]
    exact ⟨F.more (p4 _ p2), U.togs p3⟩
/-- the places that no step comes to -/
def byd (size : Nat) (st : Stps) : List Nat := (List.range' 1 (size - 1)).filter fun v => (stAt st v).isNone
theorem mem_byd {size v : Nat} {st : Stps} : v ∈ byd size st ↔ v ≠ 0 ∧ v < size ∧ stAt st v = none := by
  unfold byd
  rw [List.mem_filter, List.mem_range'_1]
  simp only [Option.isNone_iff_eq_none]
  exact ⟨fun h => ⟨by omega, by omega, h.2⟩, fun h => ⟨by omega, h.2.2⟩⟩
theorem byd_nd {size : Nat} {st : Stps} : (byd size st).Pairwise (· < ·) := List.Pairwise.filter _ (List.pairwise_lt_range' (pos := by decide))
theorem byd_not_rc {size v : Nat} {st : Stps} (hv : v < size) : v ∈ byd size st ↔ ¬ rc st v := by
  rw [mem_byd]
  unfold rc
  constructor
  · rintro ⟨h1, _, h3⟩ (z | z)
    · exact h1 z
    · rw [h3] at z; cases z
  · intro h
    refine ⟨fun z => h (.inl z), hv, ?_⟩
    cases q : stAt st v with
    | none => rfl
    | some x => exact absurd (.inr (by rw [q]; rfl)) h
structure GoodSet (size : Nat) (S : List Nat) : Prop where
  nd : S.Pairwise (· < ·)
  lt : ∀ v ∈ S, v < size
  no0 : 0 ∉ S
theorem GoodSet.nodup {size : Nat} {S : List Nat} (h : GoodSet size S) : S.Nodup := h.nd.imp fun q => Nat.ne_of_lt q
theorem byd_good {size : Nat} {st : Stps} : GoodSet size (byd size st) := ⟨byd_nd, fun v hv => (mem_byd.mp hv).2.1, fun z => (mem_byd.mp z).1 rfl⟩
/-- the count of ways: a set as narrow -/
theorem spread_cut {size : Nat} {all : List O3} {place r : Nat} (E : EdOk all size) (h0 : place ≠ 0) (hp : place < size) (hr : ∀ i, i < r → ¬ blk (spSteps size all place i) place) (hb : blk (spSteps size all place r) place) :
    place ∈ byd size (spSteps size all place r) ∧ cut all (byd size (spSteps size all place r)) = r := by
  have h1 := spSt_ok E r hr
  have S := comeFrom_ok (used := spSt size all place r) E
  have hm : place ∈ byd size (spSteps size all place r) := mem_byd.mpr ⟨h0, hp, hb⟩
  refine ⟨hm, (h1.f.cut_eq S (byd_good.nodup) (fun e he => ?_) byd_good.no0 hm).symm⟩
  exact ⟨byd_not_rc (E.lt e he).1, byd_not_rc (E.lt e he).2⟩
theorem spread_le {size : Nat} {all : List O3} {place r : Nat} (E : EdOk all size) (hr : ∀ i, i < r → ¬ blk (spSteps size all place i) place) {S : List Nat} (G : GoodSet size S) (hS : place ∈ S) : r ≤ cut all S :=
  (spSt_ok E r hr).f.le_cut G.nodup G.no0 hS
theorem cut_le {all : List O3} {S : List Nat} : cut all S ≤ all.length := List.length_filter_le _ _
/-- all pipes: never so many ways -/
theorem spread_len {size : Nat} {all : List O3} {place r : Nat} (E : EdOk all size) (h0 : place ≠ 0) (hp : place < size) (hr : ∀ i, i < r → ¬ blk (spSteps size all place i) place) : r ≤ all.length := by
  have G : GoodSet size [place] := ⟨by simp, fun v hv => by simp at hv; omega, by simp; omega⟩
  exact Nat.le_trans (spread_le E hr G (by simp)) cut_le
/-- the number of ways is as many as asked just where no set is too narrow -/
theorem spR_iff {size : Nat} {all : List O3} {place many : Nat} (E : EdOk all size) (h0 : place ≠ 0) (hp : place < size) : spR size all place many = many ↔ ∀ S, GoodSet size S → place ∈ S → many ≤ cut all S := by
  obtain ⟨q1, q2, q3⟩ := spR_spec (size := size) (all := all) (place := place) (many := many)
  constructor
  · intro e S G hS
    have := spread_le E q2 G hS
    omega
  · intro h
    refine Decidable.byContradiction fun c => ?_
    have hlt : spR size all place many < many := by omega
    obtain ⟨m1, m2⟩ := spread_cut E h0 hp q2 (q3 hlt)
    have := h _ byd_good m1
    omega
/-- the greatest number of ways -/
noncomputable def wid (size : Nat) (all : List O3) (place : Nat) : Nat := spR size all place (all.length + 1)
theorem wid_blk {size : Nat} {all : List O3} {place : Nat} (E : EdOk all size) (h0 : place ≠ 0) (hp : place < size) : blk (spSteps size all place (wid size all place)) place ∧ ∀ i, i < wid size all place → ¬ blk (spSteps size all place i) place := by
  obtain ⟨q1, q2, q3⟩ := spR_spec (size := size) (all := all) (place := place) (many := all.length + 1)
  have := spread_len E h0 hp q2
  exact ⟨q3 (by omega), q2⟩
theorem wid_cut {size : Nat} {all : List O3} {place : Nat} (E : EdOk all size) (h0 : place ≠ 0) (hp : place < size) : place ∈ byd size (spSteps size all place (wid size all place)) ∧ cut all (byd size (spSteps size all place (wid size all place))) = wid size all place :=
  spread_cut E h0 hp (wid_blk E h0 hp).2 (wid_blk E h0 hp).1
theorem wid_le {size : Nat} {all : List O3} {place : Nat} (E : EdOk all size) (h0 : place ≠ 0) (hp : place < size) {S : List Nat} (G : GoodSet size S) (hS : place ∈ S) : wid size all place ≤ cut all S := spread_le E (wid_blk E h0 hp).2 G hS
theorem spR_min {size : Nat} {all : List O3} {place many : Nat} (E : EdOk all size) (h0 : place ≠ 0) (hp : place < size) : spR size all place many = min many (wid size all place) := by
  obtain ⟨q1, q2, q3⟩ := spR_spec (size := size) (all := all) (place := place) (many := many)
  obtain ⟨b1, b2⟩ := wid_blk E h0 hp
  by_cases c : spR size all place many < many
  · have hb := q3 c
    have h1 : ¬ spR size all place many < wid size all place := fun z => b2 _ z hb
    have h2 : ¬ wid size all place < spR size all place many := fun z => q2 _ z b1
    omega
  · have h2 : ¬ wid size all place < spR size all place many := fun z => q2 _ z b1
    omega

/-! ### the ways themselves -/
def nextP (all : List O3) (left : List Int) (here : Nat) : Option O3 := all.find? fun e => decide (e.2.1 = here ∧ (e.1 : Int) ∈ left)
inductive Wk (all : List O3) (place : Nat) : List Int → Nat → List Nat → List Int → Prop
  | done {left : List Int} : Wk all place left place [] left
  | step {left left' : List Int} {here : Nat} {e : O3} {row : List Nat} : here ≠ place → nextP all left here = some e → Wk all place (delI left e.1) e.2.2 row left' → Wk all place left here (e.1 :: row) left'
theorem Wk.det {all : List O3} {place : Nat} {left : List Int} {here : Nat} {row : List Nat} {left' : List Int} (h : Wk all place left here row left') : ∀ {row2 left2}, Wk all place left here row2 left2 → row = row2 ∧ left' = left2 := by
  induction h with
  | done =>
    intro r2 l2 h2
    cases h2 with
    | done => exact ⟨rfl, rfl⟩
    | step h0 => exact absurd rfl h0
  | step h0 h1 h2 ih =>
    intro r2 l2 k
    cases k with
    | done => exact absurd rfl h0
    | step g0 g1 g2 =>
      rw [h1] at g1
      cases g1
      obtain ⟨a, b⟩ := ih g2
      exact ⟨by rw [a], b⟩
inductive Wks (all : List O3) (place : Nat) : Nat → List Int → List (List Nat) → Prop
  | nil {left : List Int} : Wks all place 0 left []
  | cons {n : Nat} {left left' : List Int} {row : List Nat} {rows : List (List Nat)} : Wk all place left 0 row left' → Wks all place n left' rows → Wks all place (n + 1) left (row :: rows)
theorem Wks.det {all : List O3} {place n : Nat} {left : List Int} {rows : List (List Nat)} (h : Wks all place n left rows) : ∀ {rows2}, Wks all place n left rows2 → rows = rows2 := by
  induction h with
  | nil => intro r2 h2; cases h2; rfl
  | cons h1 h2 ih =>
    intro r2 k
    cases k with
    | cons g1 g2 =>
      obtain ⟨a, b⟩ := h1.det g1
      subst a
      subst b
      rw [ih g2]
theorem pos_out {used : List Int} {v : Nat} : ∀ {all : List O3}, 0 < bal all used v → ∃ e ∈ all, e.2.1 = v ∧ (e.1 : Int) ∈ used
  | [], h => by have : (0 : Int) < 0 := h; omega
  | e :: all, h => by
    by_cases c : e.2.1 = v ∧ (e.1 : Int) ∈ used
    · exact ⟨e, by simp, c⟩
    · have h' : 0 < flo used v e + bal all used v := h
      have : flo used v e ≤ 0 := by
        unfold flo
        split
        · rename_i hu
          rw [ind_f (fun z => c ⟨z, hu⟩)]
          unfold ind
          split <;> omega
        · exact Int.le_refl _
      obtain ⟨x, h1, h2⟩ := pos_out (used := used) (v := v) (all := all) (by omega)
      exact ⟨x, List.mem_cons_of_mem _ h1, h2⟩
theorem nextP_some {all : List O3} {left : List Int} {here : Nat} (h : ∃ e ∈ all, e.2.1 = here ∧ (e.1 : Int) ∈ left) : ∃ e, nextP all left here = some e ∧ e ∈ all ∧ e.2.1 = here ∧ (e.1 : Int) ∈ left := by
  obtain ⟨e, h1, h2⟩ := h
  have : (nextP all left here).isSome = true := by
    unfold nextP
    rw [List.find?_isSome]
    exact ⟨e, h1, decide_eq_true h2⟩
  obtain ⟨x, hx⟩ := Option.isSome_iff_exists.mp this
  refine ⟨x, hx, List.mem_of_find?_eq_some hx, ?_⟩
  have := List.find?_some hx
  exact of_decide_eq_true this
theorem bal_del {all : List O3} {left : List Int} {size : Nat} {e : O3} (E : EdOk all size) (he : e ∈ all) (h : (e.1 : Int) ∈ left) (v : Nat) : bal all (delI left e.1) v = bal all left v - (ind (e.2.1 = v) - ind (e.2.2 = v)) := by
  have := bal_put (n := e.1) (s := e.2.1) (g := e.2.2) (used := delI left e.1) (used' := left) E he (fun z => (mem_delI.mp z).2 rfl) h (fun m hm => ⟨fun z => mem_delI.mpr ⟨z, hm⟩, fun z => (mem_delI.mp z).1⟩) v
  omega
theorem delI_len {left : List Int} {n : Int} (h : n ∈ left) : (delI left n).length < left.length := by
  unfold delI
  rw [List.length_filter_lt_length_iff_exists]
  exact ⟨n, h, by simp⟩
/-- a row of pipes, end to end -/
def lnk (all : List O3) : Nat → List Nat → Nat → Prop
  | u, [], v => u = v
  | u, k :: ks, v => ∃ e ∈ all, e.1 = k ∧ e.2.1 = u ∧ lnk all e.2.2 ks v
/-- what a walk tells -/
structure RowOk (all : List O3) (place : Nat) (left : List Int) (here : Nat) (row : List Nat) (left' : List Int) : Prop where
  wk : Wk all place left here row left'
  ln : lnk all here row place
  nd : row.Nodup
  inl : ∀ k ∈ row, (k : Int) ∈ left ∧ (k : Int) ∉ left'
  sub : ∀ k ∈ left', k ∈ left
theorem walk_ok {all : List O3} {size place r : Nat} (E : EdOk all size) : ∀ (n : Nat) (left : List Int) (here : Nat), left.length < n → (∀ w, bal all left w = (r : Int) * (ind (0 = w) - ind (place = w)) + (ind (here = w) - ind (place = w))) →
    ∃ row left', RowOk all place left here row left' ∧ FOk all left' place r
  | 0, left, here, h, _ => by omega
  | n + 1, left, here, h, hb => by
    by_cases c : here = place
    · subst c
      refine ⟨[], left, ⟨.done, rfl, .nil, fun k hk => (nomatch hk), fun k hk => hk⟩, fun w => ?_⟩
      rw [hb w]
      omega
    · have hpos : 0 < bal all left here := by
        rw [hb here, ind_t rfl, ind_f (show ¬ place = here from fun z => c z.symm)]
        unfold ind
        split <;> simp <;> omega
      obtain ⟨e, q1, q2, q3, q4⟩ := nextP_some (pos_out hpos)
      have hlen := delI_len q4
      obtain ⟨row, left', w, F⟩ := walk_ok (place := place) (r := r) E n (delI left e.1) e.2.2 (by omega) fun v => by
        rw [bal_del E q2 q4, hb v, q3]
        omega
      refine ⟨e.1 :: row, left', ⟨.step c q1 w.wk, ⟨e, q2, rfl, q3, w.ln⟩, ?_, fun k hk => ?_, fun k hk => (mem_delI.mp (w.sub k hk)).1⟩, F⟩
      · rw [List.nodup_cons]
        exact ⟨fun z => (mem_delI.mp (w.inl _ z).1).2 rfl, w.nd⟩
      · rcases List.mem_cons.mp hk with rfl | hk
        · exact ⟨q4, fun z => (mem_delI.mp (w.sub _ z)).2 rfl⟩
        · exact ⟨(mem_delI.mp (w.inl k hk).1).1, (w.inl k hk).2⟩
structure WksOk (all : List O3) (place : Nat) (left : List Int) (rows : List (List Nat)) : Prop where
  ln : ∀ row ∈ rows, lnk all 0 row place ∧ row.Nodup
  nd : rows.flatten.Nodup
  inl : ∀ k ∈ rows.flatten, (k : Int) ∈ left
theorem walks_ok {all : List O3} {size place : Nat} (E : EdOk all size) : ∀ (m : Nat) {r : Nat} {left : List Int}, m ≤ r → FOk all left place r → ∃ rows, Wks all place m left rows ∧ WksOk all place left rows ∧ rows.length = m
  | 0, r, left, _, _ => ⟨[], .nil, ⟨fun row h => (nomatch h), .nil, fun k h => (nomatch h)⟩, rfl⟩
  | m + 1, r, left, h, F => by
    obtain ⟨r, rfl⟩ : ∃ q, r = q + 1 := ⟨r - 1, by omega⟩
    obtain ⟨row, left', w, F'⟩ := walk_ok (place := place) (r := r) E (left.length + 1) left 0 (by omega) fun v => by
      rw [F v]
      push_cast
      rw [Int.add_mul, Int.one_mul]
    obtain ⟨rows, w1, w2, w3⟩ := walks_ok E m (r := r) (by omega) F'
    refine ⟨row :: rows, .cons w.wk w1, ⟨fun x hx => ?_, ?_, fun k hk => ?_⟩, by simp [w3]⟩
    · rcases List.mem_cons.mp hx with rfl | hx
      · exact ⟨w.ln, w.nd⟩
      · exact w2.ln x hx
    · rw [List.flatten_cons, List.nodup_append]
      refine ⟨w.nd, w2.nd, fun a ha b hb => ?_⟩
      intro z
      subst z
      exact (w.inl a ha).2 (w2.inl a hb)
    · rw [List.flatten_cons] at hk
      rcases List.mem_append.mp hk with q | q
      · exact (w.inl k q).1
      · exact w.sub k (w2.inl k q)
open Classical in
noncomputable def walkedOf (all : List O3) (place m : Nat) (left : List Int) : List (List Nat) := if h : ∃ rows, Wks all place m left rows then Classical.choose h else []
theorem walkedOf_ok {all : List O3} {size place m r : Nat} {left : List Int} (E : EdOk all size) (h : m ≤ r) (F : FOk all left place r) : Wks all place m left (walkedOf all place m left) ∧ WksOk all place left (walkedOf all place m left) ∧ (walkedOf all place m left).length = m := by
  obtain ⟨rows, w1, w2, w3⟩ := walks_ok E m h F
  have hh : ∃ rows, Wks all place m left rows := ⟨rows, w1⟩
  unfold walkedOf
  rw [dif_pos hh]
  have := (Classical.choose_spec hh).det w1
  rw [this]
  exact ⟨w1, w2, w3⟩
end Z

set_option maxRecDepth 100000
namespace Z
open PySem PySem.Spec PyProof.Rows L2

theorem if_to {t : VB} {T U : VT} {Q : Out → Prop} {Γ Γ' : En} {p : Prop} [Decidable p] (e : t Γ = some (decide p)) (h1 : p → ∀ Q : Out → Prop, Q (.nx Γ') → T Q Γ) (h2 : ¬ p → ∀ Q : Out → Prop, Q (.nx Γ') → U Q Γ) (hq : Q (.nx Γ')) : ifT t T U Q Γ :=
  if_d e (fun c => h1 c Q hq) fun c => h2 c Q hq
theorem fEq_nat (a b : Nat) : fEq (dInt a) (dInt b) = some (.bl (decide (a = b))) := by
  show some (D.bl (decide ((a : Int) = (b : Int)))) = _
  by_cases c : a = b
  · subst c; simp
  · have : ¬ (a : Int) = (b : Int) := by omega
    simp [c, this]
theorem eqE {Γ : En} {f h : VF} {a b : Nat} (h1 : f Γ = some (dInt a)) (h2 : h Γ = some (dInt b)) : v2 fEq f h Γ = some (.bl (decide (a = b))) := v2e h1 h2 (fEq_nat a b)
theorem neE {Γ : En} {f h : VF} {a b : Nat} (h1 : f Γ = some (dInt a)) (h2 : h Γ = some (dInt b)) : v2 fNe f h Γ = some (.bl (decide (a ≠ b))) := v2e h1 h2 (by unfold fNe; rw [fEq_nat]; show some (D.bl (!decide (a = b))) = _; simp)
theorem inME {Γ : En} {f : VF} {h : En → Option (List Int)} {n : Nat} {ks : List Int} (h1 : f Γ = some (dInt n)) (h2 : h Γ = some ks) : v2 (fInM false) f h Γ = some (.bl (decide ((n : Int) ∈ ks))) := v2e h1 h2 rfl
theorem notInME {Γ : En} {f : VF} {h : En → Option (List Int)} {n : Nat} {ks : List Int} (h1 : f Γ = some (dInt n)) (h2 : h Γ = some ks) : v2 (fInM true) f h Γ = some (.bl (decide ((n : Int) ∉ ks))) := v2e h1 h2 (by show some (D.bl (!decide ((n : Int) ∈ ks))) = _; simp)

/-! ### steps -/
def dSt : Stp → D
  | none => .non
  | some x => dP x
def dSts (st : Stps) : List D := st.map dSt
theorem dSts_len (st : Stps) : (dSts st).length = st.length := List.length_map ..
theorem dSts_set (st : Stps) (g : Nat) (x : Nat × Nat × Bool) : dSts (st.set g (some x)) = (dSts st).set g (dP x) := by
  unfold dSts
  rw [List.map_set]
  rfl
theorem dNs_snoc (l : List Nat) (g : Nat) : dNs (l ++ [g]) = dNs l ++ [dInt g] := by
  unfold dNs
  rw [List.map_append]
  rfl
theorem dNs_len (l : List Nat) : (dNs l).length = l.length := List.length_map ..
instance : Cd Stp where
  enc := dSt
  dec := fun d => match d with
    | .non => some none
    | d => (unP d).map some
  de := fun x => by
    cases x with
    | none => rfl
    | some x =>
      show (unP (dP x)).map some = _
      rw [show unP (dP x) = some x from Cd.de (α := P3) x]
      rfl
  ed := fun d x h => by
    split at h
    · cases h; rfl
    · obtain ⟨y, h1, h2⟩ := Option.map_eq_some_iff.mp h
      subst h2
      exact Cd.ed (α := P3) _ _ h1
theorem decs_dSts (st : Stps) : decs (dSts st) = some st := decs_enc st
theorem dSts_some {ds : List D} {st : Stps} (h : decs ds = some st) : ds = dSts st := decs_some h
theorem stAt_some {st : Stps} {v : Nat} (h : v < st.length) : st[v]? = some (stAt st v) := by unfold stAt; simp [h]
theorem atI_st {st : Stps} {v : Nat} (h : v < st.length) : atI (dSts st) (v : Int) = some (dSt (stAt st v)) := by
  refine atI_nat ?_
  unfold dSts
  rw [List.getElem?_map, stAt_some h]
  rfl
theorem isNon_dSt (x : Stp) : isNon (dSt x) = decide (x = none) := by cases x <;> rfl
theorem stNE {Γ : En} {f : VF} {x : Stp} (h : f Γ = some (dSt x)) : v2 fIsN f (vC .non) Γ = some (.bl (decide (x = none))) := v2e h rfl (by show some (D.bl (isNon (dSt x))) = _; rw [isNon_dSt])
theorem stSE {Γ : En} {f : VF} {x : Stp} (h : f Γ = some (dSt x)) : v2 fNotN f (vC .non) Γ = some (.bl (decide (x ≠ none))) := v2e h rfl (by show some (D.bl (!isNon (dSt x))) = _; rw [isNon_dSt]; simp)
open Classical in
noncomputable def F_come_from : FN
  | [.val (.int s), .val (.lst ds), .val (.dic ks)] => (decs ds : Option (List O3)).bind fun all => if 0 ≤ s ∧ s ≤ 1000 ∧ EdOk all s.toNat then some (.inl (.own .loc (dSts (comeFrom s.toNat all ks)))) else none
  | _ => none
theorem F_comeFrom {s : Nat} {all : List O3} {ks : List Int} (h : s ≤ 1000) (E : EdOk all s) : F_come_from [.val (.int (s : Int)), .val (.lst (dOs all)), .val (.dic ks)] = some (.inl (.own .loc (dSts (comeFrom s all ks)))) := by
  show (decs (dOs all)).bind _ = _
  rw [decs_dOs, Option.bind_some]
  exact ite_some ⟨Int.natCast_nonneg s, by omega, E⟩
/-- come_from: 0 size 1 pipes 2 used 3 steps 4 line 5 done 6 here 7 number 8 start 9 goal 10 place -/
def t_come_from : VT := (seqT (asgO 3 (vLc [10] (lRng1 (vVar 0)) (gN 10) bT (vC .non))) (seqT (asgO 4 (oLst (aCons (vC (.int 0)) aNil))) (seqT (asgV 5 (vC (.int 0))) (seqT (whileT (bV (v2 fLt (vVar 5) (v1 fLenL (lVar 4)))) (seqT (asgV 6 (v2 fIxL (lVar 4) (vVar 5))) (seqT (asgV 5 (v2 fAdd (vVar 5) (vC (.int 1)))) (seqT (forT (v1 dL (vVar 1)) (gT [7, 8, 9]) (seqT (ifT (bAnd (bV (v2 fEq (vVar 8) (vVar 6))) (bAnd (bV (v2 (fInM true) (vVar 7) (mVar 2))) (bAnd (bV (v2 fNe (vVar 9) (vC (.int 0)))) (bV (v2 fIsN (v2 fIxL (lVar 3) (vVar 9)) (vC .non)))))) (seqT (setT 3 (vVar 9) (vTup (aCons (vVar 7) (aCons (vVar 8) (aCons (vC (.bl true)) aNil))))) (seqT (appT 4 (vVar 9)) skipT)) skipT) (seqT (ifT (bAnd (bV (v2 fEq (vVar 9) (vVar 6))) (bAnd (bV (v2 (fInM false) (vVar 7) (mVar 2))) (bAnd (bV (v2 fNe (vVar 8) (vC (.int 0)))) (bV (v2 fIsN (v2 fIxL (lVar 3) (vVar 8)) (vC .non)))))) (seqT (setT 3 (vVar 8) (vTup (aCons (vVar 7) (aCons (vVar 9) (aCons (vC (.bl false)) aNil))))) (seqT (appT 4 (vVar 8)) skipT)) skipT) skipT))) skipT)))) (seqT (retS 3) skipT)))))
abbrev cfE (n : Nat) (all : List O3) (used : List Int) (x : Cst) (tl : List (Option Sl)) : En := some (.val (.int (n : Int))) :: some (.val (.lst (dOs all))) :: some (.val (.dic used)) :: some (.own .loc (dSts x.1)) :: some (.own .loc (dNs x.2)) :: tl
theorem v_come_from : ∀ ss r, ss.length = 3 → F_come_from ss = some r → t_come_from (postP r) (En0 ss 11) ∧ ∃ s, r = .inl s := by
  intro ss r hl h
  unfold F_come_from at h
  split at h
  · rename_i s ds ks
    obtain ⟨all, e1, h'⟩ := Option.bind_eq_some_iff.mp h
    clear h
    split at h'
    · rename_i hs
      have h'' := Option.some.inj h'
      clear h'
      subst h''
      cases dOs_some e1
      obtain ⟨s, rfl⟩ := Int.eq_ofNat_of_zero_le hs.1
      obtain ⟨_, h2, E⟩ := hs
      simp only [Int.toNat_natCast] at E ⊢
      refine ⟨?_, _, rfl⟩
      refine ⟨_, vlc_map (h := fun (_ : Nat) => D.non) (rng1e (i := (s : Int)) rfl (by omega)) (by simp; omega) (fun k hk => lcS1 rfl rfl rfl), ?_⟩
      refine ⟨_, rfl, ?_⟩
      refine ⟨_, rfl, ?_⟩
      refine ⟨fun m Γ => ∃ (x : Cst) (d : Nat) (v6 v7 v8 v9 v10 : Option Sl), COk all ks s x ∧ d ≤ x.2.length ∧ s + 1 ≤ m + d ∧ (cfGo ks all m d x).1 = comeFrom s all ks ∧
        Γ = cfE s all ks x [some (.val (dInt d)), v6, v7, v8, v9, v10], ⟨s + 1, cf0 s, 0, none, none, none, none, none, cf0_ok E, Nat.zero_le _, by omega, rfl, ?_⟩, ?_⟩
      · have e0 : ((List.range ((s : Int)).toNat).map fun (_ : Nat) => D.non) = dSts (cf0 s).1 := by
          rw [Int.toNat_natCast]
          unfold cf0 dSts
          simp only
          rw [List.map_replicate, List.map_const', List.length_range]
          rfl
        rw [e0]
        rfl
      rintro m Γ ⟨x, d, v6, v7, v8, v9, v10, C, hd, hm, q, rfl⟩
      refine ⟨decide ((d : Int) < (x.2.length : Int)), ?_, fun hb => ?_, fun hb => ?_⟩
      · exact bVe (v2e rfl (v1e (x := dNs x.2) (y := .int (x.2.length : Int)) rfl (by simp [fLenL, dNs])) rfl)
      · have hdl : d < x.2.length := by have := of_decide_eq_true hb; omega
        have hls := nodup_lt_len C.nd C.lt
        obtain ⟨h, hh⟩ : ∃ h, x.2[d]? = some h := ⟨_, List.getElem?_eq_getElem hdl⟩
        have hmem := List.mem_of_getElem? hh
        cases m with
        | zero => omega
        | succ m =>
          have q' : (cfGo ks all m (d + 1) (cfPass ks all h x)).1 = comeFrom s all ks := by
            rw [← q]
            conv => rhs; unfold cfGo
            rw [hh]
          refine ⟨dInt h, v2e (x := dNs x.2) (y := dInt d) rfl rfl (atI_nat (by unfold dNs; rw [List.getElem?_map, hh]; rfl)), ?_⟩
          refine ⟨dInt (d + 1), rfl, ?_⟩
          refine ⟨dOs all, rfl, ?_⟩
          refine loopT_inv (enc := dO3) (fun rest Γ => ∃ (y : Cst) (v7 v8 v9 : Option Sl), COk all ks s y ∧ h ∈ y.2 ∧ (∀ e ∈ rest, e ∈ all) ∧ rest.foldl (cfStep ks h) y = cfPass ks all h x ∧
            Γ = cfE s all ks y [some (.val (dInt (d + 1))), some (.val (dInt h)), v7, v8, v9, v10]) ?_ ?_ all _ ⟨x, v7, v8, v9, C, hmem, fun _ h => h, rfl, rfl⟩
          · rintro ⟨k, a, g⟩ rest Γ kk ⟨y, v7, v8, v9, Cy, hy, hr, qy, rfl⟩ hk
            refine ⟨_, rfl, ?_⟩
            have he := hr (k, a, g) (by simp)
            have hag : a < s ∧ g < s := E.lt (k, a, g) he
            obtain ⟨C2, hy2⟩ := cfStep_ok E Cy he hy
            have hls := nodup_lt_len Cy.nd Cy.lt
            have C1 : COk all ks s (cfStep1 ks h y (k, a, g)) := by
              unfold cfStep1
              split
              · rename_i c
                exact Cy.add c.2.2.1 hag.2 c.2.2.2 (c.1 ▸ hy) (fun _ => ⟨he, c.2.1⟩) (fun z => (nomatch z))
              · exact Cy
            have hl1 := nodup_lt_len C1.nd C1.lt
            refine if_to (Γ' := cfE s all ks (cfStep1 ks h y (k, a, g)) [some (.val (dInt (d + 1))), some (.val (dInt h)), some (.val (dInt k)), some (.val (dInt a)), some (.val (dInt g)), v10]) (p := a = h ∧ (k : Int) ∉ ks ∧ g ≠ 0 ∧ stAt y.1 g = none)
              (bAnd_d (bVe (eqE rfl rfl)) fun _ => bAnd_d (bVe (notInME rfl rfl)) fun _ => bAnd_d (bVe (neE (b := 0) rfl rfl)) fun _ => bVe (stNE (v2e rfl rfl (atI_st (v := g) (by rw [Cy.len]; exact hag.2))))) (fun c Q hq => ?_) (fun c Q hq => ?_) ?_
            · refine ⟨(by intro z; cases z), dP (k, a, true), (g : Int), g, rfl, rfl, ixN_nat (by rw [dSts_len, Cy.len]; exact hag.2), ?_⟩
              refine ⟨(by intro z; cases z), dInt g, rfl, by simp [dNs]; omega, ?_⟩
              have e : cfStep1 ks h y (k, a, g) = (y.1.set g (some (k, a, true)), y.2 ++ [g]) := by unfold cfStep1; rw [if_pos c]
              rw [e] at hq
              unfold cfE at hq
              simp only [dSts_set, dNs_snoc] at hq
              exact hq
            · have e : cfStep1 ks h y (k, a, g) = y := by unfold cfStep1; rw [if_neg c]
              rw [e] at hq
              exact hq
            · have qy' : rest.foldl (cfStep ks h) (cfStep2 ks h (cfStep1 ks h y (k, a, g)) (k, a, g)) = cfPass ks all h x := qy
              have C2' : COk all ks s (cfStep2 ks h (cfStep1 ks h y (k, a, g)) (k, a, g)) ∧ h ∈ (cfStep2 ks h (cfStep1 ks h y (k, a, g)) (k, a, g)).2 := ⟨C2, hy2⟩
              generalize cfStep1 ks h y (k, a, g) = z at *
              refine if_to (Γ' := cfE s all ks (cfStep2 ks h z (k, a, g)) [some (.val (dInt (d + 1))), some (.val (dInt h)), some (.val (dInt k)), some (.val (dInt a)), some (.val (dInt g)), v10]) (p := g = h ∧ (k : Int) ∈ ks ∧ a ≠ 0 ∧ stAt z.1 a = none)
                (bAnd_d (bVe (eqE rfl rfl)) fun _ => bAnd_d (bVe (inME rfl rfl)) fun _ => bAnd_d (bVe (neE (b := 0) rfl rfl)) fun _ => bVe (stNE (v2e rfl rfl (atI_st (v := a) (by rw [C1.len]; exact hag.1))))) (fun c Q hq => ?_) (fun c Q hq => ?_) ?_
              · refine ⟨(by intro z; cases z), dP (k, g, false), (a : Int), a, rfl, rfl, ixN_nat (by rw [dSts_len, C1.len]; exact hag.1), ?_⟩
                refine ⟨(by intro z; cases z), dInt a, rfl, by simp [dNs]; omega, ?_⟩
                have e : cfStep2 ks h z (k, a, g) = (z.1.set a (some (k, g, false)), z.2 ++ [a]) := by unfold cfStep2; rw [if_pos c]
                rw [e] at hq
                unfold cfE at hq
                simp only [dSts_set, dNs_snoc] at hq
                exact hq
              · have e : cfStep2 ks h z (k, a, g) = z := by unfold cfStep2; rw [if_neg c]
                rw [e] at hq
                exact hq
              · exact hk _ ⟨cfStep2 ks h z (k, a, g), some (.val (dInt k)), some (.val (dInt a)), some (.val (dInt g)), C2'.1, C2'.2, fun e h => hr e (List.mem_cons_of_mem _ h), qy', rfl⟩
          · rintro Γ ⟨y, v7, v8, v9, Cy, hy, _, qy, rfl⟩
            have qy : y = cfPass ks all h x := qy
            have more : x.2.length ≤ y.2.length := by
              obtain ⟨_, ⟨mo, em⟩, _⟩ := cfFold_ok (here := h) E (es := all) (fun _ q => q) C hmem
              rw [qy]
              unfold cfPass
              rw [em]
              simp
            exact ⟨m, by omega, y, d + 1, _, v7, v8, v9, v10, Cy, by omega, by omega, by rw [qy]; exact q', rfl⟩
      · have hdl : x.2.length ≤ d := by have := of_decide_eq_false hb; omega
        have q' : x.1 = comeFrom s all ks := by
          rw [← q]
          cases m with
          | zero => rfl
          | succ m =>
            unfold cfGo
            rw [List.getElem?_eq_none_iff.mpr hdl]
        refine ⟨_, rfl, rfl, ?_⟩
        show (Sum.inl (Sl.own .loc (dSts (comeFrom s all ks))) : Rs) = _
        rw [← q']
    · cases h'
  · cases h
end Z

set_option maxRecDepth 100000
namespace Z
open PySem PySem.Spec PyProof.Rows L2

theorem ixS0 {Γ : En} {f : VF} {n u : Nat} {b : Bool} (h : f Γ = some (dP (n, u, b))) : v2 fIx f (vC (.int 0)) Γ = some (dInt n) := v2e h rfl rfl
theorem ixS1 {Γ : En} {f : VF} {n u : Nat} {b : Bool} (h : f Γ = some (dP (n, u, b))) : v2 fIx f (vC (.int 1)) Γ = some (dInt u) := v2e h rfl rfl
theorem ixS2 {Γ : En} {f : VF} {n u : Nat} {b : Bool} (h : f Γ = some (dP (n, u, b))) : v2 fIx f (vC (.int 2)) Γ = some (.bl b) := v2e h rfl rfl
def MayPth (st : Stps) (ks : List Int) (v : Nat) : Prop := ∃ l, Pth st v l ∧ May l ks ∧ ks.length + l.length ≤ 100000
open Classical in
noncomputable def F_one_more : FN
  | [.val (.lst ds), .val (.dic ks), .val (.int p)] => (decs ds : Option Stps).bind fun st => if 0 ≤ p ∧ MayPth st ks p.toNat then some (.inl (.odic .loc (oneMore st ks p.toNat))) else none
  | _ => none
theorem F_oneMore {st : Stps} {ks : List Int} {v : Nat} (h : MayPth st ks v) : F_one_more [.val (.lst (dSts st)), .val (.dic ks), .val (.int (v : Int))] = some (.inl (.odic .loc (oneMore st ks v))) := by
  show (decs (dSts st)).bind _ = _
  rw [decs_dSts, Option.bind_some]
  exact ite_some ⟨Int.natCast_nonneg v, h⟩
/-- one_more: 0 steps 1 used 2 place 3 after 4 step -/
def t_one_more : VT := (seqT (asgO 3 (v1 fDict (mVar 1))) (seqT (whileT (bV (v2 fNe (vVar 2) (vC (.int 0)))) (seqT (asgV 4 (v2 fIx (vVar 0) (vVar 2))) (seqT (ifT (bV (v2 fIx (vVar 4) (vC (.int 2)))) (seqT (dputT 3 (v2 fIx (vVar 4) (vC (.int 0)))) skipT) (seqT (dpopT 3 (v2 fIx (vVar 4) (vC (.int 0)))) skipT)) (seqT (asgV 2 (v2 fIx (vVar 4) (vC (.int 1)))) skipT)))) (seqT (retS 3) skipT)))
theorem tog_len (used : List Int) (x : Nat × Bool) : (tog used x).length ≤ used.length + 1 := by
  unfold tog putI delI
  split
  · split <;> simp
  · exact Nat.le_trans (List.length_filter_le _ _) (by omega)
theorem v_one_more : ∀ ss r, ss.length = 3 → F_one_more ss = some r → t_one_more (postP r) (En0 ss 5) ∧ ∃ s, r = .inl s := by
  intro ss r hl h
  unfold F_one_more at h
  split at h
  · rename_i ds ks p
    obtain ⟨st, e1, h'⟩ := Option.bind_eq_some_iff.mp h
    clear h
    split at h'
    · rename_i hs
      have h'' := Option.some.inj h'
      clear h'
      subst h''
      cases dSts_some e1
      obtain ⟨p0, hs⟩ := hs
      obtain ⟨v, rfl⟩ := Int.eq_ofNat_of_zero_le p0
      rw [Int.toNat_natCast] at hs ⊢
      obtain ⟨l, pth, may, hlen⟩ := hs
      rw [oneMore_eq pth]
      refine ⟨?_, _, rfl⟩
      refine ⟨_, rfl, ?_⟩
      refine ⟨fun m Γ => ∃ (u : Nat) (after : List Int) (l' : List (Nat × Bool)) (v4 : Option Sl), Pth st u l' ∧ May l' after ∧ togs l' after = togs l ks ∧ after.length + l'.length ≤ 100000 ∧ m = l'.length ∧
        Γ = [some (.val (.lst (dSts st))), some (.val (.dic ks)), some (.val (dInt u)), some (.odic .loc after), v4], ⟨l.length, v, ks, l, none, pth, may, rfl, hlen, rfl, rfl⟩, ?_⟩
      rintro m Γ ⟨u, after, l', v4, q1, q2, q3, q4, q5, rfl⟩
      refine ⟨decide (u ≠ 0), bVe (neE (b := 0) rfl rfl), fun hb => ?_, fun hb => ?_⟩
      · have hu := of_decide_eq_true hb
        cases q1 with
        | zero => exact absurd rfl hu
        | step g0 g1 g2 g3 =>
          rename_i n w b l2
          simp only [List.length_cons] at q4 q5
          have may2 := q2.tail
          have st0 := q2.2 (n, b) (by simp)
          have tl := tog_len after (n, b)
          refine ⟨dP (n, w, b), v2e rfl rfl (by
            have := atI_st g1
            rw [g2] at this
            exact this), ?_⟩
          refine if_to (Γ' := [some (.val (.lst (dSts st))), some (.val (.dic ks)), some (.val (dInt u)), some (.odic .loc (tog after (n, b))), some (.val (dP (n, w, b)))]) (p := b = true) (bVe (by
            have := ixS2 (Γ := [some (.val (.lst (dSts st))), some (.val (.dic ks)), some (.val (dInt u)), some (.odic .loc after), some (.val (dP (n, w, b)))]) (f := vVar 4) (n := n) (u := w) (b := b) rfl
            rw [show decide (b = true) = b by simp]
            exact this)) (fun c Q hq => ?_) (fun c Q hq => ?_) ?_
          · subst c
            exact ⟨(by intro z; cases z), (n : Int), ixS0 (n := n) (u := w) (b := true) rfl, by omega, hq⟩
          · have c : b = false := by simpa using c
            subst c
            exact ⟨(by intro z; cases z), (n : Int), ixS0 (n := n) (u := w) (b := false) rfl, st0.2 rfl, hq⟩
          · refine ⟨dInt w, ixS1 (n := n) (u := w) (b := b) rfl, ?_⟩
            exact ⟨l2.length, by omega, w, tog after (n, b), l2, _, g3, may2, q3, by omega, rfl, rfl⟩
      · have hu : u = 0 := by simpa using of_decide_eq_false hb
        subst hu
        cases q1 with
        | zero =>
          refine ⟨_, rfl, rfl, ?_⟩
          show (Sum.inl (Sl.odic .loc (togs l ks)) : Rs) = _
          rw [← q3]
          rfl
        | step g0 => exact absurd rfl g0
    · cases h'
  · cases h
theorem spSt_may {size : Nat} {all : List O3} {place : Nat} (E : EdOk all size) (hl : all.length ≤ 1000) {k : Nat} (h : ∀ i, i ≤ k → ¬ blk (spSteps size all place i) place) : MayPth (spSteps size all place k) (spSt size all place k) place := by
  obtain ⟨F, U⟩ := spSt_ok (place := place) E k fun i hi => h i (by omega)
  have nb := h k (by omega)
  have S := comeFrom_ok (used := spSt size all place k) E
  have hv : rc (comeFrom size all (spSt size all place k)) place := .inr (by
    unfold blk spSteps at nb
    cases q : stAt (comeFrom size all (spSt size all place k)) place with
    | none => exact absurd q nb
    | some x => rfl)
  obtain ⟨l, p1, p2, p3, p4⟩ := path_ok E S hv
  refine ⟨l, p1, p2, ?_⟩
  have h1 := U.len
  have h2 : (l.map (·.1)).length ≤ (all.map (·.1)).length := p2.1.length_le_of_subset fun n hn => by
    obtain ⟨x, hx, e⟩ := List.mem_map.mp hn
    obtain ⟨y, hy, e2⟩ := p3 x hx
    exact List.mem_map.mpr ⟨y, hy, by rw [e2, e]⟩
  simp only [List.length_map] at h2
  omega
noncomputable def spD (size : Nat) (all : List O3) (place r : Nat) : D := .tup [.int (r : Int), .dic (spSt size all place r), .lst (dSts (spSteps size all place r))]
open Classical in
noncomputable def F_spread : FN
  | [.val (.int s), .val (.lst ds), .val (.int p), .val (.int m)] => (decs ds : Option (List O3)).bind fun all => if 0 ≤ s ∧ s ≤ 1000 ∧ EdOk all s.toNat ∧ all.length ≤ 1000 ∧ 0 ≤ p ∧ p < s ∧ 0 ≤ m then
      some (.inl (.val (spD s.toNat all p.toNat (spR s.toNat all p.toNat m.toNat)))) else none
  | _ => none
theorem F_spreadE {s p m : Nat} {all : List O3} (h : s ≤ 1000) (E : EdOk all s) (hl : all.length ≤ 1000) (hp : p < s) : F_spread [.val (.int (s : Int)), .val (.lst (dOs all)), .val (.int (p : Int)), .val (.int (m : Int))] = some (.inl (.val (spD s all p (spR s all p m)))) := by
  show (decs (dOs all)).bind _ = _
  rw [decs_dOs, Option.bind_some]
  exact ite_some ⟨Int.natCast_nonneg s, by omega, E, hl, Int.natCast_nonneg p, by omega, Int.natCast_nonneg m⟩
/-- spread: 0 size 1 pipes 2 place 3 many 4 used 5 steps 6 gone -/
def t_spread : VT := (seqT (asgV 4 (v1 slD oDic0)) (seqT (asgV 5 (v1 slD (v1 inlO (xCall 3 F_come_from (rV (vVar 0) (rV (vVar 1) (rV (vVar 4) rNil))))))) (seqT (asgV 6 (vC (.int 0))) (seqT (whileT (bAnd (bV (v2 fLt (vVar 6) (vVar 3))) (bV (v2 fNotN (v2 fIx (vVar 5) (vVar 2)) (vC .non)))) (seqT (asgV 4 (v1 slD (v1 inlO (xCall 3 F_one_more (rV (vVar 5) (rV (vVar 4) (rV (vVar 2) rNil))))))) (seqT (asgV 5 (v1 slD (v1 inlO (xCall 3 F_come_from (rV (vVar 0) (rV (vVar 1) (rV (vVar 4) rNil))))))) (seqT (asgV 6 (v2 fAdd (vVar 6) (vC (.int 1)))) skipT)))) (seqT (retV (vTup (aCons (vVar 6) (aCons (vVar 4) (aCons (vVar 5) aNil))))) skipT)))))
theorem v_spread : ∀ ss r, ss.length = 4 → F_spread ss = some r → t_spread (postP r) (En0 ss 7) ∧ ∃ s, r = .inl s := by
  intro ss r hl h
  unfold F_spread at h
  split at h
  · rename_i s ds p mm
    obtain ⟨all, e1, h'⟩ := Option.bind_eq_some_iff.mp h
    clear h
    split at h'
    · rename_i hs
      have h'' := Option.some.inj h'
      clear h'
      subst h''
      cases dOs_some e1
      obtain ⟨h1, h2, E, h3, h4, h5, h6⟩ := hs
      obtain ⟨s, rfl⟩ := Int.eq_ofNat_of_zero_le h1
      obtain ⟨p, rfl⟩ := Int.eq_ofNat_of_zero_le h4
      obtain ⟨mm, rfl⟩ := Int.eq_ofNat_of_zero_le h6
      simp only [Int.toNat_natCast] at E ⊢
      refine ⟨?_, _, rfl⟩
      have hps : p < s := by omega
      have slen : ∀ k, (spSteps s all p k).length = s := fun k => (comeFrom_ok (used := spSt s all p k) E).len
      refine ⟨_, rfl, ?_⟩
      refine ⟨.lst (dSts (spSteps s all p 0)), v1e (v1e (xc rfl ⟨rfl, rfl⟩ rfl (F_comeFrom (by omega) E)) rfl) rfl, ?_⟩
      refine ⟨_, rfl, ?_⟩
      refine ⟨fun m Γ => ∃ (g : Nat), m + g = mm ∧ spGo s all p m g = spR s all p mm ∧ (∀ i, i < g → ¬ blk (spSteps s all p i) p) ∧
        Γ = [some (.val (.int (s : Int))), some (.val (.lst (dOs all))), some (.val (dInt p)), some (.val (.int (mm : Int))), some (.val (.dic (spSt s all p g))), some (.val (.lst (dSts (spSteps s all p g)))), some (.val (dInt g))], ⟨mm, 0, rfl, rfl, fun i hi => by omega, rfl⟩, ?_⟩
      rintro m Γ ⟨g, q1, q2, q3, rfl⟩
      refine ⟨decide (g < mm ∧ stAt (spSteps s all p g) p ≠ none), bAnd_d (bVe (v2e rfl rfl (by show some (D.bl (decide ((g : Int) < (mm : Int)))) = _; simp))) fun _ => bVe (stSE (v2e rfl rfl (atI_st (v := p) (by rw [slen]; exact hps)))), fun hb => ?_, fun hb => ?_⟩
      · obtain ⟨c1, c2⟩ := of_decide_eq_true hb
        have q3' : ∀ i, i ≤ g → ¬ blk (spSteps s all p i) p := fun i hi => by
          by_cases z : i = g
          · subst z; exact c2
          · exact q3 i (by omega)
        refine ⟨.dic (spSt s all p (g + 1)), v1e (v1e (xc rfl ⟨rfl, rfl⟩ rfl (F_oneMore (spSt_may E h3 q3'))) rfl) rfl, ?_⟩
        refine ⟨.lst (dSts (spSteps s all p (g + 1))), v1e (v1e (xc rfl ⟨rfl, rfl⟩ rfl (F_comeFrom (by omega) E)) rfl) rfl, ?_⟩
        refine ⟨dInt (g + 1), rfl, ?_⟩
        cases m with
        | zero => omega
        | succ m =>
          refine ⟨m, by omega, g + 1, by omega, ?_, fun i hi => q3' i (by omega), rfl⟩
          rw [← q2]
          conv => rhs; unfold spGo
          rw [if_neg (show ¬ blk (spSteps s all p g) p from c2)]
      · have hb := of_decide_eq_false hb
        have hr : spR s all p mm = g := by
          rw [← q2]
          cases m with
          | zero => rfl
          | succ m =>
            unfold spGo
            rw [if_pos]
            exact Decidable.byContradiction fun z => hb ⟨by omega, z⟩
        rw [hr]
        exact ⟨_, rfl, rfl⟩
    · cases h'
  · cases h

/-! ### walks along what is in use -/
def mD : Sl → Option (List Int)
  | .val (.dic ks) => some ks
  | .odic .ro ks => some ks
  | _ => none
def nxD : Option O3 → D
  | some e => .tup [.int (e.1 : Int), .int (e.2.2 : Int)]
  | none => .non
def F_next_pipe : FN
  | [.val (.lst ds), x, .val (.int h)] => (decs ds : Option (List O3)).bind fun all => (mD x).bind fun ks => if 0 ≤ h then some (.inl (.val (nxD (nextP all ks h.toNat)))) else none
  | _ => none
theorem F_nextP {all : List O3} {x : Sl} {ks : List Int} {h : Nat} (hx : mD x = some ks) : F_next_pipe [.val (.lst (dOs all)), x, .val (.int (h : Int))] = some (.inl (.val (nxD (nextP all ks h)))) := by
  show (decs (dOs all)).bind _ = _
  rw [decs_dOs, Option.bind_some, hx, Option.bind_some]
  exact ite_some (Int.natCast_nonneg h)
theorem mVar_of {x : Sl} {ks : List Int} (h : mD x = some ks) (a : Option Sl) (Γ : En) : mVar 1 (a :: some x :: Γ) = some ks := by
  unfold mD at h
  split at h
  · cases h; rfl
  · cases h; rfl
  · cases h
theorem nextP_cons (e : O3) (all : List O3) (ks : List Int) (h : Nat) : nextP (e :: all) ks h = if e.2.1 = h ∧ (e.1 : Int) ∈ ks then some e else nextP all ks h := by
  unfold nextP
  rw [List.find?_cons]
  by_cases c : e.2.1 = h ∧ (e.1 : Int) ∈ ks
  · rw [if_pos c, decide_eq_true c]
  · rw [if_neg c, decide_eq_false c]
theorem nextP_spec {all : List O3} {ks : List Int} {h : Nat} {e : O3} (q : nextP all ks h = some e) : e.2.1 = h ∧ (e.1 : Int) ∈ ks := by
  unfold nextP at q
  have := List.find?_some q
  exact of_decide_eq_true this
/-- next_pipe: 0 pipes 1 used 2 here 3 number 4 start 5 goal -/
def t_next_pipe : VT := (seqT (forT (v1 dL (vVar 0)) (gT [3, 4, 5]) (seqT (ifT (bAnd (bV (v2 fEq (vVar 4) (vVar 2))) (bV (v2 (fInM false) (vVar 3) (mVar 1)))) (seqT (retV (vTup (aCons (vVar 3) (aCons (vVar 5) aNil)))) skipT) skipT) skipT)) (seqT (retV (vC .non)) skipT))
theorem v_next_pipe : ∀ ss r, ss.length = 3 → F_next_pipe ss = some r → t_next_pipe (postP r) (En0 ss 6) ∧ ∃ s, r = .inl s := by
  intro ss r hl h
  unfold F_next_pipe at h
  split at h
  · rename_i ds x hh
    obtain ⟨all, e1, h'⟩ := Option.bind_eq_some_iff.mp h
    obtain ⟨ks, e2, h2⟩ := Option.bind_eq_some_iff.mp h'
    clear h h'
    split at h2
    · rename_i hs
      have h'' := Option.some.inj h2
      clear h2
      subst h''
      cases dOs_some e1
      obtain ⟨hh, rfl⟩ := Int.eq_ofNat_of_zero_le hs
      rw [Int.toNat_natCast]
      refine ⟨?_, _, rfl⟩
      refine ⟨dOs all, rfl, ?_⟩
      refine loopT_inv (enc := dO3) (fun rest Γ => ∃ (v3 v4 v5 : Option Sl), nextP rest ks hh = nextP all ks hh ∧ Γ = [some (.val (.lst (dOs all))), some x, some (.val (dInt hh)), v3, v4, v5]) ?_ ?_ all _ ⟨none, none, none, rfl, rfl⟩
      · rintro ⟨k, a, g⟩ rest Γ kk ⟨v3, v4, v5, q, rfl⟩ hk
        refine ⟨_, rfl, ?_⟩
        refine if_d (p := a = hh ∧ (k : Int) ∈ ks) (bAnd_d (bVe (eqE rfl rfl)) fun _ => bVe (inME rfl (mVar_of e2 _ _))) (fun c => ?_) (fun c => ?_)
        · refine ⟨_, rfl, ?_⟩
          show (Sum.inl (Sl.val (nxD (nextP all ks hh))) : Rs) = _
          rw [← q]
          rw [nextP_cons, if_pos c]
          rfl
        · refine hk _ ⟨_, _, _, ?_, rfl⟩
          rw [← q]
          rw [nextP_cons, if_neg c]
      · rintro Γ ⟨v3, v4, v5, q, rfl⟩
        refine ⟨_, rfl, ?_⟩
        show (Sum.inl (Sl.val (nxD (nextP all ks hh))) : Rs) = _
        rw [← q]
        rfl
    · cases h2
  · cases h
theorem Wk.len {all : List O3} {place : Nat} {left : List Int} {here : Nat} {row : List Nat} {left' : List Int} (h : Wk all place left here row left') : row.length + left'.length ≤ left.length := by
  induction h with
  | done => simp
  | @step left left' here e row h0 h1 h2 ih =>
    have hm := (nextP_spec h1).2
    have := delI_len hm
    simp only [List.length_cons]
    omega
def dRows (rows : List (List Nat)) : List D := rows.map fun r => .lst (dNs r)
open Classical in
noncomputable def F_walked : FN
  | [.val (.lst ds), .val (.dic ks), .val (.int p), .val (.int m)] => (decs ds : Option (List O3)).bind fun all => if 0 ≤ p ∧ 0 ≤ m ∧ m ≤ 10000 ∧ ks.length ≤ 10000 ∧ ∃ rows, Wks all p.toNat m.toNat ks rows then
      some (.inl (.own .loc (dRows (walkedOf all p.toNat m.toNat ks)))) else none
  | _ => none
theorem F_walkedE {all : List O3} {ks : List Int} {p m : Nat} (h1 : m ≤ 10000) (h2 : ks.length ≤ 10000) (h3 : ∃ rows, Wks all p m ks rows) : F_walked [.val (.lst (dOs all)), .val (.dic ks), .val (.int (p : Int)), .val (.int (m : Int))] = some (.inl (.own .loc (dRows (walkedOf all p m ks)))) := by
  show (decs (dOs all)).bind _ = _
  rw [decs_dOs, Option.bind_some]
  exact ite_some ⟨Int.natCast_nonneg p, Int.natCast_nonneg m, by omega, h2, h3⟩
/-- walked: 0 pipes 1 used 2 place 3 many 4 left 5 found 6 turn 7 row 8 here 9 step -/
def t_walked : VT := (seqT (asgO 4 (v1 fDict (mVar 1))) (seqT (asgO 5 (oLst aNil)) (seqT (forT (lRng1 (vVar 3)) (gN 6) (seqT (asgO 7 (oLst aNil)) (seqT (asgV 8 (vC (.int 0))) (seqT (whileT (bV (v2 fNe (vVar 8) (vVar 2))) (seqT (asgV 9 (v1 slD (v1 inlO (xCall 3 F_next_pipe (rV (vVar 0) (rS 4 (rV (vVar 8) rNil))))))) (seqT (appT 7 (v2 fIx (vVar 9) (vC (.int 0)))) (seqT (dpopT 4 (v2 fIx (vVar 9) (vC (.int 0)))) (seqT (asgV 8 (v2 fIx (vVar 9) (vC (.int 1)))) skipT))))) (seqT (frzT 7 (appT 5 (vVar 7))) skipT))))) (seqT (retS 5) skipT))))
theorem v_walked : ∀ ss r, ss.length = 4 → F_walked ss = some r → t_walked (postP r) (En0 ss 10) ∧ ∃ s, r = .inl s := by
  intro ss r hl h
  unfold F_walked at h
  split at h
  · rename_i ds ks p mm
    obtain ⟨all, e1, h'⟩ := Option.bind_eq_some_iff.mp h
    clear h
    split at h'
    · rename_i hs
      have h'' := Option.some.inj h'
      clear h'
      subst h''
      cases dOs_some e1
      obtain ⟨h1, h2, h3, h4, h5⟩ := hs
      obtain ⟨p, rfl⟩ := Int.eq_ofNat_of_zero_le h1
      obtain ⟨mm, rfl⟩ := Int.eq_ofNat_of_zero_le h2
      simp only [Int.toNat_natCast] at h5 ⊢
      have hW : Wks all p mm ks (walkedOf all p mm ks) := by
        unfold walkedOf
        rw [dif_pos h5]
        exact Classical.choose_spec h5
      generalize walkedOf all p mm ks = R at *
      refine ⟨?_, _, rfl⟩
      refine ⟨_, rfl, ?_⟩
      refine ⟨_, rfl, ?_⟩
      refine ⟨_, rng1e (i := (mm : Int)) rfl (by omega), ?_⟩
      rw [Int.toNat_natCast]
      refine loopT_inv (enc := dInt) (fun rest Γ => ∃ (left : List Int) (done todo : List (List Nat)) (v6 v7 v8 v9 : Option Sl), Wks all p rest.length left todo ∧ done ++ todo = R ∧ left.length ≤ 10000 ∧ done.length + rest.length ≤ mm ∧
        Γ = [some (.val (.lst (dOs all))), some (.val (.dic ks)), some (.val (dInt p)), some (.val (.int (mm : Int))), some (.odic .loc left), some (.own .loc (dRows done)), v6, v7, v8, v9]) ?_ ?_ _ _ ⟨ks, [], R, none, none, none, none, by simpa using hW, rfl, h4, by simp, rfl⟩
      · rintro t rest Γ kk ⟨left, done, todo, v6, v7, v8, v9, w, hd, hl4, hl5, rfl⟩ hk
        refine ⟨_, rfl, ?_⟩
        cases w with
        | @cons n left left' row rows w1 w2 =>
          simp only [List.length_cons] at hl5
          refine ⟨_, rfl, ?_⟩
          refine ⟨_, rfl, ?_⟩
          refine ⟨fun m Γ => ∃ (l : List Int) (here : Nat) (rd rt : List Nat) (v9 : Option Sl), Wk all p l here rt left' ∧ rd ++ rt = row ∧ rd.length + l.length ≤ 10000 ∧ m = rt.length ∧
            Γ = [some (.val (.lst (dOs all))), some (.val (.dic ks)), some (.val (dInt p)), some (.val (.int (mm : Int))), some (.odic .loc l), some (.own .loc (dRows done)), some (.val (dInt t)), some (.own .loc (dNs rd)), some (.val (dInt here)), v9], ⟨row.length, left, 0, [], row, v9, w1, rfl, by simpa using hl4, rfl, rfl⟩, ?_⟩
          rintro m Γ ⟨l, here, rd, rt, v9', q1, q2, q3, q4, rfl⟩
          refine ⟨decide (here ≠ p), bVe (neE rfl rfl), fun hb => ?_, fun hb => ?_⟩
          · have hne := of_decide_eq_true hb
            cases q1 with
            | done => exact absurd rfl hne
            | @step _ _ _ e rt g0 g1 g2 =>
              have hm := (nextP_spec g1).2
              have hdl := delI_len hm
              simp only [List.length_cons] at q4
              refine ⟨.tup [.int (e.1 : Int), .int (e.2.2 : Int)], v1e (v1e (xc rfl ⟨rfl, rfl⟩ rfl (F_nextP rfl)) rfl) (by rw [g1]; rfl), ?_⟩
              refine ⟨(by intro z; cases z), dInt e.1, rfl, by rw [dNs_len]; omega, ?_⟩
              refine ⟨(by intro z; cases z), (e.1 : Int), rfl, hm, ?_⟩
              refine ⟨dInt e.2.2, rfl, ?_⟩
              refine ⟨rt.length, by omega, delI l e.1, e.2.2, rd ++ [e.1], rt, some (.val (.tup [.int (e.1 : Int), .int (e.2.2 : Int)])), g2, by rw [← q2]; simp, by simp; omega, rfl, ?_⟩
              rw [dNs_snoc]
              rfl
          · have he : here = p := by simpa using of_decide_eq_false hb
            subst he
            cases q1 with
            | done =>
              rw [List.append_nil] at q2
              subst q2
              refine ⟨(by intro z; cases z), .lst (dNs rd), rfl, by unfold dRows; rw [List.length_map]; omega, ?_⟩
              refine hk _ ⟨left', done ++ [rd], rows, some (.val (dInt t)), some (.val (.lst (dNs rd))), some (.val (dInt here)), v9', w2, by rw [← hd]; simp, by omega, by simp; omega, ?_⟩
              unfold dRows
              rw [List.map_append]
              rfl
            | step g0 => exact absurd rfl g0
      · rintro Γ ⟨left, done, todo, v6, v7, v8, v9, w, hd, hl4, hl5, rfl⟩
        cases w with
        | nil =>
          rw [List.append_nil] at hd
          subst hd
          exact ⟨_, rfl, rfl, rfl⟩
    · cases h'
  · cases h
def F_beyond : FN
  | [.val (.int s), .val (.lst ds)] => (decs ds : Option Stps).bind fun st => if 1 ≤ s ∧ s ≤ 1000 ∧ (st.length : Int) = s then some (.inl (.own .loc (dNs (byd s.toNat st)))) else none
  | _ => none
theorem F_byd {s : Nat} {st : Stps} (h1 : 1 ≤ s) (h2 : s ≤ 1000) (h3 : st.length = s) : F_beyond [.val (.int (s : Int)), .val (.lst (dSts st))] = some (.inl (.own .loc (dNs (byd s st)))) := by
  show (decs (dSts st)).bind _ = _
  rw [decs_dSts, Option.bind_some]
  exact ite_some (show 1 ≤ (s : Int) ∧ (s : Int) ≤ 1000 ∧ (st.length : Int) = (s : Int) by omega)
/-- beyond: 0 size 1 steps 2 place -/
def t_beyond : VT := (seqT (retO (vLc [2] (lRng2 (vC (.int 1)) (vVar 0)) (gN 2) (bV (v2 fIsN (v2 fIx (vVar 1) (vVar 2)) (vC .non))) (vVar 2))) skipT)
theorem v_beyond : ∀ ss r, ss.length = 2 → F_beyond ss = some r → t_beyond (postP r) (En0 ss 3) ∧ ∃ s, r = .inl s := by
  intro ss r hl h
  unfold F_beyond at h
  split at h
  · rename_i s ds
    obtain ⟨st, e1, h'⟩ := Option.bind_eq_some_iff.mp h
    clear h
    split at h'
    · rename_i hs
      have h'' := Option.some.inj h'
      clear h'
      subst h''
      cases dSts_some e1
      obtain ⟨s, rfl⟩ := Int.eq_ofNat_of_zero_le (show 0 ≤ s by omega)
      rw [Int.toNat_natCast]
      refine ⟨⟨.own .loc (dNs (byd s st)), ?_, rfl⟩, _, rfl⟩
      refine vlc_filter (enc := dInt) (xs := List.range' 1 (s - 1)) (p := fun v => (stAt st v).isNone) (h := dInt) (rng2e (i := 1) (j := s) rfl rfl (by omega) (by omega)) (by simp; omega) fun v hv => ?_
      have hv : v < st.length := by
        rw [List.mem_range'_1] at hv
        omega
      refine lcS (b := (stAt st v).isNone) rfl (bVe ?_) fun _ => rfl
      have := stNE (Γ := [some (.val (.int (s : Int))), some (.val (.lst (dSts st))), some (.val (dInt v))]) (f := v2 fIx (vVar 1) (vVar 2)) (v2e rfl rfl (atI_st hv))
      rw [show decide (stAt st v = none) = (stAt st v).isNone by cases stAt st v <;> rfl] at this
      exact this
    · cases h'
  · cases h
end Z

set_option maxRecDepth 100000
namespace Z
open PySem PySem.Spec PyProof.Rows L2

theorem edOk_open {n : Nat} {ps : List P3} (h : okNet n ps) : EdOk (openOf ps) n := by
  refine ⟨h.1, ?_, openOf_lt h.pip⟩
  unfold openOf
  rw [List.map_map, show ((fun (x : O3) => x.1) ∘ opOf ps) = id from rfl, List.map_id]
  unfold lawOpen
  exact List.Pairwise.filter _ (List.pairwise_lt_range.imp fun h => Nat.ne_of_lt h)
theorem open_60 {n : Nat} {ps : List P3} (h : okNet n ps) : (openOf ps).length ≤ 60 := Nat.le_trans (openOf_len ps) h.2.2.2
/-- what is told of ways -/
noncomputable def spN (n : Nat) (ps : List P3) (p m : Nat) : Nat := spR n (openOf ps) p m
noncomputable def setOf (n : Nat) (ps : List P3) (p r : Nat) : List Nat := byd n (spSteps n (openOf ps) p r)
noncomputable def rowsOf (n : Nat) (ps : List P3) (p m r : Nat) : List (List Nat) := walkedOf (openOf ps) p m (spSt n (openOf ps) p r)
noncomputable def waysD (n : Nat) (ps : List P3) (p m : Nat) : D := if spN n ps p m < m then .tup [.str "narrow", .lst (dNs (setOf n ps p (spN n ps p m)))] else .tup [.str "ways", .lst (dRows (rowsOf n ps p m (spN n ps p m)))]
noncomputable def F_ways : FN
  | [.net _ s ds, .val (.int p), .val (.int m)] => (unNet s ds).bind fun x => if p < 0 ∨ (x.1 : Int) ≤ p then some (.inr .place) else if p ≠ 0 ∧ 0 ≤ m ∧ m ≤ 1000 then some (.inl (.val (waysD x.1 x.2 p.toNat m.toNat))) else none
  | _ => none
theorem F_ways_no {md : Md} {s : Nat} {ps : List P3} {p m : Int} (h : okNet s ps) (hp : p < 0 ∨ (s : Int) ≤ p) : F_ways [.net md (s : Int) (dPs ps), .val (.int p), .val (.int m)] = some (.inr .place) := by
  show (unNet _ _).bind _ = _
  rw [unNet_of h, Option.bind_some, if_pos hp]
theorem F_ways_yes {md : Md} {s p m : Nat} {ps : List P3} (h : okNet s ps) (h0 : p ≠ 0) (hp : p < s) (hm : m ≤ 1000) : F_ways [.net md (s : Int) (dPs ps), .val (.int (p : Int)), .val (.int (m : Int))] = some (.inl (.val (waysD s ps p m))) := by
  show (unNet _ _).bind _ = _
  rw [unNet_of h, Option.bind_some, if_neg (by omega), Int.toNat_natCast, Int.toNat_natCast]
  exact ite_some (show (p : Int) ≠ 0 ∧ 0 ≤ (m : Int) ∧ (m : Int) ≤ 1000 by omega)
theorem spSt_good {n : Nat} {ps : List P3} {p m : Nat} (hn : okNet n ps) : SpOk (openOf ps) p (spN n ps p m) (spSt n (openOf ps) p (spN n ps p m)) := spSt_ok (edOk_open hn) _ spR_spec.2.1
theorem spSteps_len {n : Nat} {ps : List P3} {p k : Nat} (hn : okNet n ps) : (spSteps n (openOf ps) p k).length = n := (comeFrom_ok (used := spSt n (openOf ps) p k) (edOk_open hn)).len
theorem spSt_len {n : Nat} {ps : List P3} {p m : Nat} (hn : okNet n ps) : (spSt n (openOf ps) p (spN n ps p m)).length ≤ 60 := Nat.le_trans (spSt_good hn).u.len (open_60 hn)
theorem F_walkedO {n : Nat} {ps : List P3} {p m mm : Nat} (hn : okNet n ps) (h : m ≤ spN n ps p mm) (hm : m ≤ 10000) : F_walked [.val (.lst (dOs (openOf ps))), .val (.dic (spSt n (openOf ps) p (spN n ps p mm))), .val (.int (p : Int)), .val (.int (m : Int))] = some (.inl (.own .loc (dRows (rowsOf n ps p m (spN n ps p mm))))) := by
  have := walkedOf_ok (m := m) (edOk_open hn) h (spSt_good hn).f
  have h60 := spSt_len (p := p) (m := mm) hn
  exact F_walkedE hm (by omega) ⟨_, this.1⟩
/-- ways: 0 net 1 place 2 many 3 pipes 4 found -/
def t_ways : VT := (seqT (exprX (xMeth 2 F_see_place 0 (rV (vVar 1) rNil))) (seqT (asgV 3 (v1 slD (v1 inlO (xCall 1 F_open_pipes (rS 0 rNil))))) (seqT (asgV 4 (v1 slD (v1 inlO (xCall 4 F_spread (rV (v1 slD (v1 inlO (xMeth 1 F_size 0 rNil))) (rV (vVar 3) (rV (vVar 1) (rV (vVar 2) rNil)))))))) (seqT (ifT (bV (v2 fLt (v2 fIx (vVar 4) (vC (.int 0))) (vVar 2))) (seqT (retV (vTup (aCons (vC (.str "narrow")) (aCons (v1 slD (v1 inlO (xCall 2 F_beyond (rV (v1 slD (v1 inlO (xMeth 1 F_size 0 rNil))) (rV (v2 fIx (vVar 4) (vC (.int 2))) rNil))))) aNil)))) skipT) skipT) (seqT (retV (vTup (aCons (vC (.str "ways")) (aCons (v1 slD (v1 inlO (xCall 4 F_walked (rV (vVar 3) (rV (v2 fIx (vVar 4) (vC (.int 1))) (rV (vVar 1) (rV (vVar 2) rNil))))))) aNil)))) skipT)))))
theorem v_ways : ∀ ss r, ss.length = 3 → F_ways ss = some r → t_ways (postP r) (En0 ss 5) := by
  intro ss r hl h
  unfold F_ways at h
  split at h
  · rename_i md s ds p m
    obtain ⟨x, e1, h'⟩ := Option.bind_eq_some_iff.mp h
    clear h
    obtain ⟨rfl, rfl, hn⟩ := unNet_some e1
    obtain ⟨n, ps⟩ := x
    clear e1
    simp only at hn h' ⊢
    refine ⟨_, xm rfl (xc rfl ⟨rfl, rfl⟩ rfl rfl), ?_⟩
    by_cases c : p < 0 ∨ (n : Int) ≤ p
    · rw [if_pos c] at h'
      cases h'
      rw [if_pos c]
      exact rfl
    rw [if_neg c] at h'
    rw [if_neg c]
    split at h'
    · rename_i hc
      cases h'
      obtain ⟨p, rfl⟩ := Int.eq_ofNat_of_zero_le (show 0 ≤ p by omega)
      obtain ⟨m, rfl⟩ := Int.eq_ofNat_of_zero_le hc.2.1
      have hp : p < n := by omega
      have hn1 := hn.2.1
      have h60 := open_60 hn
      simp only [Int.toNat_natCast]
      refine ⟨_, v1e (v1e (opens_e hn rfl) rfl) rfl, ?_⟩
      refine ⟨_, v1e (v1e (xc rfl ⟨rfl, rfl⟩ rfl (F_spreadE (s := n) (p := p) (m := m) (by omega) (edOk_open hn) (by omega) hp)) rfl) rfl, ?_⟩
      refine if_d (p := spN n ps p m < m) (bVe (v2e (x := dInt (spN n ps p m)) (y := .int (m : Int)) rfl rfl (by show some (D.bl (decide ((spN n ps p m : Int) < (m : Int)))) = _; simp))) (fun d => ?_) (fun d => ?_)
      · refine ⟨waysD n ps p m, ?_, rfl⟩
        unfold waysD
        rw [if_pos d]
        unfold vTup aCons aNil
        have hb : v1 slD (v1 inlO (xCall 2 F_beyond (rV (v1 slD (v1 inlO (xMeth 1 F_size 0 rNil))) (rV (v2 fIx (vVar 4) (vC (.int 2))) rNil)))) [some (Sl.net md (n : Int) (dPs ps)), some (.val (.int (p : Int))), some (.val (.int (m : Int))), some (.val (.lst (dOs (openOf ps)))), some (.val (spD n (openOf ps) p (spR n (openOf ps) p m)))] = some (.lst (dNs (setOf n ps p (spN n ps p m)))) :=
          v1e (v1e (xc rfl ⟨rfl, rfl⟩ rfl (F_byd hn.1 (by omega) (spSteps_len hn))) rfl) rfl
        rw [show (vC (.str "narrow")) _ = some (D.str "narrow") from rfl, Option.bind_some]
        show ((Option.bind (v1 slD (v1 inlO (xCall 2 F_beyond (rV (v1 slD (v1 inlO (xMeth 1 F_size 0 rNil))) (rV (v2 fIx (vVar 4) (vC (.int 2))) rNil)))) [some (Sl.net md (n : Int) (dPs ps)), some (.val (.int (p : Int))), some (.val (.int (m : Int))), some (.val (.lst (dOs (openOf ps)))), some (.val (spD n (openOf ps) p (spR n (openOf ps) p m)))]) _).bind _).bind _ = _
        rw [hb]
        rfl
      · have hr : spN n ps p m = m := by
          have : spN n ps p m ≤ m := spR_spec.1
          omega
        refine ⟨waysD n ps p m, ?_, rfl⟩
        unfold waysD
        rw [if_neg d]
        unfold vTup aCons aNil
        have hb : v1 slD (v1 inlO (xCall 4 F_walked (rV (vVar 3) (rV (v2 fIx (vVar 4) (vC (.int 1))) (rV (vVar 1) (rV (vVar 2) rNil)))))) [some (Sl.net md (n : Int) (dPs ps)), some (.val (.int (p : Int))), some (.val (.int (m : Int))), some (.val (.lst (dOs (openOf ps)))), some (.val (spD n (openOf ps) p (spR n (openOf ps) p m)))] = some (.lst (dRows (rowsOf n ps p m (spN n ps p m)))) :=
          v1e (v1e (xc rfl ⟨rfl, rfl⟩ rfl (F_walkedO hn (by omega) (by omega))) rfl) rfl
        rw [show (vC (.str "ways")) _ = some (D.str "ways") from rfl, Option.bind_some]
        show ((Option.bind (v1 slD (v1 inlO (xCall 4 F_walked (rV (vVar 3) (rV (v2 fIx (vVar 4) (vC (.int 1))) (rV (vVar 1) (rV (vVar 2) rNil)))))) [some (Sl.net md (n : Int) (dPs ps)), some (.val (.int (p : Int))), some (.val (.int (m : Int))), some (.val (.lst (dOs (openOf ps)))), some (.val (spD n (openOf ps) p (spR n (openOf ps) p m)))]) _).bind _).bind _ = _
        rw [hb]
        rfl
    · cases h'
  · cases h
/-- the greatest number of ways -/
noncomputable def widN (n : Nat) (ps : List P3) (p : Nat) : Nat := spN n ps p ((openOf ps).length + 1)
noncomputable def widD (n : Nat) (ps : List P3) (p : Nat) : D := .tup [.int (widN n ps p : Int), .lst (dRows (rowsOf n ps p (widN n ps p) (widN n ps p))), .lst (dNs (setOf n ps p (widN n ps p)))]
noncomputable def F_widest : FN
  | [.net _ s ds, .val (.int p)] => (unNet s ds).bind fun x => if p < 0 ∨ (x.1 : Int) ≤ p then some (.inr .place) else if p ≠ 0 then some (.inl (.val (widD x.1 x.2 p.toNat))) else none
  | _ => none
theorem F_widest_no {md : Md} {s : Nat} {ps : List P3} {p : Int} (h : okNet s ps) (hp : p < 0 ∨ (s : Int) ≤ p) : F_widest [.net md (s : Int) (dPs ps), .val (.int p)] = some (.inr .place) := by
  show (unNet _ _).bind _ = _
  rw [unNet_of h, Option.bind_some, if_pos hp]
theorem F_widest_yes {md : Md} {s p : Nat} {ps : List P3} (h : okNet s ps) (h0 : p ≠ 0) (hp : p < s) : F_widest [.net md (s : Int) (dPs ps), .val (.int (p : Int))] = some (.inl (.val (widD s ps p))) := by
  show (unNet _ _).bind _ = _
  rw [unNet_of h, Option.bind_some, if_neg (by omega), Int.toNat_natCast]
  exact ite_some (show (p : Int) ≠ 0 by omega)
theorem widN_le {n : Nat} {ps : List P3} {p : Nat} (hn : okNet n ps) : widN n ps p ≤ 61 := by
  have : widN n ps p ≤ (openOf ps).length + 1 := spR_spec.1
  have := open_60 hn
  omega
/-- widest: 0 net 1 place 2 pipes 3 found -/
def t_widest : VT := (seqT (exprX (xMeth 2 F_see_place 0 (rV (vVar 1) rNil))) (seqT (asgV 2 (v1 slD (v1 inlO (xCall 1 F_open_pipes (rS 0 rNil))))) (seqT (asgV 3 (v1 slD (v1 inlO (xCall 4 F_spread (rV (v1 slD (v1 inlO (xMeth 1 F_size 0 rNil))) (rV (vVar 2) (rV (vVar 1) (rV (v2 fAdd (v1 fLenL (lVar 2)) (vC (.int 1))) rNil)))))))) (seqT (retV (vTup (aCons (v2 fIx (vVar 3) (vC (.int 0))) (aCons (v1 slD (v1 inlO (xCall 4 F_walked (rV (vVar 2) (rV (v2 fIx (vVar 3) (vC (.int 1))) (rV (vVar 1) (rV (v2 fIx (vVar 3) (vC (.int 0))) rNil))))))) (aCons (v1 slD (v1 inlO (xCall 2 F_beyond (rV (v1 slD (v1 inlO (xMeth 1 F_size 0 rNil))) (rV (v2 fIx (vVar 3) (vC (.int 2))) rNil))))) aNil))))) skipT))))
theorem v_widest : ∀ ss r, ss.length = 2 → F_widest ss = some r → t_widest (postP r) (En0 ss 4) := by
  intro ss r hl h
  unfold F_widest at h
  split at h
  · rename_i md s ds p
    obtain ⟨x, e1, h'⟩ := Option.bind_eq_some_iff.mp h
    clear h
    obtain ⟨rfl, rfl, hn⟩ := unNet_some e1
    obtain ⟨n, ps⟩ := x
    clear e1
    simp only at hn h' ⊢
    refine ⟨_, xm rfl (xc rfl ⟨rfl, rfl⟩ rfl rfl), ?_⟩
    by_cases c : p < 0 ∨ (n : Int) ≤ p
    · rw [if_pos c] at h'
      cases h'
      rw [if_pos c]
      exact rfl
    rw [if_neg c] at h'
    rw [if_neg c]
    split at h'
    · rename_i hc
      cases h'
      obtain ⟨p, rfl⟩ := Int.eq_ofNat_of_zero_le (show 0 ≤ p by omega)
      have hp : p < n := by omega
      have hn1 := hn.2.1
      have h60 := open_60 hn
      have h61 := widN_le (p := p) hn
      simp only [Int.toNat_natCast]
      refine ⟨_, v1e (v1e (opens_e hn rfl) rfl) rfl, ?_⟩
      refine ⟨spD n (openOf ps) p (widN n ps p), v1e (v1e (xc (rVe rfl (rVe rfl (rVe rfl (rVe (v2e (z := .int (((openOf ps).length + 1 : Nat) : Int)) (v1e (x := dOs (openOf ps)) (y := .int ((openOf ps).length : Int)) rfl (by simp [fLenL])) (y := .int 1) rfl rfl) rfl)))) ⟨rfl, rfl⟩ rfl (F_spreadE (s := n) (p := p) (m := (openOf ps).length + 1) (by omega) (edOk_open hn) (by omega) hp)) rfl) rfl, ?_⟩
      refine ⟨widD n ps p, ?_, rfl⟩
      have hw : v1 slD (v1 inlO (xCall 4 F_walked (rV (vVar 2) (rV (v2 fIx (vVar 3) (vC (.int 1))) (rV (vVar 1) (rV (v2 fIx (vVar 3) (vC (.int 0))) rNil)))))) [some (Sl.net md (n : Int) (dPs ps)), some (.val (.int (p : Int))), some (.val (.lst (dOs (openOf ps)))), some (.val (spD n (openOf ps) p (widN n ps p)))] = some (.lst (dRows (rowsOf n ps p (widN n ps p) (widN n ps p)))) :=
        v1e (v1e (xc rfl ⟨rfl, rfl⟩ rfl (F_walkedO (mm := (openOf ps).length + 1) hn (Nat.le_refl _) (by omega))) rfl) rfl
      have hb : v1 slD (v1 inlO (xCall 2 F_beyond (rV (v1 slD (v1 inlO (xMeth 1 F_size 0 rNil))) (rV (v2 fIx (vVar 3) (vC (.int 2))) rNil)))) [some (Sl.net md (n : Int) (dPs ps)), some (.val (.int (p : Int))), some (.val (.lst (dOs (openOf ps)))), some (.val (spD n (openOf ps) p (widN n ps p)))] = some (.lst (dNs (setOf n ps p (widN n ps p)))) :=
        v1e (v1e (xc rfl ⟨rfl, rfl⟩ rfl (F_byd hn.1 (by omega) (spSteps_len hn))) rfl) rfl
      unfold vTup
      rw [show (aCons (v2 fIx (vVar 3) (vC (.int 0))) (aCons (v1 slD (v1 inlO (xCall 4 F_walked (rV (vVar 2) (rV (v2 fIx (vVar 3) (vC (.int 1))) (rV (vVar 1) (rV (v2 fIx (vVar 3) (vC (.int 0))) rNil))))))) (aCons (v1 slD (v1 inlO (xCall 2 F_beyond (rV (v1 slD (v1 inlO (xMeth 1 F_size 0 rNil))) (rV (v2 fIx (vVar 3) (vC (.int 2))) rNil))))) aNil))) _ = some [.int (widN n ps p : Int), .lst (dRows (rowsOf n ps p (widN n ps p) (widN n ps p))), .lst (dNs (setOf n ps p (widN n ps p)))] from by
        unfold aCons
        refine Option.bind_eq_some_iff.mpr ⟨_, rfl, ?_⟩
        refine Option.bind_eq_some_iff.mpr ⟨_, Option.bind_eq_some_iff.mpr ⟨_, hw, Option.bind_eq_some_iff.mpr ⟨_, Option.bind_eq_some_iff.mpr ⟨_, hb, rfl⟩, rfl⟩⟩, rfl⟩]
      rfl
    · cases h'
  · cases h

/-! ### what the laws ask of it -/
theorem lnk_chain {ps : List P3} {v : Nat} : ∀ {row : List Nat} {u : Nat}, lnk (openOf ps) u row v → chain ps u row = some v ∧ ∀ k ∈ row, k < ps.length
  | [], u, h => ⟨congrArg some h, fun k hk => (nomatch hk)⟩
  | k :: ks, u, h => by
    obtain ⟨e, he, e1, e2, e3⟩ := h
    obtain ⟨k', h1, h2, rfl⟩ := openOf_mem.mp he
    simp only at e1 e2 e3
    subst e1
    obtain ⟨q1, q2⟩ := lnk_chain e3
    refine ⟨?_, fun a ha => ?_⟩
    · unfold chain
      rw [if_pos ⟨h2, e2⟩]
      exact q1
    · rcases List.mem_cons.mp ha with rfl | ha
      · exact h1
      · exact q2 a ha
structure RowsOk (ps : List P3) (p m : Nat) (rows : List (List Nat)) : Prop where
  len : rows.length = m
  way : ∀ row ∈ rows, IsWay ps p row
  nd : rows.flatten.Nodup
theorem rows_ok {n : Nat} {ps : List P3} {p m mm : Nat} (hn : okNet n ps) (h : m ≤ spN n ps p mm) : RowsOk ps p m (rowsOf n ps p m (spN n ps p mm)) := by
  obtain ⟨_, w, l⟩ := walkedOf_ok (m := m) (edOk_open hn) h (spSt_good (p := p) (m := mm) hn).f
  refine ⟨l, fun row hr => ?_, w.nd⟩
  obtain ⟨a, b⟩ := w.ln row hr
  obtain ⟨c, d⟩ := lnk_chain a
  exact ⟨c, b, d⟩
theorem RowsOk.flat {ps : List P3} {p m : Nat} {rows : List (List Nat)} (h : RowsOk ps p m rows) : rows.flatten.length ≤ ps.length := nodup_lt_len h.nd fun k hk => by
  obtain ⟨row, h1, h2⟩ := List.mem_flatten.mp hk
  exact (h.way row h1).lt k h2
theorem into_cut (ps : List P3) (S : List Nat) : (lawInto ps S).length = cut (openOf ps) S := by
  have := congrArg List.length (lawInto_o ps S)
  rw [List.length_map, dNs_len] at this
  exact this.symm
instance : Cd (List Nat) where
  enc := fun l => .lst (dNs l)
  dec := fun d => match d with
    | .lst ds => decs ds
    | _ => none
  de := fun x => decs_dNs x
  ed := fun d x h => by
    split at h
    · rw [dNs_some h]
    · cases h
theorem decs_dRows (rows : List (List Nat)) : decs (dRows rows) = some rows := decs_enc rows
theorem dRows_some {ds : List D} {rows : List (List Nat)} (h : decs ds = some rows) : ds = dRows rows := decs_some h
def F_law_narrow : FN
  | [.val (.lst es), .val (.int s), .val (.lst ds), .val (.int m)] => (decs es : Option (List Nat)).bind fun S => (decs ds : Option (List P3)).bind fun ps =>
      if (∀ v ∈ S, (v : Int) < s) ∧ S.Pairwise (· < ·) ∧ S ≠ [] ∧ 0 ∉ S ∧ S.length ≤ 4000 ∧ ps.length ≤ 900 then some (.inl (.val (.bl (decide (((lawInto ps S).length : Int) < m))))) else none
  | _ => none
theorem F_lawNarrow {S : List Nat} {s : Nat} {ps : List P3} {m : Int} (G : GoodSet s S) (h1 : S ≠ []) (h2 : S.length ≤ 4000) (h3 : ps.length ≤ 900) : F_law_narrow [.val (.lst (dNs S)), .val (.int (s : Int)), .val (.lst (dPs ps)), .val (.int m)] = some (.inl (.val (.bl (decide (((lawInto ps S).length : Int) < m))))) := by
  show (decs (dNs S)).bind _ = _
  rw [decs_dNs, Option.bind_some, decs_dPs, Option.bind_some]
  exact ite_some ⟨fun v hv => by have := G.lt v hv; omega, G.nd, h1, G.no0, h2, h3⟩
/-- _law_narrow: 0 found 1 size 2 pipes 3 many -/
def t_law_narrow : VT := (seqT (ifT (bOr (bNot (bV (v1 slD (v1 inlO (xCall 2 F_law_rising (rV (vVar 0) (rV (vVar 1) rNil))))))) (bOr (bV (v2 fEq (v1 fLenL (lVar 0)) (vC (.int 0)))) (bV (v2 (fIn false) (vC (.int 0)) (lVar 0))))) (seqT (retV (vC (.bl false))) skipT) skipT) (seqT (retV (v2 fLt (v1 fLenL (v1 slL (v1 inlO (xCall 2 F_law_into (rV (vVar 2) (rV (vVar 0) rNil)))))) (vVar 3))) skipT))
theorem lenNs {i : Nat} {Γ : En} {ns : List Nat} (h : lVar i Γ = some (dNs ns)) : v1 fLenL (lVar i) Γ = some (dInt ns.length) := v1e h (by show some (D.int ((dNs ns).length : Int)) = _; rw [dNs_len]; rfl)
theorem v_law_narrow : ∀ ss r, ss.length = 4 → F_law_narrow ss = some r → t_law_narrow (postP r) (En0 ss 4) ∧ ∃ s, r = .inl s := by
  intro ss r hl h
  unfold F_law_narrow at h
  split at h
  · rename_i es s ds m
    obtain ⟨S, e1, h1⟩ := Option.bind_eq_some_iff.mp h
    obtain ⟨ps, e2, h2⟩ := Option.bind_eq_some_iff.mp h1
    clear h h1
    split at h2
    · rename_i hc
      have h4 := Option.some.inj h2
      clear h2
      subst h4
      cases dNs_some e1
      cases dPs_some e2
      obtain ⟨c1, c2, c3, c4, c5, c6⟩ := hc
      refine ⟨?_, _, rfl⟩
      have hri : F_law_rising [.val (.lst (dNs S)), .val (.int s)] = some (.inl (.val (.bl true))) := by
        show (decs (dNs S)).bind _ = _
        rw [decs_dNs, Option.bind_some]
        exact ite_some ⟨c1, c2, c5⟩
      refine if_f (dec_f (p := (¬ True) ∨ (S.length = 0 ∨ 0 ∈ S)) (fun z => ?_) (bOr_d (bNot_d (bVe (v1e (v1e (xc rfl ⟨rfl, rfl⟩ rfl hri) rfl) rfl))) fun _ => bOr_d (bVe (eqE (b := 0) (lenNs rfl) rfl)) fun _ => bVe (inE (n := 0) rfl rfl))) ?_
      · rcases z with z | z | z
        · exact z trivial
        · exact c3 (List.length_eq_zero_iff.mp z)
        · exact c4 z
      · refine ⟨_, v2e (v1e (x := dNs (lawInto ps S)) (y := dInt (lawInto ps S).length) (v1e (v1e (xc rfl ⟨rfl, rfl⟩ rfl (F_into (ps := ps) (ns := S) (by omega))) rfl) rfl) (by show some (D.int ((dNs (lawInto ps S)).length : Int)) = _; rw [dNs_len]; rfl)) rfl rfl, rfl⟩
    · cases h2
  · cases h
def F_law_ways_apart : FN
  | [.val (.lst fs), .val (.lst ds), .val (.int p), .val (.int m)] => (decs fs : Option (List (List Nat))).bind fun rows => (decs ds : Option (List P3)).bind fun ps =>
      if (rows.length : Int) = m ∧ 0 ≤ p ∧ (∀ row ∈ rows, chain ps 0 row = some p.toNat ∧ row.Nodup ∧ ∀ k ∈ row, k < ps.length) ∧ rows.flatten.Nodup ∧ ps.length ≤ 4000 then some (.inl (.val (.bl true))) else none
  | _ => none
theorem F_waysApart {rows : List (List Nat)} {ps : List P3} {p m : Nat} (R : RowsOk ps p m rows) (h : ps.length ≤ 4000) : F_law_ways_apart [.val (.lst (dRows rows)), .val (.lst (dPs ps)), .val (.int (p : Int)), .val (.int (m : Int))] = some (.inl (.val (.bl true))) := by
  show (decs (dRows rows)).bind _ = _
  rw [decs_dRows, Option.bind_some, decs_dPs, Option.bind_some]
  exact ite_some ⟨by rw [R.len], Int.natCast_nonneg p, fun row hr => ⟨(R.way row hr).ch, (R.way row hr).nd, (R.way row hr).lt⟩, R.nd, h⟩
/-- _law_ways_apart: 0 found 1 pipes 2 place 3 many 4 used 5 one -/
def t_law_ways_apart : VT := (seqT (ifT (bOr (bNot (bV (v1 (fIsi "list") (vVar 0)))) (bV (v2 fNe (v1 fLenL (lVar 0)) (vVar 3)))) (seqT (retV (vC (.bl false))) skipT) skipT) (seqT (asgV 4 (v1 slD (oLst aNil))) (seqT (forT (v1 dL (vVar 0)) (gN 5) (seqT (ifT (bNot (bV (v1 slD (v1 inlO (xCall 3 F_law_is_way (rV (vVar 5) (rV (vVar 1) (rV (vVar 2) rNil)))))))) (seqT (retV (vC (.bl false))) skipT) skipT) (seqT (asgV 4 (v1 slD (v2 fCat (lVar 4) (lVar 5)))) skipT))) (seqT (retV (v2 fEq (v1 fLenSet (lVar 4)) (v1 fLenL (lVar 4)))) skipT))))
theorem v_law_ways_apart : ∀ ss r, ss.length = 4 → F_law_ways_apart ss = some r → t_law_ways_apart (postP r) (En0 ss 6) ∧ ∃ s, r = .inl s := by
  intro ss r hl h
  unfold F_law_ways_apart at h
  split at h
  · rename_i fs ds p m
    obtain ⟨rows, e1, h1⟩ := Option.bind_eq_some_iff.mp h
    obtain ⟨ps, e2, h2⟩ := Option.bind_eq_some_iff.mp h1
    clear h h1
    split at h2
    · rename_i hc
      have h4 := Option.some.inj h2
      clear h2
      subst h4
      cases dRows_some e1
      cases dPs_some e2
      obtain ⟨c1, c2, c3, c4, c5⟩ := hc
      obtain ⟨p, rfl⟩ := Int.eq_ofNat_of_zero_le c2
      rw [Int.toNat_natCast] at c3
      have hway : ∀ row ∈ rows, IsWay ps p row := fun row hr => ⟨(c3 row hr).1, (c3 row hr).2.1, (c3 row hr).2.2⟩
      have hfl : rows.flatten.length ≤ ps.length := RowsOk.flat (m := rows.length) ⟨rfl, hway, c4⟩
      refine ⟨?_, _, rfl⟩
      refine if_f (dec_f (p := (¬ True) ∨ False) (by simp) (bOr_d (bNot_d (bVe (v1e rfl isi_list))) fun _ => bVe ?_)) ?_
      · refine v2e (x := dInt rows.length) (y := .int m) (v1e (x := dRows rows) rfl (by show some (D.int ((dRows rows).length : Int)) = _; unfold dRows; rw [List.length_map]; rfl)) rfl ?_
        rw [← c1]
        simp [fNe, fEq, notD, dInt]
      refine ⟨_, rfl, ?_⟩
      refine ⟨dRows rows, rfl, ?_⟩
      refine loopT_inv (enc := fun r => D.lst (dNs r)) (fun rest Γ => ∃ (done : List Nat) (v5 : Option Sl), (∀ row ∈ rest, row ∈ rows) ∧ done ++ rest.flatten = rows.flatten ∧ Γ = [some (.val (.lst (dRows rows))), some (.val (.lst (dPs ps))), some (.val (.int (p : Int))), some (.val (.int m)), some (.val (.lst (dNs done))), v5]) ?_ ?_ rows _ ⟨[], none, fun _ h => h, rfl, rfl⟩
      · rintro row rest Γ kk ⟨done, v5, hr, hd, rfl⟩ hk
        refine ⟨_, rfl, ?_⟩
        refine if_f (dec_f (p := ¬ True) (by simp) (bNot_d (bVe (v1e (v1e (xc rfl ⟨rfl, rfl⟩ rfl (F_isWay (hway row (hr row (by simp))) c5)) rfl) rfl)))) ?_
        rw [List.flatten_cons] at hd
        have hlen : done.length + row.length ≤ ps.length := by
          have := congrArg List.length hd
          simp only [List.length_append] at this
          omega
        refine ⟨.lst (dNs (done ++ row)), v1e (v2e (x := dNs done) (y := dNs row) (z := .own .loc (dNs (done ++ row))) rfl rfl ?_) rfl, ?_⟩
        · unfold fCat
          rw [if_pos (decide_eq_true (by rw [dNs_len, dNs_len]; omega))]
          unfold dNs
          rw [List.map_append]
        · exact hk _ ⟨done ++ row, _, fun a ha => hr a (List.mem_cons_of_mem _ ha), by rw [← hd]; simp, rfl⟩
      · rintro Γ ⟨done, v5, _, hd, rfl⟩
        have hd : done = rows.flatten := by simpa using hd
        subst hd
        refine ⟨.bl true, v2e (v1e (x := dNs rows.flatten) rfl (fLenSet_ns c4 (by omega))) (lenNs rfl) ?_, rfl⟩
        simp [fEq, dInt]
    · cases h2
  · cases h
end Z

set_option maxRecDepth 100000
namespace Z
open PySem PySem.Spec PyProof.Rows L2

/-! ### the sixth law -/
theorem spN_min {n p m : Nat} {ps : List P3} (hn : okNet n ps) (h0 : p ≠ 0) (hp : p < n) : spN n ps p m = min m (widN n ps p) := spR_min (edOk_open hn) h0 hp
theorem set_good {n p r : Nat} {ps : List P3} : GoodSet n (setOf n ps p r) := byd_good
theorem good_len {n : Nat} {S : List Nat} (h : GoodSet n S) : S.length ≤ n := nodup_lt_len h.nodup h.lt
theorem set_cut {n p m : Nat} {ps : List P3} (hn : okNet n ps) (h0 : p ≠ 0) (hp : p < n) (h : spN n ps p m < m) : p ∈ setOf n ps p (spN n ps p m) ∧ (lawInto ps (setOf n ps p (spN n ps p m))).length = spN n ps p m := by
  obtain ⟨q1, q2, q3⟩ := spR_spec (size := n) (all := openOf ps) (place := p) (many := m)
  obtain ⟨a, b⟩ := spread_cut (edOk_open hn) h0 hp q2 (q3 h)
  exact ⟨a, by rw [into_cut]; exact b⟩
theorem str_nn : decide (("narrow" : Str) = "narrow") = true := by decide +kernel
theorem str_ww : decide (("ways" : Str) = "ways") = true := by decide +kernel
theorem str_wn : decide (("ways" : Str) = "narrow") = false := by decide +kernel
theorem str_nw : decide (("narrow" : Str) = "ways") = false := by decide +kernel
theorem fEq_nn : fEq (.str "narrow") (.str "narrow") = some (.bl true) := congrArg (fun b => some (D.bl b)) str_nn
theorem fEq_ww : fEq (.str "ways") (.str "ways") = some (.bl true) := congrArg (fun b => some (D.bl b)) str_ww
theorem fEq_wn : fEq (.str "ways") (.str "narrow") = some (.bl false) := congrArg (fun b => some (D.bl b)) str_wn
theorem fEq_nw : fEq (.str "narrow") (.str "ways") = some (.bl false) := congrArg (fun b => some (D.bl b)) str_nw
def F_law_no_place_k06 : FN
  | [.net _ s ds, .val (.int p), .val (.int _)] => (unNet s ds).bind fun x => if p < 0 ∨ (x.1 : Int) ≤ p then some (.inl (.val (.bl true))) else none
  | _ => none
theorem F_noPlace06 {md : Md} {s : Nat} {ps : List P3} {p m : Int} (h : okNet s ps) (hp : p < 0 ∨ (s : Int) ≤ p) : F_law_no_place_k06 [.net md (s : Int) (dPs ps), .val (.int p), .val (.int m)] = some (.inl (.val (.bl true))) := by
  show (unNet _ _).bind _ = _
  rw [unNet_of h]
  exact ite_some hp
/-- _law_no_place: 0 net 1 place 2 many 3 refused -/
def t_law_no_place_k06 : VT := (seqT (asgV 3 (vC (.bl false))) (seqT (tryT (ctL [.place]) (seqT (exprX (xCall 3 F_ways (rS 0 (rV (vVar 1) (rV (vVar 2) rNil))))) skipT) (seqT (asgV 3 (vC (.bl true))) skipT)) (seqT (retV (vVar 3)) skipT)))
theorem v_law_no_place_k06 : ∀ ss r, ss.length = 3 → F_law_no_place_k06 ss = some r → t_law_no_place_k06 (postP r) (En0 ss 4) ∧ ∃ s, r = .inl s := by
  intro ss r hl h
  unfold F_law_no_place_k06 at h
  split at h
  · rename_i md s ds p m
    obtain ⟨x, e1, h1⟩ := Option.bind_eq_some_iff.mp h
    clear h
    split at h1
    · rename_i hc
      have h2 := Option.some.inj h1
      clear h1
      subst h2
      obtain ⟨rfl, rfl, hn⟩ := unNet_some e1
      refine ⟨?_, _, rfl⟩
      refine ⟨_, rfl, ?_⟩
      refine ⟨.inr .place, xc rfl ⟨rfl, rfl⟩ rfl (F_ways_no hn hc), ?_⟩
      exact ⟨_, rfl, _, rfl, rfl⟩
    · cases h1
  · cases h
def F_law_right_k06 : FN
  | [.net _ s ds, .val (.int s'), .val (.lst ds'), .val (.int p), .val (.int m)] => (unNet s ds).bind fun x => (decs ds' : Option (List P3)).bind fun ps' => if s' = s ∧ ps' = x.2 ∧ 0 < p ∧ p < s ∧ 0 ≤ m ∧ m ≤ 1000 then some (.inl (.val (.bl true))) else none
  | _ => none
theorem F_right06 {md : Md} {s p m : Nat} {ps : List P3} (h : okNet s ps) (h0 : p ≠ 0) (hp : p < s) (hm : m ≤ 1000) : F_law_right_k06 [.net md (s : Int) (dPs ps), .val (.int (s : Int)), .val (.lst (dPs ps)), .val (.int (p : Int)), .val (.int (m : Int))] = some (.inl (.val (.bl true))) := by
  show (unNet _ _).bind _ = _
  rw [unNet_of h, Option.bind_some, decs_dPs, Option.bind_some]
  exact ite_some ⟨rfl, rfl, by omega, by omega, by omega, by omega⟩
/-- _law_right: 0 net 1 size 2 pipes 3 place 4 many 5 found -/
def t_law_right_k06 : VT := (seqT (asgV 5 (v1 slD (v1 inlO (xCall 3 F_ways (rS 0 (rV (vVar 3) (rV (vVar 4) rNil))))))) (seqT (ifT (bOr (bNot (bV (v1 (fIsi "tuple") (vVar 5)))) (bOr (bV (v2 fNe (v1 fLen (vVar 5)) (vC (.int 2)))) (bNot (bV (v1 (fIsi "str") (v2 fIx (vVar 5) (vC (.int 0)))))))) (seqT (retV (vC (.bl false))) skipT) skipT) (seqT (ifT (bV (v2 fEq (v2 fIx (vVar 5) (vC (.int 0))) (vC (.str "narrow")))) (seqT (retV (vAnd (v1 slD (v1 inlO (xCall 4 F_law_narrow (rV (v2 fIx (vVar 5) (vC (.int 1))) (rV (vVar 1) (rV (vVar 2) (rV (vVar 4) rNil))))))) (v2 (fIn false) (vVar 3) (v1 dL (v2 fIx (vVar 5) (vC (.int 1))))))) skipT) skipT) (seqT (retV (vAnd (v2 fEq (v2 fIx (vVar 5) (vC (.int 0))) (vC (.str "ways"))) (v1 slD (v1 inlO (xCall 4 F_law_ways_apart (rV (v2 fIx (vVar 5) (vC (.int 1))) (rV (vVar 2) (rV (vVar 3) (rV (vVar 4) rNil))))))))) skipT))))
theorem v_law_right_k06 : ∀ ss r, ss.length = 5 → F_law_right_k06 ss = some r → t_law_right_k06 (postP r) (En0 ss 6) ∧ ∃ s, r = .inl s := by
  intro ss r hl h
  unfold F_law_right_k06 at h
  split at h
  · rename_i md s ds s' ds' p m
    obtain ⟨x, e1, h1⟩ := Option.bind_eq_some_iff.mp h
    obtain ⟨ps', e2, h2⟩ := Option.bind_eq_some_iff.mp h1
    clear h h1
    split at h2
    · rename_i hc
      have h4 := Option.some.inj h2
      clear h2
      subst h4
      obtain ⟨rfl, rfl, hn⟩ := unNet_some e1
      cases dPs_some e2
      clear e1 e2
      obtain ⟨rfl, rfl, c1, c2, c3, c4⟩ := hc
      obtain ⟨n, ps⟩ := x
      simp only at hn c2 ⊢
      obtain ⟨p, rfl⟩ := Int.eq_ofNat_of_zero_le (show 0 ≤ p by omega)
      obtain ⟨m, rfl⟩ := Int.eq_ofNat_of_zero_le c3
      have h0 : p ≠ 0 := by omega
      have hp : p < n := by omega
      have hn1 := hn.2.1
      have hn2 := hn.2.2.2
      refine ⟨?_, _, rfl⟩
      refine ⟨waysD n ps p m, v1e (v1e (xc rfl ⟨rfl, rfl⟩ rfl (F_ways_yes hn h0 hp (by omega))) rfl) rfl, ?_⟩
      by_cases d : spN n ps p m < m
      · have eD : waysD n ps p m = .tup [.str "narrow", .lst (dNs (setOf n ps p (spN n ps p m)))] := by unfold waysD; rw [if_pos d]
        rw [eD]
        obtain ⟨s1, s2⟩ := set_cut hn h0 hp d
        have s3 := good_len (set_good (n := n) (p := p) (r := spN n ps p m) (ps := ps))
        refine if_f (dec_f (p := (¬ True) ∨ (False ∨ ¬ True)) (by simp) (bOr_d (bNot_d (bVe (v1e rfl isi_tup))) fun _ => bOr_d (bVe (v2e (x := .int 2) rfl rfl rfl)) fun _ => bNot_d (bVe (v1e (x := .str "narrow") rfl isi_str)))) ?_
        refine if_t (bVe (v2e (x := .str "narrow") rfl rfl fEq_nn)) ?_
        refine ⟨.bl true, vAnd_t (v1e (v1e (xc rfl ⟨rfl, rfl⟩ rfl (F_lawNarrow set_good (by intro z; rw [z] at s1; cases s1) (by omega) (by omega))) rfl) ?_) ?_, rfl⟩
        · show some (D.bl (decide (((lawInto ps (setOf n ps p (spN n ps p m))).length : Int) < (m : Int)))) = _
          rw [s2, decide_eq_true (by omega)]
        · have := inE (n := p) (ns := setOf n ps p (spN n ps p m)) (Γ := [some (.net md (n : Int) (dPs ps)), some (.val (.int (n : Int))), some (.val (.lst (dPs ps))), some (.val (.int (p : Int))), some (.val (.int (m : Int))), some (.val (.tup [.str "narrow", .lst (dNs (setOf n ps p (spN n ps p m)))]))]) (f := vVar 3) (h := v1 dL (v2 fIx (vVar 5) (vC (.int 1)))) rfl rfl
          rw [decide_eq_true s1] at this
          exact this
      · have eD : waysD n ps p m = .tup [.str "ways", .lst (dRows (rowsOf n ps p m (spN n ps p m)))] := by unfold waysD; rw [if_neg d]
        rw [eD]
        refine if_f (dec_f (p := (¬ True) ∨ (False ∨ ¬ True)) (by simp) (bOr_d (bNot_d (bVe (v1e rfl isi_tup))) fun _ => bOr_d (bVe (v2e (x := .int 2) rfl rfl rfl)) fun _ => bNot_d (bVe (v1e (x := .str "ways") rfl isi_str)))) ?_
        refine if_f (bVe (v2e (x := .str "ways") rfl rfl fEq_wn)) ?_
        exact ⟨.bl true, vAnd_t (v2e (x := .str "ways") rfl rfl fEq_ww) (v1e (v1e (xc rfl ⟨rfl, rfl⟩ rfl (F_waysApart (rows_ok hn (by omega)) (by omega))) rfl) rfl), rfl⟩
    · cases h2
  · cases h
theorem okNet_by {ns : List Int} {first many n : Nat} (h1 : 1 ≤ n) (h2 : n ≤ 12) (h3 : many ≤ 60) : okNet n (pipesBy ns first many n) := ⟨h1, h2, okPs_iff.mpr pipesBy_ok, Nat.le_trans pipesBy_len h3⟩
theorem fMax_nat (a b : Nat) : fMax (dInt a) (dInt b) = some (dInt (max a b)) := by
  show some (D.int (if (b : Int) > (a : Int) then (b : Int) else (a : Int))) = some (D.int ((max a b : Nat) : Int))
  refine congrArg (fun i => some (D.int i)) ?_
  split <;> omega
theorem fMin_nat (a b : Nat) : fMin (dInt a) (dInt b) = some (dInt (min a b)) := by
  show some (D.int (if (b : Int) < (a : Int) then (b : Int) else (a : Int))) = some (D.int ((min a b : Nat) : Int))
  refine congrArg (fun i => some (D.int i)) ?_
  split <;> omega
/-- 1 + cell % (size - 1) -/
def placeBy (c : Int) (n : Nat) : Nat := 1 + (c % ((n : Int) - 1)).toNat
theorem placeBy_ok {c : Int} {n : Nat} (h : 2 ≤ n) : placeBy c n ≠ 0 ∧ placeBy c n < n := by
  unfold placeBy
  have a1 : 0 ≤ c % ((n : Int) - 1) := Int.emod_nonneg _ (by omega)
  have a2 : c % ((n : Int) - 1) < (n : Int) - 1 := Int.emod_lt_of_pos _ (by omega)
  omega
theorem placeE {Γ : En} {f h : VF} {c : Int} {n : Nat} (h2 : 2 ≤ n) (h1 : f Γ = some (.int c)) (hn : h Γ = some (.int (n : Int))) : v2 fAdd (vC (.int 1)) (v2 fMod f (v2 fSub h (vC (.int 1)))) Γ = some (dInt (placeBy c n)) := by
  refine v2e rfl (v2e h1 (v2e (z := .int ((n : Int) - 1)) hn rfl rfl) (fMod_pos (by omega))) ?_
  show some (D.int (1 + c % ((n : Int) - 1))) = some (D.int ((placeBy c n : Nat) : Int))
  unfold placeBy
  have a1 : 0 ≤ c % ((n : Int) - 1) := Int.emod_nonneg _ (by omega)
  refine congrArg (fun i => some (D.int i)) ?_
  omega
theorem cellE {i : Nat} {Γ : En} {ns : List Int} {k : Nat} (h : vVar i Γ = some (.scr ns)) : v1 slD (v1 inlO (xCall 2 F_law_cell_at (rV (vVar i) (rV (vC (.int (k : Int))) rNil)))) Γ = some (.int (cellAt ns k)) := by
  refine v1e (v1e (xc (rVe h (rVe rfl rfl)) ⟨rfl, rfl⟩ rfl F_cell) rfl) rfl
def F_law_k06 : FN
  | [.val (.scr _)] => some (.inl (.val (.bl true)))
  | _ => none
theorem F_law_k06_t (ns : List Int) (_ : ns.length ≤ 63) : F_law_k06 [.val (.scr ns)] = some (.inl (.val (.bl true))) := rfl
/-- law: 0 script 1 size 2 pipes 3 net 4 place 5 many -/
def t_law_k06 : VT := (seqT (asgV 1 (v2 fMax (vC (.int 2)) (v1 slD (v1 inlO (xCall 2 F_law_size_of (rV (vVar 0) (rV (vC (.int 7)) rNil))))))) (seqT (asgO 2 (v1 inlO (xCall 4 F_law_pipes_by (rV (vVar 0) (rV (vC (.int 6)) (rV (v1 slD (v1 inlO (xCall 2 F_law_many_of (rV (vVar 0) (rV (vC (.int 14)) rNil))))) (rV (vVar 1) rNil))))))) (seqT (asgO 3 (v1 inlO (xCall 2 F_law_net_by (rV (vVar 1) (rS 2 rNil))))) (seqT (asgV 4 (v2 fAdd (vC (.int 1)) (v2 fMod (v1 slD (v1 inlO (xCall 2 F_law_cell_at (rV (vVar 0) (rV (vC (.int 2)) rNil))))) (v2 fSub (vVar 1) (vC (.int 1)))))) (seqT (asgV 5 (v2 fMod (v1 slD (v1 inlO (xCall 2 F_law_cell_at (rV (vVar 0) (rV (vC (.int 3)) rNil))))) (vC (.int 6)))) (seqT (ifT (bV (v2 fEq (v2 fMod (v2 fDiv (v1 slD (v1 inlO (xCall 2 F_law_cell_at (rV (vVar 0) (rV (vC (.int 3)) rNil))))) (vC (.int 6))) (vC (.int 8))) (vC (.int 1)))) (seqT (asgV 5 (v2 fMod (v2 fDiv (v1 slD (v1 inlO (xCall 2 F_law_cell_at (rV (vVar 0) (rV (vC (.int 3)) rNil))))) (vC (.int 48))) (vC (.int 9)))) skipT) skipT) (seqT (ifT (bFrz (bNot (bV (v1 slD (v1 inlO (xCall 5 F_law_right_k06 (rS 3 (rV (vVar 1) (rV (vVar 2) (rV (vVar 4) (rV (vVar 5) rNil))))))))))) (seqT (retV (vC (.bl false))) skipT) skipT) (seqT (cmT none 4 G_law_turn_one (rS 3 (rV (vVar 1) (rS 2 (rV (v1 slD (v1 inlO (xCall 2 F_law_cell_at (rV (vVar 0) (rV (vC (.int 4)) rNil))))) rNil))))) (seqT (ifT (bOr (bNot (bV (v1 slD (v1 inlO (xCall 3 F_law_no_place_k06 (rS 3 (rV (v1 fNeg (vC (.int 1))) (rV (vVar 5) rNil)))))))) (bNot (bV (v1 slD (v1 inlO (xCall 3 F_law_no_place_k06 (rS 3 (rV (vVar 1) (rV (vVar 5) rNil))))))))) (seqT (retV (vC (.bl false))) skipT) skipT) (seqT (retV (vFrz (v1 slD (v1 inlO (xCall 5 F_law_right_k06 (rS 3 (rV (vVar 1) (rV (vVar 2) (rV (vVar 4) (rV (vVar 5) rNil)))))))))) skipT))))))))))
theorem v_law_k06 : ∀ ss r, ss.length = 1 → F_law_k06 ss = some r → t_law_k06 (postP r) (En0 ss 6) ∧ ∃ s, r = .inl s := by
  intro ss r hl h
  unfold F_law_k06 at h
  split at h
  · rename_i ns
    have h1 := Option.some.inj h
    clear h
    subst h1
    refine ⟨?_, _, rfl⟩
    have hs := sizeOf_le (ns := ns) (k := 7) (by omega) (by omega)
    have hm := manyOf_le (ns := ns) (k := 14) (by omega)
    refine ⟨dInt (max 2 (sizeOf ns 7)), v2e rfl (v1e (v1e (xc rfl ⟨rfl, rfl⟩ rfl (F_sizeOf (k := 7) (by omega))) rfl) rfl) (fMax_nat 2 _), ?_⟩
    generalize hN : max 2 (sizeOf ns 7) = n
    have n2 : 2 ≤ n := by omega
    have n12 : n ≤ 12 := by omega
    have hn := okNet_by (ns := ns) (first := 6) (many := manyOf ns 14) (n := n) (by omega) n12 (by omega)
    generalize hps : pipesBy ns 6 (manyOf ns 14) n = ps at hn
    refine ⟨.own .loc (dPs ps), v1e (xc (rVe rfl (rVe rfl (rVe (v1e (v1e (xc rfl ⟨rfl, rfl⟩ rfl (F_manyOf (k := 14))) rfl) rfl) (rVe rfl rfl)))) ⟨rfl, rfl⟩ rfl (F_pipesBy (f := 6) (m := manyOf ns 14) (s := n) (by omega) (by omega))) (by rw [hps]; rfl), ?_⟩
    refine ⟨.net .loc (n : Int) (dPs ps), v1e (xc rfl ⟨rfl, rfl⟩ rfl (F_netBy rfl hn)) rfl, ?_⟩
    refine ⟨dInt (placeBy (cellAt ns 2) n), placeE n2 (cellE (k := 2) rfl) rfl, ?_⟩
    obtain ⟨p0, pn⟩ := placeBy_ok (c := cellAt ns 2) n2
    generalize placeBy (cellAt ns 2) n = p at p0 pn
    have c6 : 0 ≤ cellAt ns 3 % 6 := Int.emod_nonneg _ (by omega)
    have c6' : cellAt ns 3 % 6 < 6 := Int.emod_lt_of_pos _ (by omega)
    have c9 : 0 ≤ cellAt ns 3 / 48 % 9 := Int.emod_nonneg _ (by omega)
    have c9' : cellAt ns 3 / 48 % 9 < 9 := Int.emod_lt_of_pos _ (by omega)
    refine ⟨.int (cellAt ns 3 % 6), v2e (cellE (k := 3) rfl) rfl (fMod_pos (by omega)), ?_⟩
    obtain ⟨m, hm1, hm2⟩ : ∃ m : Nat, (m : Int) = (if cellAt ns 3 / 6 % 8 = 1 then cellAt ns 3 / 48 % 9 else cellAt ns 3 % 6) ∧ m ≤ 1000 := by
      refine ⟨(if cellAt ns 3 / 6 % 8 = 1 then cellAt ns 3 / 48 % 9 else cellAt ns 3 % 6).toNat, ?_, ?_⟩
      · split <;> omega
      · split <;> omega
    refine if_to (Γ' := [some (.val (.scr ns)), some (.val (.int (n : Int))), some (.own .loc (dPs ps)), some (.net .loc (n : Int) (dPs ps)), some (.val (dInt p)), some (.val (.int (m : Int)))]) (p := cellAt ns 3 / 6 % 8 = 1) (bVe (v2e (v2e (v2e (cellE (k := 3) rfl) rfl (fDiv_pos (by omega) (by omega))) rfl (fMod_pos (by omega))) rfl rfl)) (fun c Q hq => ?_) (fun c Q hq => ?_) ?_
    · rw [if_pos c] at hm1
      refine ⟨.int (m : Int), v2e (v2e (cellE (k := 3) rfl) rfl (fDiv_pos (by omega) (by omega))) rfl (by rw [fMod_pos (by omega), hm1]), hq⟩
    · rw [if_neg c] at hm1
      rw [hm1] at hq
      exact hq
    refine if_f (dec_f (p := ¬ True) (by simp) (bNot_d (bVe (v1e (v1e (xc rfl ⟨rfl, rfl⟩ rfl (F_right06 hn p0 pn hm2)) rfl) rfl)))) ?_
    have hn' := turnOne_ok (c := cellAt ns 4) hn
    refine ⟨_, _, _, _, rfl, ⟨rfl, rfl⟩, rfl, G_turnOne (c := cellAt ns 4) hn, ?_⟩
    refine if_f (dec_f (p := (¬ True) ∨ ¬ True) (by simp) (bOr_d (bNot_d (bVe (v1e (v1e (xc rfl ⟨rfl, rfl⟩ rfl (F_noPlace06 hn' (by omega))) rfl) rfl))) fun _ => bNot_d (bVe (v1e (v1e (xc rfl ⟨rfl, rfl⟩ rfl (F_noPlace06 (p := (n : Int)) hn' (by omega))) rfl) rfl)))) ?_
    exact ⟨.bl true, vFrzE (v1e (v1e (xc rfl ⟨rfl, rfl⟩ rfl (F_right06 hn' p0 pn hm2)) rfl) rfl) rfl, rfl⟩
  · cases h
end Z

set_option maxRecDepth 100000
namespace Z
open PySem PySem.Spec PyProof.Rows L2

/-! ### the seventh law -/
theorem wid_set {n p : Nat} {ps : List P3} (hn : okNet n ps) (h0 : p ≠ 0) (hp : p < n) : p ∈ setOf n ps p (widN n ps p) ∧ (lawInto ps (setOf n ps p (widN n ps p))).length = widN n ps p := by
  obtain ⟨a, b⟩ := wid_cut (edOk_open hn) h0 hp
  exact ⟨a, by rw [into_cut]; exact b⟩
theorem wid_min {n p : Nat} {ps : List P3} (hn : okNet n ps) (h0 : p ≠ 0) (hp : p < n) {S : List Nat} (G : GoodSet n S) (hS : p ∈ S) : widN n ps p ≤ (lawInto ps S).length := by
  rw [into_cut]
  exact wid_le (edOk_open hn) h0 hp G hS
theorem fNe_int {a b : Int} : fNe (.int a) (.int b) = some (.bl (decide (a ≠ b))) := by
  show some (D.bl (!decide (a = b))) = _
  simp
def F_law_no_place_k07 : FN
  | [.net _ s ds, .val (.int p)] => (unNet s ds).bind fun x => if p < 0 ∨ (x.1 : Int) ≤ p then some (.inl (.val (.bl true))) else none
  | _ => none
theorem F_noPlace07 {md : Md} {s : Nat} {ps : List P3} {p : Int} (h : okNet s ps) (hp : p < 0 ∨ (s : Int) ≤ p) : F_law_no_place_k07 [.net md (s : Int) (dPs ps), .val (.int p)] = some (.inl (.val (.bl true))) := by
  show (unNet _ _).bind _ = _
  rw [unNet_of h]
  exact ite_some hp
/-- _law_no_place: 0 net 1 place 2 refused -/
def t_law_no_place_k07 : VT := (seqT (asgV 2 (vC (.bl false))) (seqT (tryT (ctL [.place]) (seqT (exprX (xCall 2 F_widest (rS 0 (rV (vVar 1) rNil)))) skipT) (seqT (asgV 2 (vC (.bl true))) skipT)) (seqT (retV (vVar 2)) skipT)))
theorem v_law_no_place_k07 : ∀ ss r, ss.length = 2 → F_law_no_place_k07 ss = some r → t_law_no_place_k07 (postP r) (En0 ss 3) ∧ ∃ s, r = .inl s := by
  intro ss r hl h
  unfold F_law_no_place_k07 at h
  split at h
  · rename_i md s ds p
    obtain ⟨x, e1, h1⟩ := Option.bind_eq_some_iff.mp h
    clear h
    split at h1
    · rename_i hc
      have h2 := Option.some.inj h1
      clear h1
      subst h2
      obtain ⟨rfl, rfl, hn⟩ := unNet_some e1
      refine ⟨?_, _, rfl⟩
      refine ⟨_, rfl, ?_⟩
      refine ⟨.inr .place, xc rfl ⟨rfl, rfl⟩ rfl (F_widest_no hn hc), ?_⟩
      exact ⟨_, rfl, _, rfl, rfl⟩
    · cases h1
  · cases h
def F_law_right_k07 : FN
  | [.net _ s ds, .val (.int s'), .val (.lst ds'), .val (.int p)] => (unNet s ds).bind fun x => (decs ds' : Option (List P3)).bind fun ps' => if s' = s ∧ ps' = x.2 ∧ 0 < p ∧ p < s then some (.inl (.val (.bl true))) else none
  | _ => none
theorem F_right07 {md : Md} {s p : Nat} {ps : List P3} (h : okNet s ps) (h0 : p ≠ 0) (hp : p < s) : F_law_right_k07 [.net md (s : Int) (dPs ps), .val (.int (s : Int)), .val (.lst (dPs ps)), .val (.int (p : Int))] = some (.inl (.val (.bl true))) := by
  show (unNet _ _).bind _ = _
  rw [unNet_of h, Option.bind_some, decs_dPs, Option.bind_some]
  exact ite_some ⟨rfl, rfl, by omega, by omega⟩
/-- _law_right: 0 net 1 size 2 pipes 3 place 4 found -/
def t_law_right_k07 : VT := (seqT (asgV 4 (v1 slD (v1 inlO (xCall 2 F_widest (rS 0 (rV (vVar 3) rNil)))))) (seqT (ifT (bOr (bNot (bV (v1 (fIsi "tuple") (vVar 4)))) (bOr (bV (v2 fNe (v1 fLen (vVar 4)) (vC (.int 3)))) (bOr (bNot (bV (v1 slD (v1 inlO (xCall 1 F_law_whole (rV (v2 fIx (vVar 4) (vC (.int 0))) rNil)))))) (bV (v2 fLt (v2 fIx (vVar 4) (vC (.int 0))) (vC (.int 0))))))) (seqT (retV (vC (.bl false))) skipT) skipT) (seqT (ifT (bNot (bV (v1 slD (v1 inlO (xCall 4 F_law_ways_apart (rV (v2 fIx (vVar 4) (vC (.int 1))) (rV (vVar 2) (rV (vVar 3) (rV (v2 fIx (vVar 4) (vC (.int 0))) rNil))))))))) (seqT (retV (vC (.bl false))) skipT) skipT) (seqT (ifT (bOr (bNot (bV (v1 slD (v1 inlO (xCall 4 F_law_narrow (rV (v2 fIx (vVar 4) (vC (.int 2))) (rV (vVar 1) (rV (vVar 2) (rV (v2 fAdd (v2 fIx (vVar 4) (vC (.int 0))) (vC (.int 1))) rNil))))))))) (bV (v2 (fIn true) (vVar 3) (v1 dL (v2 fIx (vVar 4) (vC (.int 2))))))) (seqT (retV (vC (.bl false))) skipT) skipT) (seqT (ifT (bV (v2 fNe (v1 fLenL (v1 slL (v1 inlO (xCall 2 F_law_into (rV (vVar 2) (rV (v2 fIx (vVar 4) (vC (.int 2))) rNil)))))) (v2 fIx (vVar 4) (vC (.int 0))))) (seqT (retV (vC (.bl false))) skipT) skipT) (seqT (ifT (bAnd (bV (v2 fLt (v2 fIx (vVar 4) (vC (.int 0))) (vC (.int 8)))) (bV (v2 fNe (v2 fIx (v1 slD (v1 inlO (xCall 3 F_ways (rS 0 (rV (vVar 3) (rV (v2 fIx (vVar 4) (vC (.int 0))) rNil)))))) (vC (.int 0))) (vC (.str "ways"))))) (seqT (retV (vC (.bl false))) skipT) skipT) (seqT (retV (vOr (v2 fGt (v2 fIx (vVar 4) (vC (.int 0))) (vC (.int 7))) (v2 fEq (v2 fIx (v1 slD (v1 inlO (xCall 3 F_ways (rS 0 (rV (vVar 3) (rV (v2 fAdd (v2 fIx (vVar 4) (vC (.int 0))) (vC (.int 1))) rNil)))))) (vC (.int 0))) (vC (.str "narrow"))))) skipT)))))))
theorem v_law_right_k07 : ∀ ss r, ss.length = 4 → F_law_right_k07 ss = some r → t_law_right_k07 (postP r) (En0 ss 5) ∧ ∃ s, r = .inl s := by
  intro ss r hl h
  unfold F_law_right_k07 at h
  split at h
  · rename_i md s ds s' ds' p
    obtain ⟨x, e1, h1⟩ := Option.bind_eq_some_iff.mp h
    obtain ⟨ps', e2, h2⟩ := Option.bind_eq_some_iff.mp h1
    clear h h1
    split at h2
    · rename_i hc
      have h4 := Option.some.inj h2
      clear h2
      subst h4
      obtain ⟨rfl, rfl, hn⟩ := unNet_some e1
      cases dPs_some e2
      clear e1 e2
      obtain ⟨rfl, rfl, c1, c2⟩ := hc
      obtain ⟨n, ps⟩ := x
      simp only at hn c2 ⊢
      obtain ⟨p, rfl⟩ := Int.eq_ofNat_of_zero_le (show 0 ≤ p by omega)
      have h0 : p ≠ 0 := by omega
      have hp : p < n := by omega
      have hn1 := hn.2.1
      have hn2 := hn.2.2.2
      have h61 := widN_le (p := p) hn
      obtain ⟨s1, s2⟩ := wid_set hn h0 hp
      have s3 := good_len (set_good (n := n) (p := p) (r := widN n ps p) (ps := ps))
      have hrows := rows_ok (m := widN n ps p) (mm := (openOf ps).length + 1) hn (Nat.le_refl _)
      have hr' : RowsOk ps p (widN n ps p) (rowsOf n ps p (widN n ps p) (widN n ps p)) := hrows
      refine ⟨?_, _, rfl⟩
      refine ⟨widD n ps p, v1e (v1e (xc rfl ⟨rfl, rfl⟩ rfl (F_widest_yes hn h0 hp)) rfl) rfl, ?_⟩
      refine if_f (dec_f (p := (¬ True) ∨ (False ∨ ((¬ True) ∨ ((widN n ps p : Int) < 0)))) (by simp) (bOr_d (bNot_d (bVe (v1e rfl isi_tup))) fun _ => bOr_d (bVe (v2e (x := .int 3) rfl rfl rfl)) fun _ => bOr_d (bNot_d (bVe (v1e (v1e (xc rfl ⟨rfl, rfl⟩ rfl rfl) rfl) rfl))) fun _ => bVe (v2e (x := .int (widN n ps p : Int)) rfl rfl rfl))) ?_
      refine if_f (dec_f (p := ¬ True) (by simp) (bNot_d (bVe (v1e (v1e (xc rfl ⟨rfl, rfl⟩ rfl (F_waysApart hr' (by omega))) rfl) rfl)))) ?_
      refine if_f (dec_f (p := (¬ True) ∨ p ∉ setOf n ps p (widN n ps p)) (by simp [s1]) (bOr_d (bNot_d (bVe (v1e (v1e (xc (rVe rfl (rVe rfl (rVe rfl (rVe (v2e (x := .int (widN n ps p : Int)) (z := .int ((widN n ps p : Int) + 1)) rfl rfl rfl) rfl)))) ⟨rfl, rfl⟩ rfl (F_lawNarrow set_good (by intro z; rw [z] at s1; cases s1) (by omega) (by omega))) rfl) (by rw [s2, decide_eq_true (by omega)]; rfl)))) fun _ => bVe (notInE (n := p) (ns := setOf n ps p (widN n ps p)) rfl rfl))) ?_
      refine if_f (dec_f (p := (widN n ps p : Int) ≠ (widN n ps p : Int)) (by simp) (bVe (v2e (x := .int (widN n ps p : Int)) (y := .int (widN n ps p : Int)) (v1e (x := dNs (lawInto ps (setOf n ps p (widN n ps p)))) (v1e (v1e (xc rfl ⟨rfl, rfl⟩ rfl (F_into (ps := ps) (ns := setOf n ps p (widN n ps p)) (by omega))) rfl) rfl) (by show some (D.int ((dNs (lawInto ps (setOf n ps p (widN n ps p)))).length : Int)) = _; rw [dNs_len, s2])) rfl fNe_int))) ?_
      have w1 : waysD n ps p (widN n ps p) = .tup [.str "ways", .lst (dRows (rowsOf n ps p (widN n ps p) (spN n ps p (widN n ps p))))] := by
        unfold waysD
        rw [if_neg]
        rw [spN_min hn h0 hp]
        omega
      have w2 : waysD n ps p (widN n ps p + 1) = .tup [.str "narrow", .lst (dNs (setOf n ps p (spN n ps p (widN n ps p + 1))))] := by
        unfold waysD
        rw [if_pos]
        rw [spN_min hn h0 hp]
        omega
      refine if_f (dec_f (p := ((widN n ps p : Int) < 8) ∧ False) (by simp) (bAnd_d (bVe (v2e (x := .int (widN n ps p : Int)) rfl rfl rfl)) fun _ => bVe (v2e (v2e (x := waysD n ps p (widN n ps p)) (z := .str "ways") (v1e (v1e (xc rfl ⟨rfl, rfl⟩ rfl (F_ways_yes (m := widN n ps p) hn h0 hp (by omega))) rfl) rfl) rfl (by rw [w1]; rfl)) rfl (by unfold fNe; rw [fEq_ww]; rfl)))) ?_
      refine ⟨.bl true, ?_, rfl⟩
      by_cases c7 : (7 : Int) < (widN n ps p : Int)
      · exact vOr_t (v2e (x := .int (widN n ps p : Int)) (y := .int 7) rfl rfl (by show some (D.bl (decide ((7 : Int) < (widN n ps p : Int)))) = _; rw [decide_eq_true c7]))
      · refine vOr_f (v2e (x := .int (widN n ps p : Int)) (y := .int 7) rfl rfl (by show some (D.bl (decide ((7 : Int) < (widN n ps p : Int)))) = _; rw [decide_eq_false c7])) ?_
        exact v2e (v2e (x := waysD n ps p (widN n ps p + 1)) (z := .str "narrow") (v1e (v1e (xc (rSe rfl (rVe rfl (rVe (v2e (x := .int (widN n ps p : Int)) (z := .int ((widN n ps p + 1 : Nat) : Int)) rfl rfl rfl) rfl))) ⟨rfl, rfl⟩ rfl (F_ways_yes (m := widN n ps p + 1) hn h0 hp (by omega))) rfl) rfl) rfl (by rw [w2]; rfl)) rfl fEq_nn
    · cases h2
  · cases h
def F_law_k07 : FN
  | [.val (.scr _)] => some (.inl (.val (.bl true)))
  | _ => none
theorem F_law_k07_t (ns : List Int) (_ : ns.length ≤ 63) : F_law_k07 [.val (.scr ns)] = some (.inl (.val (.bl true))) := rfl
/-- law: 0 script 1 size 2 many 3 pipes 4 net 5 place -/
def t_law_k07 : VT := (seqT (asgV 1 (v2 fMax (vC (.int 2)) (v1 slD (v1 inlO (xCall 2 F_law_size_of (rV (vVar 0) (rV (vC (.int 7)) rNil))))))) (seqT (asgV 2 (v1 slD (v1 inlO (xCall 2 F_law_many_of (rV (vVar 0) (rV (vC (.int 14)) rNil)))))) (seqT (ifT (bV (v2 fEq (v2 fMod (v1 slD (v1 inlO (xCall 2 F_law_cell_at (rV (vVar 0) (rV (vC (.int 3)) rNil))))) (vC (.int 8))) (vC (.int 1)))) (seqT (asgV 1 (vC (.int 2))) (seqT (asgV 2 (v2 fMod (v2 fDiv (v1 slD (v1 inlO (xCall 2 F_law_cell_at (rV (vVar 0) (rV (vC (.int 3)) rNil))))) (vC (.int 8))) (vC (.int 56)))) skipT)) skipT) (seqT (asgO 3 (v1 inlO (xCall 4 F_law_pipes_by (rV (vVar 0) (rV (vC (.int 6)) (rV (vVar 2) (rV (vVar 1) rNil))))))) (seqT (asgO 4 (v1 inlO (xCall 2 F_law_net_by (rV (vVar 1) (rS 3 rNil))))) (seqT (asgV 5 (v2 fAdd (vC (.int 1)) (v2 fMod (v1 slD (v1 inlO (xCall 2 F_law_cell_at (rV (vVar 0) (rV (vC (.int 2)) rNil))))) (v2 fSub (vVar 1) (vC (.int 1)))))) (seqT (ifT (bFrz (bNot (bV (v1 slD (v1 inlO (xCall 4 F_law_right_k07 (rS 4 (rV (vVar 1) (rV (vVar 3) (rV (vVar 5) rNil)))))))))) (seqT (retV (vC (.bl false))) skipT) skipT) (seqT (cmT none 4 G_law_turn_one (rS 4 (rV (vVar 1) (rS 3 (rV (v1 slD (v1 inlO (xCall 2 F_law_cell_at (rV (vVar 0) (rV (vC (.int 4)) rNil))))) rNil))))) (seqT (ifT (bFrz (bNot (bV (v1 slD (v1 inlO (xCall 4 F_law_right_k07 (rS 4 (rV (vVar 1) (rV (vVar 3) (rV (vVar 5) rNil)))))))))) (seqT (retV (vC (.bl false))) skipT) skipT) (seqT (retV (vAnd (v1 slD (v1 inlO (xCall 2 F_law_no_place_k07 (rS 4 (rV (vVar 1) rNil))))) (v1 slD (v1 inlO (xCall 2 F_law_no_place_k07 (rS 4 (rV (v1 fNeg (vC (.int 1))) rNil))))))) skipT))))))))))
theorem v_law_k07 : ∀ ss r, ss.length = 1 → F_law_k07 ss = some r → t_law_k07 (postP r) (En0 ss 6) ∧ ∃ s, r = .inl s := by
  intro ss r hl h
  unfold F_law_k07 at h
  split at h
  · rename_i ns
    have h1 := Option.some.inj h
    clear h
    subst h1
    refine ⟨?_, _, rfl⟩
    have hs := sizeOf_le (ns := ns) (k := 7) (by omega) (by omega)
    have hm := manyOf_le (ns := ns) (k := 14) (by omega)
    refine ⟨dInt (max 2 (sizeOf ns 7)), v2e rfl (v1e (v1e (xc rfl ⟨rfl, rfl⟩ rfl (F_sizeOf (k := 7) (by omega))) rfl) rfl) (fMax_nat 2 _), ?_⟩
    refine ⟨_, v1e (v1e (xc rfl ⟨rfl, rfl⟩ rfl (F_manyOf (k := 14))) rfl) rfl, ?_⟩
    have c56 : 0 ≤ cellAt ns 3 / 8 % 56 := Int.emod_nonneg _ (by omega)
    have c56' : cellAt ns 3 / 8 % 56 < 56 := Int.emod_lt_of_pos _ (by omega)
    obtain ⟨n, hn0, n2, n12⟩ : ∃ n : Nat, n = (if cellAt ns 3 % 8 = 1 then 2 else max 2 (sizeOf ns 7)) ∧ 2 ≤ n ∧ n ≤ 12 := ⟨_, rfl, by split <;> omega, by split <;> omega⟩
    obtain ⟨m, hm0, hm55⟩ : ∃ m : Nat, m = (if cellAt ns 3 % 8 = 1 then (cellAt ns 3 / 8 % 56).toNat else manyOf ns 14) ∧ m ≤ 55 := ⟨_, rfl, by split <;> omega⟩
    refine if_to (Γ' := [some (.val (.scr ns)), some (.val (dInt n)), some (.val (dInt m)), none, none, none]) (p := cellAt ns 3 % 8 = 1) (bVe (v2e (v2e (cellE (k := 3) rfl) rfl (fMod_pos (by omega))) rfl rfl)) (fun c Q hq => ?_) (fun c Q hq => ?_) ?_
    · rw [if_pos c] at hn0 hm0
      subst hn0
      refine ⟨_, rfl, ?_⟩
      refine ⟨dInt m, v2e (v2e (cellE (k := 3) rfl) rfl (fDiv_pos (by omega) (by omega))) rfl (by rw [fMod_pos (by omega), hm0]; show some (D.int _) = some (D.int _); rw [Int.toNat_of_nonneg c56]), hq⟩
    · rw [if_neg c] at hn0 hm0
      subst hn0 hm0
      exact hq
    have hn := okNet_by (ns := ns) (first := 6) (many := m) (n := n) (by omega) n12 (by omega)
    generalize hps : pipesBy ns 6 m n = ps at hn
    refine ⟨.own .loc (dPs ps), v1e (xc rfl ⟨rfl, rfl⟩ rfl (F_pipesBy (f := 6) (m := m) (s := n) (by omega) (by omega))) (by rw [hps]; rfl), ?_⟩
    refine ⟨.net .loc (n : Int) (dPs ps), v1e (xc rfl ⟨rfl, rfl⟩ rfl (F_netBy rfl hn)) rfl, ?_⟩
    refine ⟨dInt (placeBy (cellAt ns 2) n), placeE n2 (cellE (k := 2) rfl) rfl, ?_⟩
    obtain ⟨p0, pn⟩ := placeBy_ok (c := cellAt ns 2) n2
    generalize placeBy (cellAt ns 2) n = p at p0 pn
    refine if_f (dec_f (p := ¬ True) (by simp) (bNot_d (bVe (v1e (v1e (xc rfl ⟨rfl, rfl⟩ rfl (F_right07 hn p0 pn)) rfl) rfl)))) ?_
    have hn' := turnOne_ok (c := cellAt ns 4) hn
    refine ⟨_, _, _, _, rfl, ⟨rfl, rfl⟩, rfl, G_turnOne (c := cellAt ns 4) hn, ?_⟩
    refine if_f (dec_f (p := ¬ True) (by simp) (bNot_d (bVe (v1e (v1e (xc rfl ⟨rfl, rfl⟩ rfl (F_right07 hn' p0 pn)) rfl) rfl)))) ?_
    exact ⟨.bl true, vAnd_t (v1e (v1e (xc rfl ⟨rfl, rfl⟩ rfl (F_noPlace07 (p := (n : Int)) hn' (by omega))) rfl) rfl) (v1e (v1e (xc rfl ⟨rfl, rfl⟩ rfl (F_noPlace07 hn' (by omega))) rfl) rfl), rfl⟩
  · cases h
end Z

set_option maxRecDepth 100000
namespace Z
open PySem PySem.Spec PyProof.Rows L2

/-! ### the twelfth law -/
theorem into_shut {ps : List P3} {k : Nat} (h : k < ps.length) (S : List Nat) : lawInto (turnAt ps k false) S = (lawInto ps S).filter fun j => decide (j ≠ k) := by
  unfold lawInto
  rw [lawOpen_shut h, List.filter_filter, List.filter_filter]
  refine List.filter_congr fun j _ => ?_
  rw [(pAt_turn1 h).1, (pAt_turn1 h).2, Bool.and_comm]
theorem filter_ne_len {k : Nat} : ∀ {l : List Nat}, l.Nodup → (l.filter fun j => decide (j ≠ k)).length + (if k ∈ l then 1 else 0) = l.length
  | [], _ => rfl
  | x :: l, h => by
    have h' := List.nodup_cons.mp h
    have ih := filter_ne_len (k := k) h'.2
    rw [List.filter_cons]
    by_cases c : x = k
    · subst c
      rw [if_neg h'.1] at ih
      rw [if_neg (by simp), if_pos (by simp)]
      simp only [List.length_cons]
      omega
    · rw [if_pos (decide_eq_true c)]
      have : (k ∈ x :: l) ↔ k ∈ l := by
        rw [List.mem_cons]
        exact ⟨fun z => z.elim (fun e => absurd e.symm c) id, .inr⟩
      simp only [List.length_cons, this]
      omega
theorem into_nd {ps : List P3} {S : List Nat} : (lawInto ps S).Nodup := (lawInto_lt).2.1.imp fun q => Nat.ne_of_lt q
theorem shut_len {ps : List P3} {k : Nat} (h : k < ps.length) (S : List Nat) : (lawInto (turnAt ps k false) S).length + (if k ∈ lawInto ps S then 1 else 0) = (lawInto ps S).length := by
  rw [into_shut h]
  exact filter_ne_len into_nd
/-- one pipe less: as many ways, or one less -/
theorem wid_shut {n p k : Nat} {ps : List P3} (hn : okNet n ps) (h0 : p ≠ 0) (hp : p < n) (hk : k < ps.length) :
    widN n (turnAt ps k false) p ≤ widN n ps p ∧ widN n ps p ≤ widN n (turnAt ps k false) p + 1 ∧ (k ∈ lawInto ps (setOf n ps p (widN n ps p)) → widN n (turnAt ps k false) p + 1 = widN n ps p) := by
  have hn' := turnAt_ok (o := false) hn hk
  obtain ⟨a1, a2⟩ := wid_set hn h0 hp
  obtain ⟨b1, b2⟩ := wid_set hn' h0 hp
  have c1 := wid_min hn' h0 hp set_good a1
  have c2 := wid_min hn h0 hp set_good b1
  have d1 := shut_len hk (setOf n ps p (widN n ps p))
  have d2 := shut_len hk (setOf n (turnAt ps k false) p (widN n (turnAt ps k false) p))
  refine ⟨by omega, ?_, fun z => ?_⟩
  · split at d2 <;> omega
  · rw [if_pos z] at d1
    split at d2 <;> omega
noncomputable def F_law_many : FN
  | [.net _ s ds, .val (.int p)] => (unNet s ds).bind fun x => if 0 < p ∧ p < s then some (.inl (.val (.int (widN x.1 x.2 p.toNat : Nat)))) else none
  | _ => none
theorem F_lawMany {md : Md} {s p : Nat} {ps : List P3} (h : okNet s ps) (h0 : p ≠ 0) (hp : p < s) : F_law_many [.net md (s : Int) (dPs ps), .val (.int (p : Int))] = some (.inl (.val (dInt (widN s ps p)))) := by
  show (unNet _ _).bind _ = _
  rw [unNet_of h]
  exact ite_some (show 0 < (p : Int) ∧ (p : Int) < (s : Int) by omega)
/-- _law_many: 0 net 1 place 2 found -/
def t_law_many : VT := (seqT (asgV 2 (v1 slD (v1 inlO (xCall 2 F_widest (rS 0 (rV (vVar 1) rNil)))))) (seqT (ifT (bOr (bNot (bV (v1 (fIsi "tuple") (vVar 2)))) (bOr (bV (v2 fNe (v1 fLen (vVar 2)) (vC (.int 3)))) (bNot (bV (v1 slD (v1 inlO (xCall 1 F_law_whole (rV (v2 fIx (vVar 2) (vC (.int 0))) rNil)))))))) (seqT (retV (v1 fNeg (vC (.int 1)))) skipT) skipT) (seqT (retV (v2 fIx (vVar 2) (vC (.int 0)))) skipT)))
theorem v_law_many : ∀ ss r, ss.length = 2 → F_law_many ss = some r → t_law_many (postP r) (En0 ss 3) ∧ ∃ s, r = .inl s := by
  intro ss r hl h
  unfold F_law_many at h
  split at h
  · rename_i md s ds p
    obtain ⟨x, e1, h1⟩ := Option.bind_eq_some_iff.mp h
    clear h
    split at h1
    · rename_i hc
      have h2 := Option.some.inj h1
      clear h1
      subst h2
      obtain ⟨rfl, rfl, hn⟩ := unNet_some e1
      obtain ⟨n, ps⟩ := x
      simp only at hn hc ⊢
      obtain ⟨p, rfl⟩ := Int.eq_ofNat_of_zero_le (show 0 ≤ p by omega)
      refine ⟨?_, _, rfl⟩
      rw [Int.toNat_natCast]
      refine ⟨widD n ps p, v1e (v1e (xc rfl ⟨rfl, rfl⟩ rfl (F_widest_yes hn (by omega) (by omega))) rfl) rfl, ?_⟩
      refine if_f (dec_f (p := (¬ True) ∨ (False ∨ ¬ True)) (by simp) (bOr_d (bNot_d (bVe (v1e rfl isi_tup))) fun _ => bOr_d (bVe (v2e (x := .int 3) rfl rfl rfl)) fun _ => bNot_d (bVe (v1e (v1e (xc rfl ⟨rfl, rfl⟩ rfl rfl) rfl) rfl)))) ?_
      exact ⟨_, rfl, rfl⟩
    · cases h1
  · cases h
def F_law_k12 : FN
  | [.val (.scr _)] => some (.inl (.val (.bl true)))
  | _ => none
theorem F_law_k12_t (ns : List Int) (_ : ns.length ≤ 63) : F_law_k12 [.val (.scr ns)] = some (.inl (.val (.bl true))) := rfl
/-- law: 0 script 1 size 2 pipes 3 net 4 place 5 first 6 places 7 into 8 k 9 number 10 less -/
def t_law_k12 : VT := (seqT (asgV 1 (v2 fMax (vC (.int 2)) (v1 slD (v1 inlO (xCall 2 F_law_size_of (rV (vVar 0) (rV (vC (.int 7)) rNil))))))) (seqT (asgV 2 (v1 slD (v1 inlO (xCall 4 F_law_pipes_by (rV (vVar 0) (rV (vC (.int 6)) (rV (v2 fMax (vC (.int 1)) (v1 slD (v1 inlO (xCall 2 F_law_many_of (rV (vVar 0) (rV (vC (.int 15)) rNil)))))) (rV (vVar 1) rNil)))))))) (seqT (asgO 3 (v1 inlO (xCall 2 F_law_net_by (rV (vVar 1) (rS 2 rNil))))) (seqT (asgV 4 (v2 fAdd (vC (.int 1)) (v2 fMod (v1 slD (v1 inlO (xCall 2 F_law_cell_at (rV (vVar 0) (rV (vC (.int 2)) rNil))))) (v2 fSub (vVar 1) (vC (.int 1)))))) (seqT (asgV 5 (v1 slD (v1 inlO (xCall 2 F_law_many (rS 3 (rV (vVar 4) rNil)))))) (seqT (asgV 6 (v2 fIx (v1 slD (v1 inlO (xCall 2 F_widest (rS 3 (rV (vVar 4) rNil))))) (vC (.int 2)))) (seqT (asgV 7 (v1 slD (v1 inlO (xCall 2 F_law_into (rV (vVar 2) (rV (vVar 6) rNil)))))) (seqT (forT (lRng1 (v2 fMin (vC (.int 12)) (v1 fLenL (lVar 2)))) (gN 8) (seqT (asgV 9 (v2 fMod (v2 fAdd (v1 slD (v1 inlO (xCall 2 F_law_cell_at (rV (vVar 0) (rV (vC (.int 3)) rNil))))) (vVar 8)) (v1 fLenL (lVar 2)))) (seqT (nmT none 2 G_shut 3 (rV (vVar 9) rNil)) (seqT (asgV 10 (v1 slD (v1 inlO (xCall 2 F_law_many (rS 3 (rV (vVar 4) rNil)))))) (seqT (ifT (bV (v2 fIx (v2 fIx (vVar 2) (vVar 9)) (vC (.int 2)))) (seqT (nmT none 2 G_reopen 3 (rV (vVar 9) rNil)) skipT) skipT) (seqT (ifT (bOr (bV (v2 fGt (vVar 10) (vVar 5))) (bOr (bV (v2 fLt (vVar 10) (v2 fSub (vVar 5) (vC (.int 1))))) (bAnd (bNot (bV (v2 fIx (v2 fIx (vVar 2) (vVar 9)) (vC (.int 2))))) (bV (v2 fNe (vVar 10) (vVar 5)))))) (seqT (retV (vC (.bl false))) skipT) skipT) (seqT (ifT (bAnd (bV (v2 (fIn false) (vVar 9) (lVar 7))) (bV (v2 fNe (vVar 10) (v2 fSub (vVar 5) (vC (.int 1)))))) (seqT (retV (vC (.bl false))) skipT) skipT) skipT))))))) (seqT (retV (vAnd (v2 fGe (vVar 5) (vC (.int 0))) (v2 fEq (v1 slD (v1 inlO (xCall 2 F_law_many (rS 3 (rV (vVar 4) rNil))))) (vVar 5)))) skipT)))))))))
theorem pipesBy_len2 {ns : List Int} {first many n : Nat} (h : 2 ≤ n) : (pipesBy ns first many n).length = many := by
  unfold pipesBy
  rw [if_neg (by omega)]
  simp
theorem fEq_dn (a : Nat) : fEq (dInt a) (dInt a) = some (.bl true) := by rw [fEq_nat]; simp
theorem v_law_k12 : ∀ ss r, ss.length = 1 → F_law_k12 ss = some r → t_law_k12 (postP r) (En0 ss 11) ∧ ∃ s, r = .inl s := by
  intro ss r hl h
  unfold F_law_k12 at h
  split at h
  · rename_i ns
    have h1 := Option.some.inj h
    clear h
    subst h1
    refine ⟨?_, _, rfl⟩
    have hs := sizeOf_le (ns := ns) (k := 7) (by omega) (by omega)
    have hm := manyOf_le (ns := ns) (k := 15) (by omega)
    refine ⟨dInt (max 2 (sizeOf ns 7)), v2e rfl (v1e (v1e (xc rfl ⟨rfl, rfl⟩ rfl (F_sizeOf (k := 7) (by omega))) rfl) rfl) (fMax_nat 2 _), ?_⟩
    generalize hN : max 2 (sizeOf ns 7) = n
    have n2 : 2 ≤ n := by omega
    have n12 : n ≤ 12 := by omega
    have hn := okNet_by (ns := ns) (first := 6) (many := max 1 (manyOf ns 15)) (n := n) (by omega) n12 (by omega)
    have hlen := pipesBy_len2 (ns := ns) (first := 6) (many := max 1 (manyOf ns 15)) n2
    refine ⟨.lst (dPs (pipesBy ns 6 (max 1 (manyOf ns 15)) n)), v1e (v1e (xc (rVe rfl (rVe rfl (rVe (v2e rfl (v1e (v1e (xc rfl ⟨rfl, rfl⟩ rfl (F_manyOf (k := 15))) rfl) rfl) (fMax_nat 1 _)) (rVe rfl rfl)))) ⟨rfl, rfl⟩ rfl (F_pipesBy (f := 6) (m := max 1 (manyOf ns 15)) (s := n) (by omega) (by omega))) rfl) rfl, ?_⟩
    have hl1 : 1 ≤ (pipesBy ns 6 (max 1 (manyOf ns 15)) n).length := by omega
    clear hlen
    generalize pipesBy ns 6 (max 1 (manyOf ns 15)) n = ps at hn hl1
    have hpl := hn.2.2.2
    refine ⟨.net .loc (n : Int) (dPs ps), v1e (xc rfl ⟨rfl, rfl⟩ rfl (F_netBy rfl hn)) rfl, ?_⟩
    refine ⟨dInt (placeBy (cellAt ns 2) n), placeE n2 (cellE (k := 2) rfl) rfl, ?_⟩
    obtain ⟨p0, pn⟩ := placeBy_ok (c := cellAt ns 2) n2
    generalize placeBy (cellAt ns 2) n = p at p0 pn
    refine ⟨dInt (widN n ps p), v1e (v1e (xc rfl ⟨rfl, rfl⟩ rfl (F_lawMany hn p0 pn)) rfl) rfl, ?_⟩
    refine ⟨.lst (dNs (setOf n ps p (widN n ps p))), v2e (x := widD n ps p) (v1e (v1e (xc rfl ⟨rfl, rfl⟩ rfl (F_widest_yes hn p0 pn)) rfl) rfl) rfl rfl, ?_⟩
    refine ⟨.lst (dNs (lawInto ps (setOf n ps p (widN n ps p)))), v1e (v1e (xc rfl ⟨rfl, rfl⟩ rfl (F_into (ps := ps) (by omega))) rfl) rfl, ?_⟩
    refine ⟨_, rng1e (i := ((min 12 ps.length : Nat) : Int)) (v2e (y := dInt ps.length) rfl (lenPs rfl) (fMin_nat 12 _)) (by omega), ?_⟩
    rw [Int.toNat_natCast]
    refine loopT_inv (enc := dInt) (fun rest Γ => ∃ (v8 v9 v10 : Option Sl), Γ = [some (.val (.scr ns)), some (.val (dInt n)), some (.val (.lst (dPs ps))), some (.net .loc (n : Int) (dPs ps)), some (.val (dInt p)), some (.val (dInt (widN n ps p))), some (.val (.lst (dNs (setOf n ps p (widN n ps p))))), some (.val (.lst (dNs (lawInto ps (setOf n ps p (widN n ps p)))))), v8, v9, v10]) ?_ ?_ _ _ ⟨none, none, none, rfl⟩
    · rintro t rest Γ kk ⟨v8, v9, v10, rfl⟩ hk
      refine ⟨_, rfl, ?_⟩
      have a1 : 0 ≤ (cellAt ns 3 + (t : Int)) % (ps.length : Int) := Int.emod_nonneg _ (by omega)
      have a2 : (cellAt ns 3 + (t : Int)) % (ps.length : Int) < ps.length := Int.emod_lt_of_pos _ (by omega)
      obtain ⟨k, hkk⟩ := Int.eq_ofNat_of_zero_le a1
      have hkl : k < ps.length := by omega
      refine ⟨dInt k, v2e (v2e (z := .int (cellAt ns 3 + (t : Int))) (cellE (k := 3) rfl) rfl rfl) (lenPs rfl) (by rw [fMod_pos (by omega), hkk]; rfl), ?_⟩
      have hn' := turnAt_ok (o := false) hn hkl
      obtain ⟨w1, w2, w3⟩ := wid_shut hn p0 pn hkl
      refine ⟨rfl, _, _, _, _, rfl, ⟨rfl, rfl⟩, rfl, G_shutT hkl, ?_⟩
      refine ⟨dInt (widN n (turnAt ps k false) p), v1e (v1e (xc rfl ⟨rfl, rfl⟩ rfl (F_lawMany hn' p0 pn)) rfl) rfl, ?_⟩
      have hsame : (pAt ps k).2.2 = false → turnAt ps k false = ps := fun z => by rw [← z]; exact turnAt_same hkl
      refine if_to (Γ' := [some (.val (.scr ns)), some (.val (dInt n)), some (.val (.lst (dPs ps))), some (.net .loc (n : Int) (dPs ps)), some (.val (dInt p)), some (.val (dInt (widN n ps p))), some (.val (.lst (dNs (setOf n ps p (widN n ps p))))), some (.val (.lst (dNs (lawInto ps (setOf n ps p (widN n ps p)))))), some (.val (dInt t)), some (.val (dInt k)), some (.val (dInt (widN n (turnAt ps k false) p)))])
        (p := (pAt ps k).2.2 = true) (bVe (by
          have := ixP2 (ixP (Γ := [some (.val (.scr ns)), some (.val (dInt n)), some (.val (.lst (dPs ps))), some (.net .loc (n : Int) (dPs (turnAt ps k false))), some (.val (dInt p)), some (.val (dInt (widN n ps p))), some (.val (.lst (dNs (setOf n ps p (widN n ps p))))), some (.val (.lst (dNs (lawInto ps (setOf n ps p (widN n ps p)))))), some (.val (dInt t)), some (.val (dInt k)), some (.val (dInt (widN n (turnAt ps k false) p)))]) (f := vVar 2) (h := vVar 9) (ps := ps) (k := k) rfl rfl hkl)
          rw [show decide ((pAt ps k).2.2 = true) = (pAt ps k).2.2 by simp]
          exact this)) (fun c Q hq => ?_) (fun c Q hq => ?_) ?_
      · refine ⟨rfl, _, _, _, _, rfl, ⟨rfl, rfl⟩, rfl, G_reopenT (by rw [turnAt_len]; exact hkl), ?_⟩
        have e : turnAt (turnAt ps k false) k true = ps := by rw [turnAt_turnAt hkl, ← c, turnAt_same hkl]
        rw [e]
        exact hq
      · have c : (pAt ps k).2.2 = false := by simpa using c
        have e := hsame c
        have e2 : (∀ x : List P3, x = ps → Q (.nx [some (.val (.scr ns)), some (.val (dInt n)), some (.val (.lst (dPs ps))), some (.net .loc (n : Int) (dPs x)), some (.val (dInt p)), some (.val (dInt (widN n ps p))), some (.val (.lst (dNs (setOf n ps p (widN n ps p))))), some (.val (.lst (dNs (lawInto ps (setOf n ps p (widN n ps p)))))), some (.val (dInt t)), some (.val (dInt k)), some (.val (dInt (widN n (turnAt ps k false) p)))])) := fun x hx => by rw [hx]; exact hq
        exact e2 _ e
      refine if_f (dec_f (p := widN n ps p < widN n (turnAt ps k false) p ∨ ((widN n (turnAt ps k false) p : Int) < (widN n ps p : Int) - 1 ∨ ((¬ (pAt ps k).2.2 = true) ∧ widN n (turnAt ps k false) p ≠ widN n ps p))) (fun z => ?_)
        (bOr_d (bVe (v2e (x := dInt (widN n (turnAt ps k false) p)) (y := dInt (widN n ps p)) rfl rfl (by show some (D.bl (decide ((widN n ps p : Int) < (widN n (turnAt ps k false) p : Int)))) = _; simp))) fun _ => bOr_d (bVe (v2e (x := dInt (widN n (turnAt ps k false) p)) (y := .int ((widN n ps p : Int) - 1)) rfl rfl rfl)) fun _ => bAnd_d (bNot_d (p := (pAt ps k).2.2 = true) (bVe (by
          have := ixP2 (ixP (Γ := [some (.val (.scr ns)), some (.val (dInt n)), some (.val (.lst (dPs ps))), some (.net .loc (n : Int) (dPs ps)), some (.val (dInt p)), some (.val (dInt (widN n ps p))), some (.val (.lst (dNs (setOf n ps p (widN n ps p))))), some (.val (.lst (dNs (lawInto ps (setOf n ps p (widN n ps p)))))), some (.val (dInt t)), some (.val (dInt k)), some (.val (dInt (widN n (turnAt ps k false) p)))]) (f := vVar 2) (h := vVar 9) (ps := ps) (k := k) rfl rfl hkl)
          rw [show decide ((pAt ps k).2.2 = true) = (pAt ps k).2.2 by simp]
          exact this))) fun _ => bVe (neE rfl rfl))) ?_
      · rcases z with z | z | z
        · omega
        · omega
        · have c : (pAt ps k).2.2 = false := by simpa using z.1
          exact z.2 (by rw [hsame c])
      refine if_f (dec_f (p := k ∈ lawInto ps (setOf n ps p (widN n ps p)) ∧ (widN n (turnAt ps k false) p : Int) ≠ (widN n ps p : Int) - 1) (fun z => by have := w3 z.1; omega) (bAnd_d (bVe (inE rfl rfl)) fun _ => bVe (v2e (x := dInt (widN n (turnAt ps k false) p)) (y := .int ((widN n ps p : Int) - 1)) rfl rfl (fNe_int (a := (widN n (turnAt ps k false) p : Int)) (b := (widN n ps p : Int) - 1))))) ?_
      exact hk _ ⟨_, _, _, rfl⟩
    · rintro Γ ⟨v8, v9, v10, rfl⟩
      refine ⟨.bl true, vAnd_t (v2e (x := dInt (widN n ps p)) rfl rfl (by show some (D.bl (decide ((0 : Int) ≤ (widN n ps p : Int)))) = _; rw [decide_eq_true (Int.natCast_nonneg _)])) (v2e (v1e (v1e (xc rfl ⟨rfl, rfl⟩ rfl (F_lawMany hn p0 pn)) rfl) rfl) rfl (fEq_dn _)), rfl⟩
  · cases h
end Z

set_option maxRecDepth 100000
namespace Z
open PySem PySem.Spec PyProof.Rows L2

/-! ### trees without a common pipe: plain mathematics -/
def without (all : List O3) (e : O3) : List O3 := all.filter fun x => decide (x ≠ e)
theorem mem_without {all : List O3} {e x : O3} : x ∈ without all e ↔ x ∈ all ∧ x ≠ e := by
  unfold without
  rw [List.mem_filter]
  simp
theorem EdOk.without {all : List O3} {size : Nat} {e : O3} (E : EdOk all size) : EdOk (without all e) size :=
  ⟨E.pos, (List.Sublist.map _ List.filter_sublist).nodup E.nd, fun x hx => E.lt x (mem_without.mp hx).1⟩
def enters (S : List Nat) (e : O3) : Prop := e.2.1 ∉ S ∧ e.2.2 ∈ S
instance (S : List Nat) (e : O3) : Decidable (enters S e) := by unfold enters; infer_instance
theorem cut_mono {all : List O3} {S T : List Nat} (h : ∀ e ∈ all, enters S e → enters T e) : cut all S ≤ cut all T := by
  have := sumI_le (f := fun (e : O3) => ind (e.2.1 ∉ S ∧ e.2.2 ∈ S)) (g := fun (e : O3) => ind (e.2.1 ∉ T ∧ e.2.2 ∈ T)) (xs := all) fun e he => by
    by_cases c : e.2.1 ∉ S ∧ e.2.2 ∈ S
    · rw [ind_t c, ind_t (show e.2.1 ∉ T ∧ e.2.2 ∈ T from h e he c)]
      exact Int.le_refl _
    · rw [ind_f c]
      unfold ind
      split <;> omega
  rw [← cut_sum, ← cut_sum] at this
  omega
/-- a pipe that enters the one and not the other -/
theorem cut_lt {all : List O3} {S T : List Nat} (h : cut all T < cut all S) : ∃ e ∈ all, enters S e ∧ ¬ enters T e := Decidable.byContradiction fun c => by
  have := cut_mono (all := all) (S := S) (T := T) fun e he hs => Decidable.byContradiction fun z => c ⟨e, he, hs, z⟩
  omega
theorem cut_pos {all : List O3} {S : List Nat} (h : 0 < cut all S) : ∃ e ∈ all, enters S e := by
  unfold cut at h
  obtain ⟨e, he⟩ := List.exists_mem_of_length_pos h
  rw [List.mem_filter] at he
  exact ⟨e, he.1, of_decide_eq_true he.2⟩
theorem cut_without {all : List O3} {S : List Nat} {e : O3} (h : ¬ enters S e) : cut (without all e) S = cut all S := by
  unfold cut without
  rw [List.filter_filter]
  congr 1
  refine List.filter_congr fun x _ => ?_
  by_cases c : x = e
  · subst c
    rw [decide_eq_false (show ¬ (x.2.1 ∉ S ∧ x.2.2 ∈ S) from h)]
    simp
  · simp [c]
theorem cut_without1 {all : List O3} {S : List Nat} {e : O3} {size : Nat} (E : EdOk all size) : cut all S ≤ cut (without all e) S + 1 := by
  unfold cut without
  rw [List.filter_filter]
  have nd : all.Nodup := (List.pairwise_map.mp E.nd).imp fun h z => h (by rw [z])
  have key : ∀ {l : List O3}, l.Nodup → (l.filter fun x => decide (x.2.1 ∉ S ∧ x.2.2 ∈ S)).length ≤ (l.filter fun x => decide (x ≠ e) && decide (x.2.1 ∉ S ∧ x.2.2 ∈ S)).length + (if e ∈ l then 1 else 0) := by
    intro l
    induction l with
    | nil => intro _; simp
    | cons x l ih =>
      intro h
      have h' := List.nodup_cons.mp h
      have ih := ih h'.2
      rw [List.filter_cons, List.filter_cons]
      by_cases c : x = e
      · subst c
        rw [if_neg h'.1] at ih
        rw [show (decide (x ≠ x) && decide (x.2.1 ∉ S ∧ x.2.2 ∈ S)) = false by simp]
        rw [if_neg (show ¬ (false = true) by simp), if_pos (show x ∈ x :: l by simp)]
        split
        · simp only [List.length_cons]; omega
        · omega
      · rw [decide_eq_true c, Bool.true_and]
        have hm : (e ∈ x :: l) ↔ e ∈ l := by
          rw [List.mem_cons]
          exact ⟨fun z => z.elim (fun q => absurd q.symm c) id, .inr⟩
        simp only [hm]
        split
        · simp only [List.length_cons]; omega
        · exact ih
  have := key nd
  have e2 : (List.filter (fun a => decide (a.2.1 ∉ S ∧ a.2.2 ∈ S) && decide (a ≠ e)) all) = List.filter (fun x => decide (x ≠ e) && decide (x.2.1 ∉ S ∧ x.2.2 ∈ S)) all := List.filter_congr fun x _ => Bool.and_comm _ _
  rw [e2]
  split at this <;> omega
/-- sets by a test -/
def setBy (size : Nat) (p : Nat → Bool) : List Nat := (List.range size).filter p
theorem mem_setBy {size v : Nat} {p : Nat → Bool} : v ∈ setBy size p ↔ v < size ∧ p v = true := by
  unfold setBy
  rw [List.mem_filter, List.mem_range]
theorem setBy_good {size : Nat} {p : Nat → Bool} (h : p 0 = false) : GoodSet size (setBy size p) :=
  ⟨List.Pairwise.filter _ List.pairwise_lt_range, fun v hv => (mem_setBy.mp hv).1, fun z => by have := (mem_setBy.mp z).2; rw [h] at this; cases this⟩
/-- both together are no wider -/
theorem cut_sub {all : List O3} {size : Nat} (E : EdOk all size) {X Y : List Nat} (gx : GoodSet size X) (gy : GoodSet size Y) :
    cut all (setBy size fun v => decide (v ∈ X) && decide (v ∈ Y)) + cut all (setBy size fun v => decide (v ∈ X) || decide (v ∈ Y)) ≤ cut all X + cut all Y := by
  have := sumI_le (xs := all) (f := fun (e : O3) => ind (e.2.1 ∉ (setBy size fun v => decide (v ∈ X) && decide (v ∈ Y)) ∧ e.2.2 ∈ (setBy size fun v => decide (v ∈ X) && decide (v ∈ Y))) + ind (e.2.1 ∉ (setBy size fun v => decide (v ∈ X) || decide (v ∈ Y)) ∧ e.2.2 ∈ (setBy size fun v => decide (v ∈ X) || decide (v ∈ Y))))
    (g := fun (e : O3) => ind (e.2.1 ∉ X ∧ e.2.2 ∈ X) + ind (e.2.1 ∉ Y ∧ e.2.2 ∈ Y)) fun e he => by
      have hl := E.lt e he
      simp only [mem_setBy, hl.1, hl.2, true_and, Bool.and_eq_true, Bool.or_eq_true, decide_eq_true_eq]
      unfold ind
      by_cases c1 : e.2.1 ∈ X <;> by_cases c2 : e.2.1 ∈ Y <;> by_cases c3 : e.2.2 ∈ X <;> by_cases c4 : e.2.2 ∈ Y <;> simp [c1, c2, c3, c4]
  rw [sumI_add, sumI_add, ← cut_sum, ← cut_sum, ← cut_sum, ← cut_sum] at this
  omega
/-- no set is entered by fewer -/
def Wide (all : List O3) (size k : Nat) : Prop := ∀ S, GoodSet size S → S ≠ [] → k ≤ cut all S
def hereOf (T : List O3) : List Nat := 0 :: T.map fun e => e.2.2
/-- a part of a tree, and the pipes left -/
structure TOk (all : List O3) (size k : Nat) (left T : List O3) : Prop where
  E : EdOk left size
  nd : (hereOf T).Nodup
  lt : ∀ v ∈ hereOf T, v < size
  sub : ∀ e ∈ T, e ∈ all
  lsub : ∀ e ∈ left, e ∈ all
  dis : ∀ e ∈ T, e ∉ left
  tnd : (T.map (·.1)).Nodup
  rch : ∀ v ∈ hereOf T, Rch (prs T) v
  k0 : Wide left size k
  k1 : ∀ S, GoodSet size S → S ≠ [] → (∀ v ∈ S, v ∉ hereOf T) → k + 1 ≤ cut left S
theorem TOk.start {all : List O3} {size k : Nat} (E : EdOk all size) (h : Wide all size (k + 1)) : TOk all size k all [] :=
  ⟨E, by simp [hereOf], fun v hv => by simp [hereOf] at hv; subst hv; exact E.pos, fun e he => (nomatch he), fun e he => he, fun e he => (nomatch he), .nil, fun v hv => by simp [hereOf] at hv; subst hv; exact .zero, fun S G hS => Nat.le_trans (Nat.le_succ k) (h S G hS), fun S G hS _ => h S G hS⟩
/-- it may be taken: from here to a new place, and all stays wide behind it -/
def fit (size k : Nat) (left T : List O3) (e : O3) : Prop := e.2.1 ∈ hereOf T ∧ e.2.2 ∉ hereOf T ∧ spR size (without left e) e.2.2 k = k
noncomputable instance (size k : Nat) (left T : List O3) (e : O3) : Decidable (fit size k left T e) := by unfold fit; infer_instance
theorem here_snoc (T : List O3) (e : O3) : hereOf (T ++ [e]) = hereOf T ++ [e.2.2] := by
  unfold hereOf
  rw [List.map_append]
  rfl
theorem TOk.more {all : List O3} {size k : Nat} {left T : List O3} {e : O3} (h : TOk all size k left T) (A : EdOk all size) (he : e ∈ left) (f : fit size k left T e) : TOk all size k (without left e) (T ++ [e]) := by
  obtain ⟨f1, f2, f3⟩ := f
  have hl := h.E.lt e he
  have v0 : e.2.2 ≠ 0 := fun z => f2 (by rw [z]; simp [hereOf])
  have key := (spR_iff (many := k) (h.E.without (e := e)) v0 hl.2).mp f3
  refine ⟨h.E.without, ?_, fun v hv => ?_, fun x hx => ?_, fun x hx => h.lsub x (mem_without.mp hx).1, fun x hx => ?_, ?_, fun v hv => ?_, fun S G hS => ?_, fun S G hS hd => ?_⟩
  · rw [here_snoc, List.nodup_append]
    refine ⟨h.nd, by simp, fun a ha b hb => ?_⟩
    simp at hb
    subst hb
    intro z
    subst z
    exact f2 ha
  · rw [here_snoc] at hv
    rcases List.mem_append.mp hv with q | q
    · exact h.lt v q
    · simp at q; subst q; exact hl.2
  · rcases List.mem_append.mp hx with q | q
    · exact h.sub x q
    · simp at q; subst q; exact h.lsub x he
  · rcases List.mem_append.mp hx with q | q
    · exact fun z => h.dis x q (mem_without.mp z).1
    · simp at q; subst q; exact fun z => (mem_without.mp z).2 rfl
  · rw [List.map_append, List.nodup_append]
    refine ⟨h.tnd, by simp, fun a ha b hb => ?_⟩
    simp at hb
    subst hb
    intro z
    obtain ⟨x, hx, ex⟩ := List.mem_map.mp ha
    have := A.inj (h.sub x hx) (h.lsub e he) (by rw [ex, z])
    subst this
    exact h.dis x hx he
  · have mono : ∀ {w}, Rch (prs T) w → Rch (prs (T ++ [e])) w := fun r => r.mono fun q hq => by
      unfold prs at hq ⊢
      rw [List.map_append]
      exact List.mem_append_left _ hq
    rw [here_snoc] at hv
    rcases List.mem_append.mp hv with q | q
    · exact mono (h.rch v q)
    · simp at q
      subst q
      refine .step (mono (h.rch _ f1)) ?_
      unfold prs
      rw [List.map_append]
      exact List.mem_append_right _ (by simp)
  · by_cases c : e.2.2 ∈ S
    · exact key S G c
    · rw [cut_without fun z => c z.2]
      exact h.k0 S G hS
  · rw [cut_without fun z => hd _ z.2 (by rw [here_snoc]; simp)]
    exact h.k1 S G hS fun v hv z => hd v hv (by rw [here_snoc]; exact List.mem_append_left _ z)
/-- a set that is as narrow as may be, with a place not here yet -/
def Tight (size k : Nat) (left T : List O3) (S : List Nat) : Prop := GoodSet size S ∧ cut left S ≤ k ∧ ∃ w ∈ S, w ∉ hereOf T
theorem least_len {P : List Nat → Prop} : ∀ (n : Nat) (S : List Nat), S.length ≤ n → P S → ∃ X, P X ∧ ∀ Y, P Y → X.length ≤ Y.length
  | 0, S, h, hS => ⟨S, hS, fun Y _ => by omega⟩
  | n + 1, S, h, hS => by
    by_cases c : ∃ Y, P Y ∧ Y.length < S.length
    · obtain ⟨Y, h1, h2⟩ := c
      exact least_len n Y (by omega) h1
    · exact ⟨S, hS, fun Y hY => Decidable.byContradiction fun z => c ⟨Y, hY, by omega⟩⟩
/-- a pipe that does: all sets that it enters are wider -/
theorem fit_of {all : List O3} {size k : Nat} {left T : List O3} {e : O3} (h : TOk all size k left T) (he : e ∈ left) (h1 : e.2.1 ∈ hereOf T) (h2 : e.2.2 ∉ hereOf T) (hk : ∀ S, GoodSet size S → enters S e → k + 1 ≤ cut left S) : fit size k left T e := by
  have hl := h.E.lt e he
  have v0 : e.2.2 ≠ 0 := fun z => h2 (by rw [z]; simp [hereOf])
  refine ⟨h1, h2, (spR_iff (many := k) (h.E.without (e := e)) v0 hl.2).mpr fun S G hS => ?_⟩
  by_cases c : enters S e
  · have a := hk S G c
    have b := cut_without1 (S := S) (e := e) h.E
    omega
  · rw [cut_without c]
    exact h.k0 S G (fun z => by rw [z] at hS; cases hS)
theorem fit_some {all : List O3} {size k : Nat} {left T : List O3} (h : TOk all size k left T) (hs : (hereOf T).length < size) : ∃ e ∈ left, fit size k left T e := by
  have zero : (0 : Nat) ∈ hereOf T := by simp [hereOf]
  obtain ⟨w, hw1, hw2⟩ : ∃ w, w < size ∧ w ∉ hereOf T := Decidable.byContradiction fun c => by
    have := (List.nodup_range (n := size)).length_le_of_subset (l₂ := hereOf T) fun v hv => Decidable.byContradiction fun z => c ⟨v, List.mem_range.mp hv, z⟩
    rw [List.length_range] at this
    omega
  by_cases c : ∃ S, Tight size k left T S
  · obtain ⟨S, hS⟩ := c
    obtain ⟨X, ⟨gx, cx, x0, hx0, hx0'⟩, hmin⟩ := least_len (P := Tight size k left T) S.length S (Nat.le_refl _) hS
    have gy : GoodSet size (setBy size fun v => decide (v ∈ X) && !decide (v ∈ hereOf T)) := setBy_good (by simp [zero])
    have memY : ∀ {v}, v ∈ setBy size (fun v => decide (v ∈ X) && !decide (v ∈ hereOf T)) ↔ v ∈ X ∧ v ∉ hereOf T := fun {v} => by
      rw [mem_setBy]
      constructor
      · intro ⟨_, q⟩
        simpa using q
      · intro ⟨q1, q2⟩
        exact ⟨gx.lt v q1, by simp [q1, q2]⟩
    have c1 := h.k1 _ gy (fun z => by have := memY.mpr ⟨hx0, hx0'⟩; rw [z] at this; cases this) fun v hv => (memY.mp hv).2
    obtain ⟨e, he, en, ne⟩ := cut_lt (all := left) (S := setBy size fun v => decide (v ∈ X) && !decide (v ∈ hereOf T)) (T := X) (by omega)
    have ev := memY.mp en.2
    have eu : e.2.1 ∈ X := Decidable.byContradiction fun z => ne ⟨z, ev.1⟩
    have eh : e.2.1 ∈ hereOf T := Decidable.byContradiction fun z => en.1 (memY.mpr ⟨eu, z⟩)
    refine ⟨e, he, fit_of h he eh ev.2 fun S G hS => Decidable.byContradiction fun hc => ?_⟩
    have gi : GoodSet size (setBy size fun v => decide (v ∈ X) && decide (v ∈ S)) := setBy_good (by simp [gx.no0])
    have gu : GoodSet size (setBy size fun v => decide (v ∈ X) || decide (v ∈ S)) := setBy_good (by simp [gx.no0, G.no0])
    have sb := cut_sub h.E gx G
    have ku := h.k0 _ gu fun z => by
      have : e.2.2 ∈ setBy size (fun v => decide (v ∈ X) || decide (v ∈ S)) := mem_setBy.mpr ⟨gx.lt _ ev.1, by simp [ev.1]⟩
      rw [z] at this
      cases this
    have vi : e.2.2 ∈ setBy size (fun v => decide (v ∈ X) && decide (v ∈ S)) := mem_setBy.mpr ⟨gx.lt _ ev.1, by simp [ev.1, hS.2]⟩
    have ti : Tight size k left T (setBy size fun v => decide (v ∈ X) && decide (v ∈ S)) := ⟨gi, by omega, e.2.2, vi, ev.2⟩
    have := hmin _ ti
    have lt : (setBy size fun v => decide (v ∈ X) && decide (v ∈ S)).length < X.length := by
      have hsub : ∀ v ∈ e.2.1 :: (setBy size fun v => decide (v ∈ X) && decide (v ∈ S)), v ∈ X := fun v hv => by
        rcases List.mem_cons.mp hv with rfl | hv
        · exact eu
        · have := (mem_setBy.mp hv).2
          simp at this
          exact this.1
      have hnd : (e.2.1 :: (setBy size fun v => decide (v ∈ X) && decide (v ∈ S))).Nodup := by
        rw [List.nodup_cons]
        refine ⟨fun z => ?_, gi.nodup⟩
        have := (mem_setBy.mp z).2
        simp at this
        exact hS.1 this.2
      have := hnd.length_le_of_subset hsub
      rw [List.length_cons] at this
      omega
    omega
  · have g0 : GoodSet size (setBy size fun v => !decide (v ∈ hereOf T)) := setBy_good (by simp [zero])
    have m0 : ∀ {v}, v < size → (v ∈ setBy size (fun v => !decide (v ∈ hereOf T)) ↔ v ∉ hereOf T) := fun {v} hv => by
      rw [mem_setBy]
      simp [hv]
    have c1 := h.k1 _ g0 (fun z => by have := (m0 hw1).mpr hw2; rw [z] at this; cases this) fun v hv => (m0 (mem_setBy.mp hv).1).mp hv
    obtain ⟨e, he, en⟩ := cut_pos (all := left) (S := setBy size fun v => !decide (v ∈ hereOf T)) (by omega)
    have hl := h.E.lt e he
    have ev := (m0 hl.2).mp en.2
    have eh : e.2.1 ∈ hereOf T := Decidable.byContradiction fun z => en.1 ((m0 hl.1).mpr z)
    refine ⟨e, he, fit_of h he eh ev fun S G hS => Decidable.byContradiction fun hc => c ⟨S, G, by omega, e.2.2, hS.2, ev⟩⟩
end Z

set_option maxRecDepth 100000
namespace Z
open PySem PySem.Spec PyProof.Rows L2

/-! ### trees: what the program does -/
noncomputable def findFit (size k : Nat) (left T : List O3) : List O3 → Option O3
  | [] => none
  | e :: es => if fit size k left T e then some e else findFit size k left T es
theorem findFit_some {size k : Nat} {left T : List O3} : ∀ {es : List O3} {e : O3}, findFit size k left T es = some e → e ∈ es ∧ fit size k left T e
  | [], _, h => by cases h
  | x :: es, e, h => by
    unfold findFit at h
    split at h
    · cases h
      exact ⟨by simp, by assumption⟩
    · obtain ⟨a, b⟩ := findFit_some h
      exact ⟨List.mem_cons_of_mem _ a, b⟩
theorem findFit_ex {size k : Nat} {left T : List O3} : ∀ {es : List O3}, (∃ e ∈ es, fit size k left T e) → ∃ e, findFit size k left T es = some e
  | [], ⟨_, h, _⟩ => by cases h
  | x :: es, ⟨e, h, f⟩ => by
    unfold findFit
    split
    · exact ⟨_, rfl⟩
    · rename_i c
      rcases List.mem_cons.mp h with rfl | h
      · exact absurd f c
      · exact findFit_ex ⟨e, h, f⟩
noncomputable def otGo (size k : Nat) : Nat → List O3 → List O3 → List O3 × List O3
  | 0, left, T => (left, T)
  | f + 1, left, T => match findFit size k left T left with
    | some e => otGo size k f (without left e) (T ++ [e])
    | none => (left, T)
noncomputable def otOf (size k : Nat) (all : List O3) : List O3 × List O3 := otGo size k (size - 1) all []
theorem otGo_ok {all : List O3} {size k : Nat} (A : EdOk all size) : ∀ {f : Nat} {left T : List O3}, TOk all size k left T → (hereOf T).length + f = size → TOk all size k (otGo size k f left T).1 (otGo size k f left T).2 ∧ (hereOf (otGo size k f left T).2).length = size
  | 0, left, T, h, hf => ⟨h, hf⟩
  | f + 1, left, T, h, hf => by
    obtain ⟨e, he⟩ := findFit_ex (fit_some h (by omega))
    obtain ⟨h1, h2⟩ := findFit_some he
    unfold otGo
    rw [he]
    exact otGo_ok A (h.more A h1 h2) (by rw [here_snoc, List.length_append]; simp; omega)
theorem otOf_ok {all : List O3} {size k : Nat} (A : EdOk all size) (h : Wide all size (k + 1)) : TOk all size k (otOf size k all).1 (otOf size k all).2 ∧ (hereOf (otOf size k all).2).length = size :=
  otGo_ok A (TOk.start A h) (by have := A.pos; simp [hereOf]; omega)
def hereK (T : List O3) : List Int := (hereOf T).map fun (n : Nat) => (n : Int)
theorem mem_hereK {T : List O3} {n : Nat} : (n : Int) ∈ hereK T ↔ n ∈ hereOf T := by
  unfold hereK
  rw [List.mem_map]
  constructor
  · rintro ⟨m, h, e⟩
    have : m = n := by omega
    subst this
    exact h
  · exact fun h => ⟨n, h, rfl⟩
theorem hereK_snoc {T : List O3} {e : O3} (h : e.2.2 ∉ hereOf T) : putI (hereK T) (e.2.2 : Int) = hereK (T ++ [e]) := by
  unfold putI
  rw [if_neg fun z => h (mem_hereK.mp z)]
  unfold hereK
  rw [here_snoc, List.map_append]
  rfl
noncomputable def otD (size k : Nat) (all : List O3) : D := .tup [.lst (dNs (srtN ((otOf size k all).2.map (·.1)))), .lst (dOs (otOf size k all).1)]
open Classical in
noncomputable def F_one_tree : FN
  | [.val (.int s), .val (.lst ds), .val (.int m)] => (decs ds : Option (List O3)).bind fun all => if 0 ≤ s ∧ s ≤ 1000 ∧ EdOk all s.toNat ∧ all.length ≤ 1000 ∧ 0 ≤ m ∧ Wide all s.toNat (m.toNat + 1) then some (.inl (.val (otD s.toNat m.toNat all))) else none
  | _ => none
theorem F_oneTree {s m : Nat} {all : List O3} (h : s ≤ 1000) (E : EdOk all s) (hl : all.length ≤ 1000) (W : Wide all s (m + 1)) : F_one_tree [.val (.int (s : Int)), .val (.lst (dOs all)), .val (.int (m : Int))] = some (.inl (.val (otD s m all))) := by
  show (decs (dOs all)).bind _ = _
  rw [decs_dOs, Option.bind_some]
  exact ite_some ⟨Int.natCast_nonneg s, by omega, E, hl, Int.natCast_nonneg m, W⟩
/-- one_tree: 0 size 1 pipes 2 many 3 left 4 here 5 tree 6 pipe 7 others 8 other -/
def t_one_tree : VT := (seqT (asgV 3 (v1 slD (v1 fList (lVar 1)))) (seqT (asgO 4 (oDic1 0)) (seqT (asgO 5 (oLst aNil)) (seqT (whileT (bV (v2 fLt (v1 fLenM (mVar 4)) (vVar 0))) (seqT (forT (v1 dL (vVar 3)) (gN 6) (seqT (ifT (bAnd (bV (v2 (fInM false) (v2 fIx (vVar 6) (vC (.int 1))) (mVar 4))) (bV (v2 (fInM true) (v2 fIx (vVar 6) (vC (.int 2))) (mVar 4)))) (seqT (asgV 7 (v1 slD (vLc [8] (lVar 3) (gN 8) (bV (v2 fNe (vVar 8) (vVar 6))) (vVar 8)))) (seqT (ifT (bV (v2 fEq (v2 fIx (v1 slD (v1 inlO (xCall 4 F_spread (rV (vVar 0) (rV (vVar 7) (rV (v2 fIx (vVar 6) (vC (.int 2))) (rV (vVar 2) rNil))))))) (vC (.int 0))) (vVar 2))) (seqT (appT 5 (v2 fIx (vVar 6) (vC (.int 0)))) (seqT (dputT 4 (v2 fIx (vVar 6) (vC (.int 2)))) (seqT (asgV 3 (vVar 7)) (seqT breakT skipT)))) skipT) skipT)) skipT) skipT)) skipT)) (seqT (retV (vTup (aCons (v1 slD (v1 fSorted (lVar 5))) (aCons (vVar 3) aNil)))) skipT)))))
theorem without_len {all : List O3} {e : O3} : (without all e).length ≤ all.length := List.length_filter_le _ _
theorem v_one_tree : ∀ ss r, ss.length = 3 → F_one_tree ss = some r → t_one_tree (postP r) (En0 ss 9) ∧ ∃ s, r = .inl s := by
  intro ss r hl h
  unfold F_one_tree at h
  split at h
  · rename_i s ds k
    obtain ⟨all, e1, h'⟩ := Option.bind_eq_some_iff.mp h
    clear h
    split at h'
    · rename_i hs
      have h'' := Option.some.inj h'
      clear h'
      subst h''
      cases dOs_some e1
      obtain ⟨h1, h2, A, h3, h4, W⟩ := hs
      obtain ⟨s, rfl⟩ := Int.eq_ofNat_of_zero_le h1
      obtain ⟨k, rfl⟩ := Int.eq_ofNat_of_zero_le h4
      simp only [Int.toNat_natCast] at A W ⊢
      have hs1 := A.pos
      refine ⟨?_, _, rfl⟩
      refine ⟨_, rfl, ?_⟩
      refine ⟨_, rfl, ?_⟩
      refine ⟨_, rfl, ?_⟩
      refine ⟨fun m Γ => ∃ (left T : List O3) (v6 v7 v8 : Option Sl), TOk all s k left T ∧ (hereOf T).length + m = s ∧ otGo s k m left T = otOf s k all ∧ left.length ≤ 1000 ∧
        Γ = [some (.val (.int (s : Int))), some (.val (.lst (dOs all))), some (.val (.int (k : Int))), some (.val (.lst (dOs left))), some (.odic .loc (hereK T)), some (.own .loc (dNs (T.map (·.1)))), v6, v7, v8], ⟨s - 1, all, [], none, none, none, TOk.start A W, by simp [hereOf]; omega, rfl, h3, rfl⟩, ?_⟩
      rintro m Γ ⟨left, T, v6, v7, v8, tk, hm, q, hll, rfl⟩
      have lenK : (hereK T).length = (hereOf T).length := List.length_map ..
      have lenT : (hereOf T).length = T.length + 1 := by simp [hereOf]
      refine ⟨decide ((hereOf T).length < s), bVe (v2e (x := dInt (hereOf T).length) (y := dInt s) (v1e (x := hereK T) rfl (by show some (D.int ((hereK T).length : Int)) = _; rw [lenK]; rfl)) rfl (by show some (D.bl (decide (((hereOf T).length : Int) < (s : Int)))) = _; simp)), fun hb => ?_, fun hb => ?_⟩
      · have hlt := of_decide_eq_true hb
        cases m with
        | zero => omega
        | succ m =>
          obtain ⟨e, he⟩ := findFit_ex (fit_some tk hlt)
          have q' : otGo s k m (without left e) (T ++ [e]) = otOf s k all := by
            rw [← q]
            conv => rhs; unfold otGo
            rw [he]
          obtain ⟨he1, he2⟩ := findFit_some he
          refine ⟨dOs left, rfl, ?_⟩
          refine loopT_inv (enc := dO3) (fun rest Γ => ∃ (v6 v7 v8 : Option Sl), (∀ x ∈ rest, x ∈ left) ∧ findFit s k left T rest = some e ∧
            Γ = [some (.val (.int (s : Int))), some (.val (.lst (dOs all))), some (.val (.int (k : Int))), some (.val (.lst (dOs left))), some (.odic .loc (hereK T)), some (.own .loc (dNs (T.map (·.1)))), v6, v7, v8]) ?_ ?_ left _ ⟨v6, v7, v8, fun _ h => h, he, rfl⟩
          · rintro x rest Γ kk ⟨v6, v7, v8, hr, hf, rfl⟩ hk
            refine ⟨_, rfl, ?_⟩
            have hx := hr x (by simp)
            have hxl := tk.E.lt x hx
            have hr' : ∀ y ∈ rest, y ∈ left := fun y hy => hr y (List.mem_cons_of_mem _ hy)
            have hwl := without_len (all := left) (e := x)
            refine if_d (p := x.2.1 ∈ hereOf T ∧ x.2.2 ∉ hereOf T) ?_ (fun c => ?_) (fun c => ?_)
            · have b1 := inME (Γ := [some (.val (.int (s : Int))), some (.val (.lst (dOs all))), some (.val (.int (k : Int))), some (.val (.lst (dOs left))), some (.odic .loc (hereK T)), some (.own .loc (dNs (T.map (·.1)))), some (.val (dO3 x)), v7, v8]) (f := v2 fIx (vVar 6) (vC (.int 1))) (h := mVar 4) (n := x.2.1) (ks := hereK T) (ixO1 (p := x) rfl) rfl
              have b2 := notInME (Γ := [some (.val (.int (s : Int))), some (.val (.lst (dOs all))), some (.val (.int (k : Int))), some (.val (.lst (dOs left))), some (.odic .loc (hereK T)), some (.own .loc (dNs (T.map (·.1)))), some (.val (dO3 x)), v7, v8]) (f := v2 fIx (vVar 6) (vC (.int 2))) (h := mVar 4) (n := x.2.2) (ks := hereK T) (ixO2 (p := x) rfl) rfl
              rw [decide_eq_decide.mpr mem_hereK] at b1
              rw [decide_eq_decide.mpr (not_congr mem_hereK)] at b2
              exact bAnd_d (bVe b1) fun _ => bVe b2
            · refine ⟨.lst (dOs (without left x)), v1e (vlc_filter (enc := dO3) (xs := left) (p := fun p => decide (p ≠ x)) (h := dO3) rfl (by omega) (fun q _ => lcS rfl (bVe (neO3 rfl rfl)) fun _ => rfl)) rfl, ?_⟩
              refine if_d (p := spR s (without left x) x.2.2 k = k) (bVe (eqE (a := spR s (without left x) x.2.2 k) (b := k) (v2e (x := spD s (without left x) x.2.2 (spR s (without left x) x.2.2 k)) (v1e (v1e (xc (rVe rfl (rVe rfl (rVe (ixO2 (p := x) rfl) (rVe rfl rfl)))) ⟨rfl, rfl⟩ rfl (F_spreadE (s := s) (p := x.2.2) (m := k) (by omega) tk.E.without (by omega) hxl.2)) rfl) rfl) rfl rfl) rfl)) (fun d => ?_) (fun d => ?_)
              · have hfx : fit s k left T x := ⟨c.1, c.2, d⟩
                have ex : x = e := by
                  unfold findFit at hf
                  rw [if_pos hfx] at hf
                  exact Option.some.inj hf
                subst ex
                refine ⟨(by intro z; cases z), dInt x.1, ixO0 (p := x) rfl, by rw [dNs_len, List.length_map]; omega, ?_⟩
                refine ⟨(by intro z; cases z), (x.2.2 : Int), ixO2 (p := x) rfl, by omega, ?_⟩
                refine ⟨_, rfl, ?_⟩
                refine ⟨m, by omega, without left x, T ++ [x], some (.val (dO3 x)), some (.val (.lst (dOs (without left x)))), v8, tk.more A hx hfx, by rw [here_snoc, List.length_append]; simp; omega, q', by omega, ?_⟩
                rw [← hereK_snoc c.2, List.map_append, List.map_cons, List.map_nil, dNs_snoc]
                rfl
              · have hnf : ¬ fit s k left T x := fun z => d z.2.2
                refine hk _ ⟨_, _, v8, hr', ?_, rfl⟩
                unfold findFit at hf
                rw [if_neg hnf] at hf
                exact hf
            · have hnf : ¬ fit s k left T x := fun z => c ⟨z.1, z.2.1⟩
              refine hk _ ⟨_, v7, v8, hr', ?_, rfl⟩
              unfold findFit at hf
              rw [if_neg hnf] at hf
              exact hf
          · rintro Γ ⟨_, _, _, _, hf, rfl⟩
            cases hf
      · have hge : m = 0 := by have := of_decide_eq_false hb; omega
        subst hge
        have q : (left, T) = otOf s k all := q
        refine ⟨otD s k all, ?_, rfl⟩
        unfold otD
        rw [← q]
        unfold vTup
        rw [show (aCons (v1 slD (v1 fSorted (lVar 5))) (aCons (vVar 3) aNil)) _ = some [.lst (dNs (srtN (T.map (·.1)))), .lst (dOs left)] from by
          unfold aCons
          exact Option.bind_eq_some_iff.mpr ⟨_, v1e (v1e (x := dNs (T.map (·.1))) rfl (fSorted_ns _)) rfl, Option.bind_eq_some_iff.mpr ⟨_, Option.bind_eq_some_iff.mpr ⟨_, rfl, rfl⟩, rfl⟩⟩]
        rfl
    · cases h'
  · cases h
/-! ### so many trees -/
noncomputable def trGo (size : Nat) : Nat → List O3 → List (List Nat)
  | 0, _ => []
  | m + 1, all => srtN ((otOf size m all).2.map (·.1)) :: trGo size m (otOf size m all).1
noncomputable def treesD (n : Nat) (ps : List P3) (m : Nat) : List (List Nat) := trGo n m (openOf ps)
open Classical in
noncomputable def F_trees_of : FN
  | [.net _ s ds, .val (.int m)] => (unNet s ds).bind fun x => if 0 ≤ m ∧ m ≤ 1000 ∧ Wide (openOf x.2) x.1 m.toNat then some (.inl (.own .loc (dRows (treesD x.1 x.2 m.toNat)))) else none
  | _ => none
theorem F_treesOf {md : Md} {s m : Nat} {ps : List P3} (h : okNet s ps) (hm : m ≤ 1000) (W : Wide (openOf ps) s m) : F_trees_of [.net md (s : Int) (dPs ps), .val (.int (m : Int))] = some (.inl (.own .loc (dRows (treesD s ps m)))) := by
  show (unNet _ _).bind _ = _
  rw [unNet_of h]
  exact ite_some ⟨Int.natCast_nonneg m, by omega, W⟩
/-- trees_of: 0 net 1 many 2 pipes 3 trees 4 k 5 made -/
def t_trees_of : VT := (seqT (asgV 2 (v1 slD (v1 inlO (xCall 1 F_open_pipes (rS 0 rNil))))) (seqT (asgO 3 (oLst aNil)) (seqT (forT (lRng1 (vVar 1)) (gN 4) (seqT (asgV 5 (v1 slD (v1 inlO (xCall 3 F_one_tree (rV (v1 slD (v1 inlO (xMeth 1 F_size 0 rNil))) (rV (vVar 2) (rV (v2 fSub (v2 fSub (vVar 1) (vC (.int 1))) (vVar 4)) rNil))))))) (seqT (appT 3 (v2 fIx (vVar 5) (vC (.int 0)))) (seqT (asgV 2 (v2 fIx (vVar 5) (vC (.int 1)))) skipT)))) (seqT (retS 3) skipT))))
theorem v_trees_of : ∀ ss r, ss.length = 2 → F_trees_of ss = some r → t_trees_of (postP r) (En0 ss 6) ∧ ∃ s, r = .inl s := by
  intro ss r hl h
  unfold F_trees_of at h
  split at h
  · rename_i md s ds m
    obtain ⟨x, e1, h'⟩ := Option.bind_eq_some_iff.mp h
    clear h
    split at h'
    · rename_i hs
      have h'' := Option.some.inj h'
      clear h'
      subst h''
      obtain ⟨rfl, rfl, hn⟩ := unNet_some e1
      clear e1
      obtain ⟨n, ps⟩ := x
      obtain ⟨h1, h2, W⟩ := hs
      obtain ⟨m, rfl⟩ := Int.eq_ofNat_of_zero_le h1
      simp only [Int.toNat_natCast] at hn W ⊢
      have hn1 := hn.2.1
      have h60 := open_60 hn
      refine ⟨?_, _, rfl⟩
      refine ⟨_, v1e (v1e (opens_e hn rfl) rfl) rfl, ?_⟩
      refine ⟨_, rfl, ?_⟩
      refine ⟨_, rng1e (i := (m : Int)) rfl (by omega), ?_⟩
      rw [Int.toNat_natCast, List.range_eq_range']
      refine loopT_inv (enc := dInt) (fun rest Γ => ∃ (P : List O3) (done : List (List Nat)) (v4 v5 : Option Sl), rest.length ≤ m ∧ rest = List.range' (m - rest.length) rest.length ∧ EdOk P n ∧ Wide P n rest.length ∧ P.length ≤ 60 ∧ done ++ trGo n rest.length P = treesD n ps m ∧ done.length ≤ m ∧
        Γ = [some (.net md (n : Int) (dPs ps)), some (.val (.int (m : Int))), some (.val (.lst (dOs P))), some (.own .loc (dRows done)), v4, v5]) ?_ ?_ _ _ ⟨openOf ps, [], none, none, by simp, by simp, edOk_open hn, by simpa using W, h60, by simp [treesD], by simp, rfl⟩
      · rintro t rest Γ kk ⟨P, done, v4, v5, hl, hr, E, W, hP, hd, hdl, rfl⟩ hk
        refine ⟨_, rfl, ?_⟩
        simp only [List.length_cons] at hl hr W hd
        rw [List.range'_succ] at hr
        injection hr with hr1 hr2
        obtain ⟨ok, _⟩ := otOf_ok E W
        have hot := F_oneTree (m := rest.length) (show n ≤ 1000 by omega) E (by omega) W
        refine ⟨otD n rest.length P, v1e (v1e (xc (rVe rfl (rVe rfl (rVe (v2e (x := .int ((m : Int) - 1)) (y := dInt t) (z := .int (rest.length : Int)) rfl rfl (by
          show some (D.int ((m : Int) - 1 - (t : Int))) = _
          refine congrArg (fun i => some (D.int i)) ?_
          omega)) rfl))) ⟨rfl, rfl⟩ rfl hot) rfl) rfl, ?_⟩
        have hdlen : done.length < 1000000 := by omega
        refine ⟨(by intro z; cases z), .lst (dNs (srtN ((otOf n rest.length P).2.map (·.1)))), rfl, by unfold dRows; rw [List.length_map]; omega, ?_⟩
        refine ⟨.lst (dOs (otOf n rest.length P).1), rfl, ?_⟩
        have hsub : (otOf n rest.length P).1.length ≤ P.length := by
          have nd : (otOf n rest.length P).1.Nodup := (List.pairwise_map.mp ok.E.nd).imp fun h z => h (by rw [z])
          exact nd.length_le_of_subset fun x hx => ok.lsub x hx
        have hdm : done.length + (rest.length + 1) ≤ m := by
          have := congrArg List.length hd
          have tl : ∀ (a : Nat) (Q : List O3), (trGo n a Q).length = a := fun a => by
            induction a with
            | zero => intro Q; rfl
            | succ a ih => intro Q; show (trGo n a _).length + 1 = _; rw [ih]
          unfold treesD at this
          rw [List.length_append, tl, tl] at this
          omega
        refine hk _ ⟨(otOf n rest.length P).1, done ++ [srtN ((otOf n rest.length P).2.map (·.1))], some (.val (dInt t)), some (.val (otD n rest.length P)), by omega, ?_, ok.E, ok.k0, by omega, ?_, by simp; omega, ?_⟩
        · rw [show m - rest.length = m - (rest.length + 1) + 1 by omega]
          exact hr2
        · rw [← hd]
          simp [trGo]
        · unfold dRows
          rw [List.map_append]
          rfl
      · rintro Γ ⟨P, done, v4, v5, hl, hr, E, W, hP, hd, hdl, rfl⟩
        have hd : done = treesD n ps m := by simpa [trGo] using hd
        subst hd
        exact ⟨_, rfl, rfl, rfl⟩
    · cases h'
  · cases h
end Z

set_option maxRecDepth 100000
namespace Z
open PySem PySem.Spec PyProof.Rows L2

/-! ### trees as the laws ask them -/
theorem full_of_len {n : Nat} {l : List Nat} (nd : l.Nodup) (lt : ∀ v ∈ l, v < n) (hl : l.length = n) {v : Nat} (hv : v < n) : v ∈ l := Decidable.byContradiction fun c => by
  have : (v :: l).Nodup := List.nodup_cons.mpr ⟨c, nd⟩
  have := nodup_lt_len (size := n) this fun w hw => by
    rcases List.mem_cons.mp hw with rfl | hw
    · exact hv
    · exact lt w hw
  rw [List.length_cons] at this
  omega
structure TreeOk (n : Nat) (ps : List P3) (row : List Nat) : Prop where
  srt : row.Pairwise (· < ·)
  lt : ∀ k ∈ row, k < ps.length
  opn : ∀ k ∈ row, (pAt ps k).2.2 = true
  len : row.length = n - 1
  gnd : (row.map fun k => (pAt ps k).2.1).Nodup
  rch : ∀ v, v < n → Rch (edgesOf ps row) v
theorem Rch.perm {es fs : List (Nat × Nat)} (h : es.Perm fs) {v : Nat} (r : Rch es v) : Rch fs v := r.mono fun e he => h.mem_iff.mp he
theorem tree_of {n k : Nat} {ps : List P3} {all left T : List O3} (ok : TOk all n k left T) (hf : (hereOf T).length = n) (hs : ∀ e ∈ all, e ∈ openOf ps) : TreeOk n ps (srtN (T.map (·.1))) := by
  have hp := srtN_perm (T.map (·.1))
  have hT : ∀ e ∈ T, e.1 < ps.length ∧ (pAt ps e.1).2.2 = true ∧ e = opOf ps e.1 := fun e he => by
    obtain ⟨j, h1, h2, rfl⟩ := openOf_mem.mp (hs e (ok.sub e he))
    exact ⟨h1, h2, rfl⟩
  have hrow : ∀ j ∈ srtN (T.map (·.1)), ∃ e ∈ T, e.1 = j := fun j hj => List.mem_map.mp (hp.mem_iff.mp hj)
  have hnd : (srtN (T.map (·.1))).Nodup := hp.nodup_iff.mpr ok.tnd
  have hTm : ∀ {α : Type} (f : O3 → α), (T.map (·.1)).map (fun j => f (opOf ps j)) = T.map f := fun f => by
    rw [List.map_map]
    refine List.map_congr_left fun e he => ?_
    show f (opOf ps e.1) = f e
    rw [← (hT e he).2.2]
  refine ⟨((srtN_pairwise _).and hnd).imp fun h => Nat.lt_of_le_of_ne h.1 h.2, fun j hj => ?_, fun j hj => ?_, ?_, ?_, fun v hv => ?_⟩
  · obtain ⟨e, he, rfl⟩ := hrow j hj
    exact (hT e he).1
  · obtain ⟨e, he, rfl⟩ := hrow j hj
    exact (hT e he).2.1
  · rw [hp.length_eq, List.length_map]
    simp [hereOf] at hf
    omega
  · refine (hp.map _).nodup_iff.mpr ?_
    have := hTm fun e => e.2.2
    have e2 : (T.map (·.1)).map (fun k => (pAt ps k).2.1) = T.map fun e => e.2.2 := this
    rw [e2]
    exact (List.nodup_cons.mp ok.nd).2
  · have hv' := full_of_len ok.nd ok.lt hf hv
    refine (ok.rch v hv').perm ?_
    have := hTm fun e => e.2
    have e2 : (T.map (·.1)).map (fun k => ((pAt ps k).1, (pAt ps k).2.1)) = prs T := this
    unfold edgesOf
    rw [← e2]
    exact (hp.map _).symm
structure TreesOk (n : Nat) (ps : List P3) (m : Nat) (rows : List (List Nat)) : Prop where
  len : rows.length = m
  tree : ∀ row ∈ rows, TreeOk n ps row
  nd : rows.flatten.Nodup
theorem trGo_ok {n : Nat} {ps : List P3} : ∀ {m : Nat} {P : List O3}, EdOk P n → Wide P n m → (∀ e ∈ P, e ∈ openOf ps) → TreesOk n ps m (trGo n m P) ∧ ∀ k ∈ (trGo n m P).flatten, ∃ e ∈ P, e.1 = k
  | 0, P, _, _, _ => ⟨⟨rfl, fun row h => (nomatch h), .nil⟩, fun k h => (nomatch h)⟩
  | m + 1, P, E, W, hs => by
    obtain ⟨ok, hf⟩ := otOf_ok E W
    obtain ⟨t, q⟩ := trGo_ok (m := m) ok.E ok.k0 fun e he => hs e (ok.lsub e he)
    have hp := srtN_perm ((otOf n m P).2.map (·.1))
    have hrow : ∀ j ∈ srtN ((otOf n m P).2.map (·.1)), ∃ e ∈ (otOf n m P).2, e.1 = j := fun j hj => List.mem_map.mp (hp.mem_iff.mp hj)
    refine ⟨⟨by show (trGo n m _).length + 1 = _; rw [t.len], fun row hr => ?_, ?_⟩, fun k hk => ?_⟩
    · rcases List.mem_cons.mp hr with rfl | hr
      · exact tree_of ok hf hs
      · exact t.tree row hr
    · show (srtN ((otOf n m P).2.map (·.1)) ++ (trGo n m (otOf n m P).1).flatten).Nodup
      rw [List.nodup_append]
      refine ⟨hp.nodup_iff.mpr ok.tnd, t.nd, fun a ha b hb => ?_⟩
      intro z
      subst z
      obtain ⟨e, he, e1⟩ := hrow a ha
      obtain ⟨e', he', e2⟩ := q a hb
      have := E.inj (ok.sub e he) (ok.lsub e' he') (by rw [e1, e2])
      subst this
      exact ok.dis e he he'
    · have hk : k ∈ srtN ((otOf n m P).2.map (·.1)) ++ (trGo n m (otOf n m P).1).flatten := hk
      rcases List.mem_append.mp hk with z | z
      · obtain ⟨e, he, e1⟩ := hrow k z
        exact ⟨e, ok.sub e he, e1⟩
      · obtain ⟨e, he, e1⟩ := q k z
        exact ⟨e, ok.lsub e he, e1⟩
theorem trees_ok {n m : Nat} {ps : List P3} (hn : okNet n ps) (W : Wide (openOf ps) n m) : TreesOk n ps m (treesD n ps m) := (trGo_ok (edOk_open hn) W fun e he => he).1
theorem TreesOk.flat {n m : Nat} {ps : List P3} {rows : List (List Nat)} (h : TreesOk n ps m rows) : rows.flatten.length ≤ ps.length := nodup_lt_len h.nd fun k hk => by
  obtain ⟨row, h1, h2⟩ := List.mem_flatten.mp hk
  exact (h.tree row h1).lt k h2
theorem lawWet_len {n : Nat} {es : List (Nat × Nat)} (h0 : 0 < n) (he : ∀ e ∈ es, e.2 < n) (h : ∀ v, v < n → Rch es v) : (lawWet n es).length = n := by
  unfold lawWet
  rw [(srtN_perm _).length_eq]
  obtain ⟨nd, lt⟩ := lw_nodup h0 he
  have h1 := nodup_lt_len nd lt
  have h2 := (List.nodup_range (n := n)).length_le_of_subset (l₂ := lwIter es n [0]) fun v hv => (lw_iff h0 he).mpr (h v (List.mem_range.mp hv))
  rw [List.length_range] at h2
  omega
open Classical in
noncomputable def F_law_is_tree : FN
  | [.val (.lst es), .val (.int s), .val (.lst ds)] => (decs es : Option (List Nat)).bind fun l => (unNet s ds).bind fun x => if TreeOk x.1 x.2 l then some (.inl (.val (.bl true))) else none
  | _ => none
theorem F_isTree {n : Nat} {ps : List P3} {l : List Nat} (hn : okNet n ps) (h : TreeOk n ps l) : F_law_is_tree [.val (.lst (dNs l)), .val (.int (n : Int)), .val (.lst (dPs ps))] = some (.inl (.val (.bl true))) := by
  show (decs (dNs l)).bind _ = _
  rw [decs_dNs, Option.bind_some, unNet_of hn, Option.bind_some]
  exact ite_some h
/-- _law_is_tree: 0 found 1 size 2 pipes 3 number -/
def t_law_is_tree : VT := (seqT (ifT (bOr (bNot (bV (v1 slD (v1 inlO (xCall 2 F_law_rising (rV (vVar 0) (rV (v1 fLenL (lVar 2)) rNil))))))) (bV (v2 fNe (v1 fLenL (lVar 0)) (v2 fSub (vVar 1) (vC (.int 1)))))) (seqT (retV (vC (.bl false))) skipT) skipT) (seqT (forT (v1 dL (vVar 0)) (gN 3) (seqT (ifT (bNot (bV (v2 fIx (v2 fIx (vVar 2) (vVar 3)) (vC (.int 2))))) (seqT (retV (vC (.bl false))) skipT) skipT) skipT)) (seqT (ifT (bV (v2 fNe (v1 fLenSet (v1 slL (vLc [3] (lVar 0) (gN 3) bT (v2 fIx (v2 fIx (vVar 2) (vVar 3)) (vC (.int 1)))))) (v2 fSub (vVar 1) (vC (.int 1))))) (seqT (retV (vC (.bl false))) skipT) skipT) (seqT (retV (v2 fEq (v1 fLenL (v1 slL (v1 inlO (xCall 2 F_law_wet (rV (vVar 1) (rV (v1 slD (vLc [3] (lVar 0) (gN 3) bT (vTup (aCons (v2 fIx (v2 fIx (vVar 2) (vVar 3)) (vC (.int 0))) (aCons (v2 fIx (v2 fIx (vVar 2) (vVar 3)) (vC (.int 1))) aNil))))) rNil)))))) (vVar 1))) skipT))))
theorem v_law_is_tree : ∀ ss r, ss.length = 3 → F_law_is_tree ss = some r → t_law_is_tree (postP r) (En0 ss 4) ∧ ∃ s, r = .inl s := by
  intro ss r hl h
  unfold F_law_is_tree at h
  split at h
  · rename_i es s ds
    obtain ⟨l, e1, h1⟩ := Option.bind_eq_some_iff.mp h
    obtain ⟨x, e2, h2⟩ := Option.bind_eq_some_iff.mp h1
    clear h h1
    split at h2
    · rename_i hc
      have h4 := Option.some.inj h2
      clear h2
      subst h4
      cases dNs_some e1
      obtain ⟨rfl, rfl, hn⟩ := unNet_some e2
      clear e1 e2
      obtain ⟨n, ps⟩ := x
      simp only at hn hc ⊢
      have hn0 := hn.1
      have hn1 := hn.2.1
      have hn2 := hn.2.2.2
      have hln : l.length ≤ ps.length := nodup_lt_len (hc.srt.imp fun h => Nat.ne_of_lt h) hc.lt
      have hlen := hc.len
      refine ⟨?_, _, rfl⟩
      refine if_f (dec_f (p := (¬ True) ∨ ((l.length : Int) ≠ (n : Int) - 1)) (fun z => z.elim (fun z => z trivial) fun z => by omega) (bOr_d (bNot_d (bVe (v1e (v1e (xc (rVe rfl (rVe (lenPs rfl) rfl)) ⟨rfl, rfl⟩ rfl (F_rising hc.lt hc.srt (by omega))) rfl) rfl))) fun _ => bVe (v2e (x := dInt l.length) (y := .int ((n : Int) - 1)) (lenNs rfl) rfl (fNe_int (a := (l.length : Int)) (b := (n : Int) - 1))))) ?_
      refine ⟨dNs l, rfl, ?_⟩
      refine loopT_inv (enc := dInt) (fun rest Γ => ∃ (v3 : Option Sl), (∀ k ∈ rest, k ∈ l) ∧ Γ = [some (.val (.lst (dNs l))), some (.val (.int (n : Int))), some (.val (.lst (dPs ps))), v3]) ?_ ?_ l _ ⟨none, fun _ h => h, rfl⟩
      · rintro k rest Γ kk ⟨v3, hr, rfl⟩ hk
        refine ⟨_, rfl, ?_⟩
        have hkl := hr k (by simp)
        refine if_f (dec_f (p := ¬ True) (by simp) (bNot_d (bVe ?_))) ?_
        · have := ixP2 (ixP (Γ := [some (.val (.lst (dNs l))), some (.val (.int (n : Int))), some (.val (.lst (dPs ps))), some (.val (dInt k))]) (f := vVar 2) (h := vVar 3) (ps := ps) (k := k) rfl rfl (hc.lt k hkl))
          rw [hc.opn k hkl] at this
          exact this
        · exact hk _ ⟨_, fun a ha => hr a (List.mem_cons_of_mem _ ha), rfl⟩
      · rintro Γ ⟨v3, _, rfl⟩
        have hlm : (l.map fun k => (pAt ps k).2.1).length ≤ 4000 := by rw [List.length_map]; omega
        refine if_f (dec_f (p := (l.length : Int) ≠ (n : Int) - 1) (by omega) (bVe (v2e (x := dInt l.length) (y := .int ((n : Int) - 1)) (v1e (x := dNs (l.map fun k => (pAt ps k).2.1)) (v1e (vlc_map (enc := dInt) (xs := l) (h := fun k => dInt (pAt ps k).2.1) rfl (by omega) fun k hk => lcS1 rfl rfl (ixP1 (ixP (ps := ps) (k := k) rfl rfl (hc.lt k hk)))) (by
          unfold dNs
          rw [List.map_map]
          rfl)) (by rw [fLenSet_ns hc.gnd hlm, List.length_map]; rfl)) rfl (fNe_int (a := (l.length : Int)) (b := (n : Int) - 1))))) ?_
        have hok : ∀ e ∈ edgesOf ps l, e.2 < n := fun e he => by
          unfold edgesOf at he
          obtain ⟨k, hk, rfl⟩ := List.mem_map.mp he
          exact (hn.pip _ (pAt_mem (hc.lt k hk))).2.1
        have hwl := lawWet_len hn0 hok hc.rch
        refine ⟨.bl true, v2e (x := dInt n) (y := dInt n) (v1e (x := dNs (lawWet n (edgesOf ps l))) (v1e (v1e (x := .inl (.own .loc (dNs (lawWet n (edgesOf ps l))))) (xc (rVe rfl (rVe (v1e (vlc_map (enc := dInt) (xs := l) (h := fun k => dE ((pAt ps k).1, (pAt ps k).2.1)) rfl (by omega)
          fun k hk => lcS1 rfl rfl (edges_e rfl rfl (hc.lt k hk))) rfl) rfl)) ⟨rfl, rfl⟩ rfl ?_) rfl) rfl) ?_) rfl (fEq_dn n), rfl⟩
        · show F_law_wet [.val (.int (n : Int)), .val (.lst (l.map fun k => dE ((pAt ps k).1, (pAt ps k).2.1)))] = _
          have := F_wetL (s := n) (es := edgesOf ps l) (by omega) (by unfold edgesOf; rw [List.length_map]; omega)
          unfold dEs edgesOf at this
          rw [List.map_map] at this
          exact this
        · show some (D.int ((dNs (lawWet n (edgesOf ps l))).length : Int)) = _
          rw [dNs_len, hwl]
          rfl
    · cases h2
  · cases h
open Classical in
noncomputable def F_law_trees_apart : FN
  | [.val (.lst fs), .val (.int s), .val (.lst ds), .val (.int m)] => (decs fs : Option (List (List Nat))).bind fun rows => (unNet s ds).bind fun x => if 0 ≤ m ∧ TreesOk x.1 x.2 m.toNat rows then some (.inl (.val (.bl true))) else none
  | _ => none
theorem F_treesApart {n m : Nat} {ps : List P3} {rows : List (List Nat)} (hn : okNet n ps) (h : TreesOk n ps m rows) : F_law_trees_apart [.val (.lst (dRows rows)), .val (.int (n : Int)), .val (.lst (dPs ps)), .val (.int (m : Int))] = some (.inl (.val (.bl true))) := by
  show (decs (dRows rows)).bind _ = _
  rw [decs_dRows, Option.bind_some, unNet_of hn, Option.bind_some]
  exact ite_some ⟨Int.natCast_nonneg m, h⟩
/-- _law_trees_apart: 0 found 1 size 2 pipes 3 many 4 used 5 tree -/
def t_law_trees_apart : VT := (seqT (ifT (bOr (bNot (bV (v1 (fIsi "list") (vVar 0)))) (bV (v2 fNe (v1 fLenL (lVar 0)) (vVar 3)))) (seqT (retV (vC (.bl false))) skipT) skipT) (seqT (asgV 4 (v1 slD (oLst aNil))) (seqT (forT (v1 dL (vVar 0)) (gN 5) (seqT (ifT (bNot (bV (v1 slD (v1 inlO (xCall 3 F_law_is_tree (rV (vVar 5) (rV (vVar 1) (rV (vVar 2) rNil)))))))) (seqT (retV (vC (.bl false))) skipT) skipT) (seqT (asgV 4 (v1 slD (v2 fCat (lVar 4) (lVar 5)))) skipT))) (seqT (retV (v2 fEq (v1 fLenSet (lVar 4)) (v1 fLenL (lVar 4)))) skipT))))
theorem v_law_trees_apart : ∀ ss r, ss.length = 4 → F_law_trees_apart ss = some r → t_law_trees_apart (postP r) (En0 ss 6) ∧ ∃ s, r = .inl s := by
  intro ss r hl h
  unfold F_law_trees_apart at h
  split at h
  · rename_i fs s ds m
    obtain ⟨rows, e1, h1⟩ := Option.bind_eq_some_iff.mp h
    obtain ⟨x, e2, h2⟩ := Option.bind_eq_some_iff.mp h1
    clear h h1
    split at h2
    · rename_i hc
      have h4 := Option.some.inj h2
      clear h2
      subst h4
      cases dRows_some e1
      obtain ⟨rfl, rfl, hn⟩ := unNet_some e2
      clear e1 e2
      obtain ⟨n, ps⟩ := x
      obtain ⟨c2, hc⟩ := hc
      obtain ⟨m, rfl⟩ := Int.eq_ofNat_of_zero_le c2
      simp only [Int.toNat_natCast] at hn hc ⊢
      have hfl := hc.flat
      have hn2 := hn.2.2.2
      refine ⟨?_, _, rfl⟩
      refine if_f (dec_f (p := (¬ True) ∨ False) (by simp) (bOr_d (bNot_d (bVe (v1e rfl isi_list))) fun _ => bVe ?_)) ?_
      · refine v2e (x := dInt rows.length) (y := dInt m) (v1e (x := dRows rows) rfl (by show some (D.int ((dRows rows).length : Int)) = _; unfold dRows; rw [List.length_map]; rfl)) rfl ?_
        rw [hc.len]
        unfold fNe
        rw [fEq_dn]
        rfl
      refine ⟨_, rfl, ?_⟩
      refine ⟨dRows rows, rfl, ?_⟩
      refine loopT_inv (enc := fun r => D.lst (dNs r)) (fun rest Γ => ∃ (done : List Nat) (v5 : Option Sl), (∀ row ∈ rest, row ∈ rows) ∧ done ++ rest.flatten = rows.flatten ∧ Γ = [some (.val (.lst (dRows rows))), some (.val (.int (n : Int))), some (.val (.lst (dPs ps))), some (.val (.int (m : Int))), some (.val (.lst (dNs done))), v5]) ?_ ?_ rows _ ⟨[], none, fun _ h => h, rfl, rfl⟩
      · rintro row rest Γ kk ⟨done, v5, hr, hd, rfl⟩ hk
        refine ⟨_, rfl, ?_⟩
        refine if_f (dec_f (p := ¬ True) (by simp) (bNot_d (bVe (v1e (v1e (xc rfl ⟨rfl, rfl⟩ rfl (F_isTree hn (hc.tree row (hr row (by simp))))) rfl) rfl)))) ?_
        rw [List.flatten_cons] at hd
        have hlen : done.length + row.length ≤ ps.length := by
          have := congrArg List.length hd
          simp only [List.length_append] at this
          omega
        refine ⟨.lst (dNs (done ++ row)), v1e (v2e (x := dNs done) (y := dNs row) (z := .own .loc (dNs (done ++ row))) rfl rfl ?_) rfl, ?_⟩
        · unfold fCat
          rw [if_pos (decide_eq_true (by rw [dNs_len, dNs_len]; omega))]
          unfold dNs
          rw [List.map_append]
        · exact hk _ ⟨done ++ row, _, fun a ha => hr a (List.mem_cons_of_mem _ ha), by rw [← hd]; simp, rfl⟩
      · rintro Γ ⟨done, v5, _, hd, rfl⟩
        have hd : done = rows.flatten := by simpa using hd
        subst hd
        refine ⟨.bl true, v2e (v1e (x := dNs rows.flatten) rfl (fLenSet_ns hc.nd (by omega))) (lenNs rfl) ?_, rfl⟩
        simp [fEq, dInt]
    · cases h2
  · cases h
/-! ### trees apart, or a narrow set -/
noncomputable def narrowAt (n : Nat) (ps : List P3) (m : Nat) : List Nat → Option Nat
  | [] => none
  | p :: l => if spN n ps p m < m then some p else narrowAt n ps m l
theorem narrowAt_some {n m : Nat} {ps : List P3} : ∀ {l : List Nat} {p : Nat}, narrowAt n ps m l = some p → p ∈ l ∧ spN n ps p m < m
  | [], _, h => by cases h
  | q :: l, p, h => by
    unfold narrowAt at h
    split at h
    · cases h
      exact ⟨by simp, by assumption⟩
    · obtain ⟨a, b⟩ := narrowAt_some h
      exact ⟨List.mem_cons_of_mem _ a, b⟩
theorem narrowAt_none {n m : Nat} {ps : List P3} : ∀ {l : List Nat}, narrowAt n ps m l = none → ∀ p ∈ l, ¬ spN n ps p m < m
  | [], _, p, hp => by cases hp
  | q :: l, h, p, hp => by
    unfold narrowAt at h
    split at h
    · cases h
    · rename_i c
      rcases List.mem_cons.mp hp with rfl | hp
      · exact c
      · exact narrowAt_none h p hp
theorem wide_of {n m : Nat} {ps : List P3} (hn : okNet n ps) (h : ∀ p, p ≠ 0 → p < n → ¬ spN n ps p m < m) : Wide (openOf ps) n m := by
  intro S G hS
  obtain ⟨v, hv⟩ := List.exists_mem_of_ne_nil S hS
  have v0 : v ≠ 0 := fun z => G.no0 (z ▸ hv)
  have hvn := G.lt v hv
  have h1 : spN n ps v m ≤ m := spR_spec.1
  have h2 := h v v0 hvn
  exact (spR_iff (many := m) (edOk_open hn) v0 hvn).mp (show spR n (openOf ps) v m = m by unfold spN at h1 h2; omega) S G hv
noncomputable def apartD (n : Nat) (ps : List P3) (m : Nat) : D := match narrowAt n ps m (List.range' 1 (n - 1)) with
  | some p => waysD n ps p m
  | none => .tup [.str "trees", .lst (dRows (treesD n ps m))]
noncomputable def F_apart : FN
  | [.net _ s ds, .val (.int m)] => (unNet s ds).bind fun x => if 0 ≤ m ∧ m ≤ 1000 then some (.inl (.val (apartD x.1 x.2 m.toNat))) else none
  | _ => none
theorem F_apartE {md : Md} {s m : Nat} {ps : List P3} (h : okNet s ps) (hm : m ≤ 1000) : F_apart [.net md (s : Int) (dPs ps), .val (.int (m : Int))] = some (.inl (.val (apartD s ps m))) := by
  show (unNet _ _).bind _ = _
  rw [unNet_of h]
  exact ite_some ⟨Int.natCast_nonneg m, by omega⟩
/-- apart: 0 net 1 many 2 place 3 found -/
def t_apart : VT := (seqT (forT (lRng2 (vC (.int 1)) (v1 slD (v1 inlO (xMeth 1 F_size 0 rNil)))) (gN 2) (seqT (asgV 3 (v1 slD (v1 inlO (xCall 3 F_ways (rS 0 (rV (vVar 2) (rV (vVar 1) rNil))))))) (seqT (ifT (bV (v2 fEq (v2 fIx (vVar 3) (vC (.int 0))) (vC (.str "narrow")))) (seqT (retV (vVar 3)) skipT) skipT) skipT))) (seqT (retV (vTup (aCons (vC (.str "trees")) (aCons (v1 slD (v1 inlO (xCall 2 F_trees_of (rS 0 (rV (vVar 1) rNil))))) aNil)))) skipT))
theorem waysD0 {n p m : Nat} {ps : List P3} (h : spN n ps p m < m) : waysD n ps p m = .tup [.str "narrow", .lst (dNs (setOf n ps p (spN n ps p m)))] := by unfold waysD; rw [if_pos h]
theorem waysD1 {n p m : Nat} {ps : List P3} (h : ¬ spN n ps p m < m) : waysD n ps p m = .tup [.str "ways", .lst (dRows (rowsOf n ps p m (spN n ps p m)))] := by unfold waysD; rw [if_neg h]
theorem v_apart : ∀ ss r, ss.length = 2 → F_apart ss = some r → t_apart (postP r) (En0 ss 4) ∧ ∃ s, r = .inl s := by
  intro ss r hl h
  unfold F_apart at h
  split at h
  · rename_i md s ds m
    obtain ⟨x, e1, h'⟩ := Option.bind_eq_some_iff.mp h
    clear h
    split at h'
    · rename_i hs
      have h'' := Option.some.inj h'
      clear h'
      subst h''
      obtain ⟨rfl, rfl, hn⟩ := unNet_some e1
      clear e1
      obtain ⟨n, ps⟩ := x
      obtain ⟨m, rfl⟩ := Int.eq_ofNat_of_zero_le hs.1
      simp only [Int.toNat_natCast] at hn ⊢
      have hn1 := hn.2.1
      refine ⟨?_, _, rfl⟩
      refine ⟨_, rng2e (i := 1) (j := n) rfl (v1e (v1e (xm rfl (xc rfl ⟨rfl, rfl⟩ rfl rfl)) rfl) rfl) (by omega) (by omega), ?_⟩
      refine loopT_inv (enc := dInt) (fun rest Γ => ∃ (v2' v3 : Option Sl), (∀ p ∈ rest, p ∈ List.range' 1 (n - 1)) ∧ narrowAt n ps m rest = narrowAt n ps m (List.range' 1 (n - 1)) ∧ Γ = [some (.net md (n : Int) (dPs ps)), some (.val (.int (m : Int))), v2', v3]) ?_ ?_ _ _ ⟨none, none, fun _ h => h, rfl, rfl⟩
      · rintro p rest Γ kk ⟨v2', v3, hr, hq, rfl⟩ hk
        refine ⟨_, rfl, ?_⟩
        have hp := hr p (by simp)
        rw [List.mem_range'_1] at hp
        refine ⟨waysD n ps p m, v1e (v1e (xc rfl ⟨rfl, rfl⟩ rfl (F_ways_yes hn (by omega) (by omega) (by omega))) rfl) rfl, ?_⟩
        rw [show narrowAt n ps m (p :: rest) = if spN n ps p m < m then some p else narrowAt n ps m rest from rfl] at hq
        by_cases c : spN n ps p m < m
        · rw [if_pos c] at hq
          refine if_t (bVe (v2e (x := .str "narrow") (v2e (x := waysD n ps p m) rfl rfl (by rw [waysD0 c]; rfl)) rfl fEq_nn)) ?_
          refine ⟨_, rfl, ?_⟩
          show (Sum.inl (Sl.val (apartD n ps m)) : Rs) = _
          unfold apartD
          rw [← hq]
        · rw [if_neg c] at hq
          refine if_f (bVe (v2e (x := .str "ways") (v2e (x := waysD n ps p m) rfl rfl (by rw [waysD1 c]; rfl)) rfl fEq_wn)) ?_
          exact hk _ ⟨_, _, fun a ha => hr a (List.mem_cons_of_mem _ ha), hq, rfl⟩
      · rintro Γ ⟨v2', v3, _, hq, rfl⟩
        have hq : none = narrowAt n ps m (List.range' 1 (n - 1)) := hq
        have W : Wide (openOf ps) n m := wide_of hn fun p h1 h2 => narrowAt_none hq.symm p (by rw [List.mem_range'_1]; omega)
        refine ⟨apartD n ps m, ?_, rfl⟩
        unfold apartD
        rw [← hq]
        have hb : v1 slD (v1 inlO (xCall 2 F_trees_of (rS 0 (rV (vVar 1) rNil)))) [some (Sl.net md (n : Int) (dPs ps)), some (.val (.int (m : Int))), v2', v3] = some (.lst (dRows (treesD n ps m))) :=
          v1e (v1e (xc rfl ⟨rfl, rfl⟩ rfl (F_treesOf hn (by omega) W)) rfl) rfl
        unfold vTup
        rw [show (aCons (vC (.str "trees")) (aCons (v1 slD (v1 inlO (xCall 2 F_trees_of (rS 0 (rV (vVar 1) rNil))))) aNil)) _ = some [.str "trees", .lst (dRows (treesD n ps m))] from by
          unfold aCons
          exact Option.bind_eq_some_iff.mpr ⟨_, rfl, Option.bind_eq_some_iff.mpr ⟨_, Option.bind_eq_some_iff.mpr ⟨_, hb, rfl⟩, rfl⟩⟩]
        rfl
    · cases h'
  · cases h
theorem apart_cases {n m : Nat} {ps : List P3} (hn : okNet n ps) : (∃ p, p ≠ 0 ∧ p < n ∧ spN n ps p m < m ∧ apartD n ps m = waysD n ps p m) ∨ (Wide (openOf ps) n m ∧ apartD n ps m = .tup [.str "trees", .lst (dRows (treesD n ps m))]) := by
  unfold apartD
  cases q : narrowAt n ps m (List.range' 1 (n - 1)) with
  | some p =>
    obtain ⟨a, b⟩ := narrowAt_some q
    rw [List.mem_range'_1] at a
    exact .inl ⟨p, by omega, by omega, b, rfl⟩
  | none => exact .inr ⟨wide_of hn fun p h1 h2 => narrowAt_none q p (by rw [List.mem_range'_1]; omega), rfl⟩
theorem str_tt : decide (("trees" : Str) = "trees") = true := by decide +kernel
theorem str_tn : decide (("trees" : Str) = "narrow") = false := by decide +kernel
theorem fEq_tt : fEq (.str "trees") (.str "trees") = some (.bl true) := congrArg (fun b => some (D.bl b)) str_tt
theorem fEq_tn : fEq (.str "trees") (.str "narrow") = some (.bl false) := congrArg (fun b => some (D.bl b)) str_tn
def F_law_right_k09 : FN
  | [.net _ s ds, .val (.int s'), .val (.lst ds'), .val (.int m)] => (unNet s ds).bind fun x => (decs ds' : Option (List P3)).bind fun ps' => if s' = s ∧ ps' = x.2 ∧ 0 ≤ m ∧ m ≤ 1000 then some (.inl (.val (.bl true))) else none
  | _ => none
theorem F_right09 {md : Md} {s m : Nat} {ps : List P3} (h : okNet s ps) (hm : m ≤ 1000) : F_law_right_k09 [.net md (s : Int) (dPs ps), .val (.int (s : Int)), .val (.lst (dPs ps)), .val (.int (m : Int))] = some (.inl (.val (.bl true))) := by
  show (unNet _ _).bind _ = _
  rw [unNet_of h, Option.bind_some, decs_dPs, Option.bind_some]
  exact ite_some ⟨rfl, rfl, by omega, by omega⟩
/-- _law_right: 0 net 1 size 2 pipes 3 many 4 found -/
def t_law_right_k09 : VT := (seqT (asgV 4 (v1 slD (v1 inlO (xCall 2 F_apart (rS 0 (rV (vVar 3) rNil)))))) (seqT (ifT (bOr (bNot (bV (v1 (fIsi "tuple") (vVar 4)))) (bOr (bV (v2 fNe (v1 fLen (vVar 4)) (vC (.int 2)))) (bNot (bV (v1 (fIsi "str") (v2 fIx (vVar 4) (vC (.int 0)))))))) (seqT (retV (vC (.bl false))) skipT) skipT) (seqT (ifT (bV (v2 fEq (v2 fIx (vVar 4) (vC (.int 0))) (vC (.str "narrow")))) (seqT (retV (v1 slD (v1 inlO (xCall 4 F_law_narrow (rV (v2 fIx (vVar 4) (vC (.int 1))) (rV (vVar 1) (rV (vVar 2) (rV (vVar 3) rNil)))))))) skipT) skipT) (seqT (retV (vAnd (v2 fEq (v2 fIx (vVar 4) (vC (.int 0))) (vC (.str "trees"))) (v1 slD (v1 inlO (xCall 4 F_law_trees_apart (rV (v2 fIx (vVar 4) (vC (.int 1))) (rV (vVar 1) (rV (vVar 2) (rV (vVar 3) rNil))))))))) skipT))))
theorem v_law_right_k09 : ∀ ss r, ss.length = 4 → F_law_right_k09 ss = some r → t_law_right_k09 (postP r) (En0 ss 5) ∧ ∃ s, r = .inl s := by
  intro ss r hl h
  unfold F_law_right_k09 at h
  split at h
  · rename_i md s ds s' ds' m
    obtain ⟨x, e1, h1⟩ := Option.bind_eq_some_iff.mp h
    obtain ⟨ps', e2, h2⟩ := Option.bind_eq_some_iff.mp h1
    clear h h1
    split at h2
    · rename_i hc
      have h4 := Option.some.inj h2
      clear h2
      subst h4
      obtain ⟨rfl, rfl, hn⟩ := unNet_some e1
      cases dPs_some e2
      clear e1 e2
      obtain ⟨rfl, rfl, c3, c4⟩ := hc
      obtain ⟨n, ps⟩ := x
      simp only at hn ⊢
      obtain ⟨m, rfl⟩ := Int.eq_ofNat_of_zero_le c3
      have hn1 := hn.2.1
      have hn2 := hn.2.2.2
      refine ⟨?_, _, rfl⟩
      refine ⟨apartD n ps m, v1e (v1e (xc rfl ⟨rfl, rfl⟩ rfl (F_apartE hn (by omega))) rfl) rfl, ?_⟩
      rcases apart_cases (m := m) hn with ⟨p, h0, hp, d, eD⟩ | ⟨W, eD⟩
      · rw [eD, waysD0 d]
        obtain ⟨s1, s2⟩ := set_cut hn h0 hp d
        have s3 := good_len (set_good (n := n) (p := p) (r := spN n ps p m) (ps := ps))
        refine if_f (dec_f (p := (¬ True) ∨ (False ∨ ¬ True)) (by simp) (bOr_d (bNot_d (bVe (v1e rfl isi_tup))) fun _ => bOr_d (bVe (v2e (x := .int 2) rfl rfl rfl)) fun _ => bNot_d (bVe (v1e (x := .str "narrow") rfl isi_str)))) ?_
        refine if_t (bVe (v2e (x := .str "narrow") rfl rfl fEq_nn)) ?_
        refine ⟨.bl true, v1e (v1e (xc rfl ⟨rfl, rfl⟩ rfl (F_lawNarrow set_good (by intro z; rw [z] at s1; cases s1) (by omega) (by omega))) rfl) ?_, rfl⟩
        show some (D.bl (decide (((lawInto ps (setOf n ps p (spN n ps p m))).length : Int) < (m : Int)))) = _
        rw [s2, decide_eq_true (by omega)]
      · rw [eD]
        refine if_f (dec_f (p := (¬ True) ∨ (False ∨ ¬ True)) (by simp) (bOr_d (bNot_d (bVe (v1e rfl isi_tup))) fun _ => bOr_d (bVe (v2e (x := .int 2) rfl rfl rfl)) fun _ => bNot_d (bVe (v1e (x := .str "trees") rfl isi_str)))) ?_
        refine if_f (bVe (v2e (x := .str "trees") rfl rfl fEq_tn)) ?_
        exact ⟨.bl true, vAnd_t (v2e (x := .str "trees") rfl rfl fEq_tt) (v1e (v1e (xc rfl ⟨rfl, rfl⟩ rfl (F_treesApart hn (trees_ok hn W))) rfl) rfl), rfl⟩
    · cases h2
  · cases h
def F_law_k09 : FN
  | [.val (.scr _)] => some (.inl (.val (.bl true)))
  | _ => none
theorem F_law_k09_t (ns : List Int) (_ : ns.length ≤ 63) : F_law_k09 [.val (.scr ns)] = some (.inl (.val (.bl true))) := rfl
/-- law: 0 script 1 head 2 size 3 count 4 pipes 5 many 6 net -/
def t_law_k09 : VT := (seqT (asgV 1 (v1 slD (v1 inlO (xCall 2 F_law_cell_at (rV (vVar 0) (rV (vC (.int 0)) rNil)))))) (seqT (asgV 2 (v2 fAdd (vC (.int 1)) (v2 fMod (vVar 1) (vC (.int 5))))) (seqT (asgV 3 (v2 fMod (v1 slD (v1 inlO (xCall 2 F_law_cell_at (rV (vVar 0) (rV (vC (.int 1)) rNil))))) (vC (.int 15)))) (seqT (ifT (bV (v2 fEq (v2 fMod (v2 fDiv (vVar 1) (vC (.int 5))) (vC (.int 16))) (vC (.int 1)))) (seqT (asgV 2 (vC (.int 8))) (seqT (asgV 3 (v2 fAdd (vC (.int 14)) (v2 fMod (v1 slD (v1 inlO (xCall 2 F_law_cell_at (rV (vVar 0) (rV (vC (.int 1)) rNil))))) (vC (.int 11))))) skipT)) skipT) (seqT (asgO 4 (v1 inlO (xCall 4 F_law_pipes_by (rV (vVar 0) (rV (vC (.int 4)) (rV (vVar 3) (rV (vVar 2) rNil))))))) (seqT (asgV 5 (v2 fMod (v1 slD (v1 inlO (xCall 2 F_law_cell_at (rV (vVar 0) (rV (vC (.int 2)) rNil))))) (vC (.int 4)))) (seqT (ifT (bV (v2 fEq (v2 fMod (v2 fDiv (v1 slD (v1 inlO (xCall 2 F_law_cell_at (rV (vVar 0) (rV (vC (.int 2)) rNil))))) (vC (.int 4))) (vC (.int 8))) (vC (.int 1)))) (seqT (asgV 5 (v2 fMod (v2 fDiv (v1 slD (v1 inlO (xCall 2 F_law_cell_at (rV (vVar 0) (rV (vC (.int 2)) rNil))))) (vC (.int 32))) (vC (.int 6)))) skipT) skipT) (seqT (asgO 6 (v1 inlO (xCall 2 F_law_net_by (rV (vVar 2) (rS 4 rNil))))) (seqT (ifT (bFrz (bNot (bV (v1 slD (v1 inlO (xCall 4 F_law_right_k09 (rS 6 (rV (vVar 2) (rV (vVar 4) (rV (vVar 5) rNil)))))))))) (seqT (retV (vC (.bl false))) skipT) skipT) (seqT (cmT none 4 G_law_turn_one (rS 6 (rV (vVar 2) (rS 4 (rV (v1 slD (v1 inlO (xCall 2 F_law_cell_at (rV (vVar 0) (rV (vC (.int 3)) rNil))))) rNil))))) (seqT (retV (vFrz (v1 slD (v1 inlO (xCall 4 F_law_right_k09 (rS 6 (rV (vVar 2) (rV (vVar 4) (rV (vVar 5) rNil))))))))) skipT)))))))))))
theorem v_law_k09 : ∀ ss r, ss.length = 1 → F_law_k09 ss = some r → t_law_k09 (postP r) (En0 ss 7) ∧ ∃ s, r = .inl s := by
  intro ss r hl h
  unfold F_law_k09 at h
  split at h
  · rename_i ns
    have h1 := Option.some.inj h
    clear h
    subst h1
    refine ⟨?_, _, rfl⟩
    refine ⟨.int (cellAt ns 0), cellE (k := 0) rfl, ?_⟩
    refine ⟨.int (1 + cellAt ns 0 % 5), v2e rfl (v2e rfl rfl (fMod_pos (by omega))) rfl, ?_⟩
    refine ⟨.int (cellAt ns 1 % 15), v2e (cellE (k := 1) rfl) rfl (fMod_pos (by omega)), ?_⟩
    obtain ⟨n, hn0, n1, n8⟩ : ∃ n : Nat, (n : Int) = (if cellAt ns 0 / 5 % 16 = 1 then 8 else 1 + cellAt ns 0 % 5) ∧ 1 ≤ n ∧ n ≤ 8 := by
      have a1 : 0 ≤ cellAt ns 0 % 5 := Int.emod_nonneg _ (by omega)
      have a2 : cellAt ns 0 % 5 < 5 := Int.emod_lt_of_pos _ (by omega)
      refine ⟨(if cellAt ns 0 / 5 % 16 = 1 then 8 else 1 + cellAt ns 0 % 5).toNat, ?_, ?_, ?_⟩ <;> split <;> omega
    obtain ⟨ct, hc0, c60⟩ : ∃ n : Nat, (n : Int) = (if cellAt ns 0 / 5 % 16 = 1 then 14 + cellAt ns 1 % 11 else cellAt ns 1 % 15) ∧ n ≤ 30 := by
      have a1 : 0 ≤ cellAt ns 1 % 15 := Int.emod_nonneg _ (by omega)
      have a2 : cellAt ns 1 % 15 < 15 := Int.emod_lt_of_pos _ (by omega)
      have a3 : 0 ≤ cellAt ns 1 % 11 := Int.emod_nonneg _ (by omega)
      have a4 : cellAt ns 1 % 11 < 11 := Int.emod_lt_of_pos _ (by omega)
      refine ⟨(if cellAt ns 0 / 5 % 16 = 1 then 14 + cellAt ns 1 % 11 else cellAt ns 1 % 15).toNat, ?_, ?_⟩ <;> split <;> omega
    obtain ⟨m, hm1, hm2⟩ : ∃ m : Nat, (m : Int) = (if cellAt ns 2 / 4 % 8 = 1 then cellAt ns 2 / 32 % 6 else cellAt ns 2 % 4) ∧ m ≤ 1000 := by
      have a1 : 0 ≤ cellAt ns 2 % 4 := Int.emod_nonneg _ (by omega)
      have a2 : cellAt ns 2 % 4 < 4 := Int.emod_lt_of_pos _ (by omega)
      have a3 : 0 ≤ cellAt ns 2 / 32 % 6 := Int.emod_nonneg _ (by omega)
      have a4 : cellAt ns 2 / 32 % 6 < 6 := Int.emod_lt_of_pos _ (by omega)
      refine ⟨(if cellAt ns 2 / 4 % 8 = 1 then cellAt ns 2 / 32 % 6 else cellAt ns 2 % 4).toNat, ?_, ?_⟩ <;> split <;> omega
    refine if_to (Γ' := [some (.val (.scr ns)), some (.val (.int (cellAt ns 0))), some (.val (.int (n : Int))), some (.val (.int (ct : Int))), none, none, none]) (p := cellAt ns 0 / 5 % 16 = 1) (bVe (v2e (v2e (v2e rfl rfl (fDiv_pos (by omega) (by omega))) rfl (fMod_pos (by omega))) rfl rfl)) (fun c Q hq => ?_) (fun c Q hq => ?_) ?_
    · rw [if_pos c] at hn0 hc0
      rw [hn0] at hq
      refine ⟨_, rfl, ?_⟩
      refine ⟨.int (ct : Int), v2e (y := .int (cellAt ns 1 % 11)) rfl (v2e (cellE (k := 1) rfl) rfl (fMod_pos (by omega))) (by rw [hc0]; rfl), hq⟩
    · rw [if_neg c] at hn0 hc0
      rw [hn0, hc0] at hq
      exact hq
    have hn := okNet_by (ns := ns) (first := 4) (many := ct) (n := n) (by omega) (by omega) (by omega)
    generalize hps : pipesBy ns 4 ct n = ps at hn
    refine ⟨.own .loc (dPs ps), v1e (xc rfl ⟨rfl, rfl⟩ rfl (F_pipesBy (f := 4) (m := ct) (s := n) (by omega) (by omega))) (by rw [hps]; rfl), ?_⟩
    refine ⟨.int (cellAt ns 2 % 4), v2e (cellE (k := 2) rfl) rfl (fMod_pos (by omega)), ?_⟩
    refine if_to (Γ' := [some (.val (.scr ns)), some (.val (.int (cellAt ns 0))), some (.val (.int (n : Int))), some (.val (.int (ct : Int))), some (.own .loc (dPs ps)), some (.val (.int (m : Int))), none]) (p := cellAt ns 2 / 4 % 8 = 1) (bVe (v2e (v2e (v2e (cellE (k := 2) rfl) rfl (fDiv_pos (by omega) (by omega))) rfl (fMod_pos (by omega))) rfl rfl)) (fun c Q hq => ?_) (fun c Q hq => ?_) ?_
    · rw [if_pos c] at hm1
      refine ⟨.int (m : Int), v2e (v2e (cellE (k := 2) rfl) rfl (fDiv_pos (by omega) (by omega))) rfl (by rw [fMod_pos (by omega), hm1]), hq⟩
    · rw [if_neg c] at hm1
      rw [hm1] at hq
      exact hq
    refine ⟨.net .loc (n : Int) (dPs ps), v1e (xc rfl ⟨rfl, rfl⟩ rfl (F_netBy rfl hn)) rfl, ?_⟩
    refine if_f (dec_f (p := ¬ True) (by simp) (bNot_d (bVe (v1e (v1e (xc rfl ⟨rfl, rfl⟩ rfl (F_right09 hn hm2)) rfl) rfl)))) ?_
    have hn' := turnOne_ok (c := cellAt ns 3) hn
    refine ⟨_, _, _, _, rfl, ⟨rfl, rfl⟩, rfl, G_turnOne (c := cellAt ns 3) hn, ?_⟩
    exact ⟨.bl true, vFrzE (v1e (v1e (xc rfl ⟨rfl, rfl⟩ rfl (F_right09 hn' hm2)) rfl) rfl) rfl, rfl⟩
  · cases h
end Z

set_option maxRecDepth 100000
namespace Z
open PySem PySem.Spec PyProof.Rows L2
section
variable {X : Cx} {g : Glo} {W : WX} {st : Stmt}
/-! ### a.append(b.pop(k)) -/
theorem Reps.erase {K : PySem.W.Frag} {H : Hp} : ∀ {ds : List D} {vs : List V} {i : Nat}, Reps K H vs ds → Reps K H (vs.eraseIdx i) (ds.eraseIdx i)
  | [], _, _, h => by rw [reps_nil.mp h]; exact Reps.nil
  | d :: ds, _, 0, h => by
    obtain ⟨v, r, rfl, h1, h2⟩ := reps_cons.mp h
    exact h2
  | d :: ds, _, i + 1, h => by
    obtain ⟨v, r, rfl, h1, h2⟩ := reps_cons.mp h
    exact Reps.cons h1 (Reps.erase h2)
def appPopT (i j : Nat) (f : VF) : VT := fun Q Γ => ownT i (fun m ds => ownT j (fun m' es => ∃ (k : Nat) (d : D), f Γ = some (.int (k : Int)) ∧ es[k]? = some d ∧ k ≤ 1000000 ∧ ds.length ≤ 1000000 ∧
  Q (.nx ((Γ.set j (some (.own m' (es.eraseIdx k)))).set i (some (.own m (ds ++ [d])))))) Γ) Γ
theorem seq_nat {k n : Nat} (h : k < n) : seqIndex? (k : Int) n = some k := by
  unfold seqIndex?
  have h0 : ¬ ((k : Int) < 0) := by omega
  simp only [if_neg h0]
  have : (decide (0 ≤ (k : Int)) && decide ((k : Int) < (n : Int))) = true := by simp [h]
  rw [if_pos this, Int.toNat_natCast]
theorem s_appPop {i j : Nat} {f : VF} (hij : i ≠ j) (h : PS X st (tDrop (tBM g.K "list" rAppend (tVar i) (tCons (tBM g.K "list" rPopAt (tVar j) (tCons (eV g f) tNil)) tNil)))) : PS X st (sV g W (appPopT i j f)) := PS_mono h fun De σ H ⟨c, Q, Γ, Hb, ow, t, S, F, L⟩ => by
  obtain ⟨m, ds, e0, hm, t2⟩ := ownT_get t
  obtain ⟨m', es, e0', hm', k, d, e1, e2, hk, hl, q⟩ := ownT_get t2
  obtain ⟨v, z1, a, vs, rfl, o, h1, h2⟩ := S.slots i _ e0
  obtain ⟨v', z1', b, us, rfl, o', h1', h2'⟩ := S.slots j _ e0'
  refine ⟨_, z1, tyV_lst h1, _, z1', tyV_lst h1', Γ, Hb, ow, _, e1, S, fun u Hb1 H1 g1 r => ?_⟩
  have h1g := g1.h _ _ h1
  have h1g' := g1.h _ _ h1'
  obtain ⟨y, ey, ry⟩ := h2'.get e2
  have hkl : k < us.length := (List.getElem?_eq_some_iff.mp ey).1
  have big : (2 : Int) ^ 63 = 9223372036854775808 := by decide +kernel
  refine ⟨b, us, (k : Int), k, y, rfl, by rw [rep_int.mp r], h1g', by rw [big]; omega, by rw [big]; omega, seq_nat hkl, ey, ?_⟩
  have nab : a ≠ b := fun z => hij (by rw [z, o'] at o; exact (Option.some.inj o).symm)
  have S1 := (S.grow g1).change (o := .lst (us.eraseIdx k)) (s' := .own m' (es.eraseIdx k)) o' z1' ⟨b, _, rfl, o', upd_same, (h2'.same g1.hb).erase⟩
  have F1 := (F.grow g1).change (o := .lst (us.eraseIdx k)) (s' := .own m' (es.eraseIdx k)) o' e0' (md_cases hm') rfl
  have e3 : (Γ.set j (some (.own m' (es.eraseIdx k))))[i]? = some (some (.own m ds)) := by rw [List.getElem?_set_ne (Ne.symm hij)]; exact e0
  refine ⟨a, vs, y, rfl, rfl, by rw [upd_ne nab]; exact h1g, lt_line (by rw [h2.len]; exact hl), ?_⟩
  exact L.nx _ σ Hb1 _ ow q (S1.change o z1 ⟨a, _, rfl, o, upd_same, (h2.same g1.hb).append (Reps.one (ry.same g1.hb))⟩) (F1.change o e3 (md_cases hm) rfl)
end
end Z

set_option maxRecDepth 100000
namespace Z
open PySem PySem.Spec PyProof.Rows L2

/-! ### the most trees -/
noncomputable def leastGo (n : Nat) (ps : List P3) : List Nat → Nat → Nat
  | [], p => p
  | q :: l, p => leastGo n ps l (if widN n ps q < widN n ps p then q else p)
theorem leastGo_spec {n : Nat} {ps : List P3} : ∀ {l : List Nat} {p : Nat}, (leastGo n ps l p = p ∨ leastGo n ps l p ∈ l) ∧ widN n ps (leastGo n ps l p) ≤ widN n ps p ∧ ∀ q ∈ l, widN n ps (leastGo n ps l p) ≤ widN n ps q
  | [], p => ⟨.inl rfl, Nat.le_refl _, fun q h => (nomatch h)⟩
  | q :: l, p => by
    obtain ⟨h1, h2, h3⟩ := leastGo_spec (n := n) (ps := ps) (l := l) (p := if widN n ps q < widN n ps p then q else p)
    unfold leastGo
    refine ⟨?_, ?_, fun r hr => ?_⟩
    · rcases h1 with z | z
      · rw [z]
        split
        · exact .inr (by simp)
        · exact .inl rfl
      · exact .inr (List.mem_cons_of_mem _ z)
    · refine Nat.le_trans h2 ?_
      split <;> omega
    · rcases List.mem_cons.mp hr with rfl | hr
      · refine Nat.le_trans h2 ?_
        split <;> omega
      · exact h3 r hr
noncomputable def leastP (n : Nat) (ps : List P3) : Nat := leastGo n ps (List.range' 2 (n - 2)) 1
theorem leastP_ok {n : Nat} {ps : List P3} (h : 2 ≤ n) : leastP n ps ≠ 0 ∧ leastP n ps < n ∧ ∀ q, q ≠ 0 → q < n → widN n ps (leastP n ps) ≤ widN n ps q := by
  obtain ⟨h1, h2, h3⟩ := leastGo_spec (n := n) (ps := ps) (l := List.range' 2 (n - 2)) (p := 1)
  have hm : leastP n ps = 1 ∨ (2 ≤ leastP n ps ∧ leastP n ps < 2 + (n - 2)) := h1.imp id fun z => List.mem_range'_1.mp z
  refine ⟨by omega, by omega, fun q q0 qn => ?_⟩
  by_cases c : q = 1
  · subst c; exact h2
  · exact h3 q (List.mem_range'_1.mpr (by omega))
theorem least_wide {n : Nat} {ps : List P3} (hn : okNet n ps) (h : 2 ≤ n) : Wide (openOf ps) n (widN n ps (leastP n ps)) := wide_of hn fun p p0 pn => by
  have := (leastP_ok (ps := ps) h).2.2 p p0 pn
  rw [spN_min hn p0 pn]
  omega
noncomputable def mostD (n : Nat) (ps : List P3) : D := .tup [.int (widN n ps (leastP n ps) : Int), .lst (dRows (treesD n ps (widN n ps (leastP n ps)))), .lst (dNs (setOf n ps (leastP n ps) (widN n ps (leastP n ps))))]
noncomputable def F_most_apart : FN
  | [.net _ s ds] => (unNet s ds).bind fun x => if 2 ≤ s then some (.inl (.val (mostD x.1 x.2))) else none
  | _ => none
theorem F_mostE {md : Md} {s : Nat} {ps : List P3} (h : okNet s ps) (h2 : 2 ≤ s) : F_most_apart [.net md (s : Int) (dPs ps)] = some (.inl (.val (mostD s ps))) := by
  show (unNet _ _).bind _ = _
  rw [unNet_of h]
  exact ite_some (show (2 : Int) ≤ (s : Int) by omega)
/-- most_apart: 0 net 1 least 2 place 3 found -/
def t_most_apart : VT := (seqT (asgV 1 (v1 slD (v1 inlO (xCall 2 F_widest (rS 0 (rV (vC (.int 1)) rNil)))))) (seqT (forT (lRng2 (vC (.int 2)) (v1 slD (v1 inlO (xMeth 1 F_size 0 rNil)))) (gN 2) (seqT (asgV 3 (v1 slD (v1 inlO (xCall 2 F_widest (rS 0 (rV (vVar 2) rNil)))))) (seqT (ifT (bV (v2 fLt (v2 fIx (vVar 3) (vC (.int 0))) (v2 fIx (vVar 1) (vC (.int 0))))) (seqT (asgV 1 (vVar 3)) skipT) skipT) skipT))) (seqT (retV (vTup (aCons (v2 fIx (vVar 1) (vC (.int 0))) (aCons (v1 slD (v1 inlO (xCall 2 F_trees_of (rS 0 (rV (v2 fIx (vVar 1) (vC (.int 0))) rNil))))) (aCons (v2 fIx (vVar 1) (vC (.int 2))) aNil))))) skipT)))
theorem v_most_apart : ∀ ss r, ss.length = 1 → F_most_apart ss = some r → t_most_apart (postP r) (En0 ss 4) ∧ ∃ s, r = .inl s := by
  intro ss r hl h
  unfold F_most_apart at h
  split at h
  · rename_i md s ds
    obtain ⟨x, e1, h'⟩ := Option.bind_eq_some_iff.mp h
    clear h
    split at h'
    · rename_i hs
      have h'' := Option.some.inj h'
      clear h'
      subst h''
      obtain ⟨rfl, rfl, hn⟩ := unNet_some e1
      clear e1
      obtain ⟨n, ps⟩ := x
      simp only at hn hs ⊢
      have hn1 := hn.2.1
      refine ⟨?_, _, rfl⟩
      refine ⟨widD n ps 1, v1e (v1e (xc rfl ⟨rfl, rfl⟩ rfl (F_widest_yes (p := 1) hn (by omega) (by omega))) rfl) rfl, ?_⟩
      refine ⟨_, rng2e (i := 2) (j := n) rfl (v1e (v1e (xm rfl (xc rfl ⟨rfl, rfl⟩ rfl rfl)) rfl) rfl) (by omega) (by omega), ?_⟩
      refine loopT_inv (enc := dInt) (fun rest Γ => ∃ (p : Nat) (v2' v3 : Option Sl), (∀ q ∈ rest, q ∈ List.range' 2 (n - 2)) ∧ leastGo n ps rest p = leastP n ps ∧ Γ = [some (.net md (n : Int) (dPs ps)), some (.val (widD n ps p)), v2', v3]) ?_ ?_ _ _ ⟨1, none, none, fun _ h => h, rfl, rfl⟩
      · rintro q rest Γ kk ⟨p, v2', v3, hr, hq, rfl⟩ hk
        refine ⟨_, rfl, ?_⟩
        have hqm := hr q (by simp)
        rw [List.mem_range'_1] at hqm
        refine ⟨widD n ps q, v1e (v1e (xc rfl ⟨rfl, rfl⟩ rfl (F_widest_yes (p := q) hn (by omega) (by omega))) rfl) rfl, ?_⟩
        refine if_to (Γ' := [some (.net md (n : Int) (dPs ps)), some (.val (widD n ps (if widN n ps q < widN n ps p then q else p))), some (.val (dInt q)), some (.val (widD n ps q))]) (p := widN n ps q < widN n ps p) (bVe (v2e (x := dInt (widN n ps q)) (y := dInt (widN n ps p)) rfl rfl (by show some (D.bl (decide ((widN n ps q : Int) < (widN n ps p : Int)))) = _; simp))) (fun c Q hq => ?_) (fun c Q hq => ?_) ?_
        · rw [if_pos c] at hq
          exact ⟨_, rfl, hq⟩
        · rw [if_neg c] at hq
          exact hq
        · exact hk _ ⟨_, _, _, fun a ha => hr a (List.mem_cons_of_mem _ ha), hq, rfl⟩
      · rintro Γ ⟨p, v2', v3, _, hq, rfl⟩
        have hq : p = leastP n ps := hq
        subst hq
        obtain ⟨l0, l1, l2⟩ := leastP_ok (ps := ps) (show 2 ≤ n by omega)
        have h61 := widN_le (p := leastP n ps) hn
        have W := least_wide hn (show 2 ≤ n by omega)
        refine ⟨mostD n ps, ?_, rfl⟩
        unfold mostD
        generalize leastP n ps = p at *
        have hb : v1 slD (v1 inlO (xCall 2 F_trees_of (rS 0 (rV (v2 fIx (vVar 1) (vC (.int 0))) rNil)))) [some (Sl.net md (n : Int) (dPs ps)), some (.val (widD n ps p)), v2', v3] = some (.lst (dRows (treesD n ps (widN n ps p)))) :=
          v1e (v1e (xc rfl ⟨rfl, rfl⟩ rfl (F_treesOf hn (by omega) W)) rfl) rfl
        unfold vTup
        rw [show (aCons (v2 fIx (vVar 1) (vC (.int 0))) (aCons (v1 slD (v1 inlO (xCall 2 F_trees_of (rS 0 (rV (v2 fIx (vVar 1) (vC (.int 0))) rNil))))) (aCons (v2 fIx (vVar 1) (vC (.int 2))) aNil))) _ = some [.int (widN n ps p : Int), .lst (dRows (treesD n ps (widN n ps p))), .lst (dNs (setOf n ps p (widN n ps p)))] from by
          unfold aCons
          exact Option.bind_eq_some_iff.mpr ⟨_, rfl, Option.bind_eq_some_iff.mpr ⟨_, Option.bind_eq_some_iff.mpr ⟨_, hb, Option.bind_eq_some_iff.mpr ⟨_, Option.bind_eq_some_iff.mpr ⟨_, rfl, rfl⟩, rfl⟩⟩, rfl⟩⟩]
        rfl
    · cases h'
  · cases h
/-! ### orders drawn -/
def nxt (c : Int) : Int := (c * 48271 + 29) % 2147483647
def ordGo : Nat → Int → List Nat → List Nat → List Nat
  | 0, _, _, order => order
  | f + 1, c, rest, order => ordGo f (nxt c) (rest.eraseIdx (nxt c / 3 % rest.length).toNat) (order ++ [(rest[(nxt c / 3 % rest.length).toNat]?).getD 0])
def orderOf (c : Int) (n : Nat) : List Nat := ordGo (n - 1) c (List.range' 1 (n - 1)) [0]
theorem ord_ix {c : Int} {rest : List Nat} (h : rest ≠ []) : (c / 3 % (rest.length : Int)).toNat < rest.length ∧ 0 ≤ c / 3 % (rest.length : Int) := by
  have hl : 0 < rest.length := List.length_pos_iff.mpr h
  have a1 : 0 ≤ c / 3 % (rest.length : Int) := Int.emod_nonneg _ (by omega)
  have a2 : c / 3 % (rest.length : Int) < rest.length := Int.emod_lt_of_pos _ (by omega)
  omega
theorem erase_perm : ∀ {l : List Nat} {k x : Nat}, l[k]? = some x → (x :: l.eraseIdx k).Perm l
  | [], k, x, h => by simp at h
  | y :: l, 0, x, h => by
    cases h
    exact List.Perm.refl _
  | y :: l, k + 1, x, h => by
    have := erase_perm (l := l) (k := k) (x := x) (by simpa using h)
    exact (List.Perm.swap y x _).trans (this.cons y)
theorem ordGo_perm : ∀ {f : Nat} {c : Int} {rest order : List Nat}, rest.length = f → (ordGo f c rest order).Perm (order ++ rest) ∧ ∃ more, ordGo f c rest order = order ++ more
  | 0, c, rest, order, h => by
    have : rest = [] := List.length_eq_zero_iff.mp h
    subst this
    exact ⟨by simp [ordGo], [], by simp [ordGo]⟩
  | f + 1, c, rest, order, h => by
    have hne : rest ≠ [] := fun z => by rw [z] at h; cases h
    obtain ⟨hk, _⟩ := ord_ix (c := nxt c) hne
    have hx : rest[(nxt c / 3 % rest.length).toNat]? = some ((rest[(nxt c / 3 % rest.length).toNat]?).getD 0) := by
      rw [List.getElem?_eq_getElem hk]
      rfl
    unfold ordGo
    generalize (rest[(nxt c / 3 % rest.length).toNat]?).getD 0 = x at *
    generalize (nxt c / 3 % (rest.length : Int)).toNat = k at *
    obtain ⟨p, more, e⟩ := ordGo_perm (f := f) (c := nxt c) (rest := rest.eraseIdx k) (order := order ++ [x]) (by rw [List.length_eraseIdx_of_lt hk]; omega)
    refine ⟨p.trans ?_, [x] ++ more, by rw [e]; simp⟩
    rw [List.append_assoc]
    exact (List.Perm.refl order).append (erase_perm hx)
structure OrdOk (n : Nat) (l : List Nat) : Prop where
  len : l.length = n
  nd : l.Nodup
  lt : ∀ v ∈ l, v < n
  hd : l[0]? = some 0
theorem order_ok {c : Int} {n : Nat} (h : 1 ≤ n) : OrdOk n (orderOf c n) := by
  obtain ⟨p, more, e⟩ := ordGo_perm (f := n - 1) (c := c) (rest := List.range' 1 (n - 1)) (order := [0]) (by simp)
  have p2 : (orderOf c n).Perm (List.range n) := by
    refine p.trans ?_
    rw [List.range_eq_range', show n = n - 1 + 1 by omega, List.range'_succ]
    exact List.Perm.refl _
  refine ⟨by rw [p2.length_eq, List.length_range], p2.nodup_iff.mpr List.nodup_range, fun v hv => List.mem_range.mp (p2.mem_iff.mp hv), ?_⟩
  unfold orderOf
  rw [e]
  rfl
def F_law_order : FN
  | [.val (.int c), .val (.int s)] => if 1 ≤ s ∧ s ≤ 1000 then some (.inl (.own .loc (dNs (orderOf c s.toNat)))) else none
  | _ => none
theorem F_orderE {c : Int} {n : Nat} (h : 1 ≤ n) (h2 : n ≤ 1000) : F_law_order [.val (.int c), .val (.int (n : Int))] = some (.inl (.own .loc (dNs (orderOf c n)))) := ite_some (show 1 ≤ (n : Int) ∧ (n : Int) ≤ 1000 by omega)
/-- _law_order: 0 cell 1 size 2 rest 3 order 4 place -/
def t_law_order : VT := (seqT (asgO 2 (vLc [4] (lRng2 (vC (.int 1)) (vVar 1)) (gN 4) bT (vVar 4))) (seqT (asgO 3 (oLst (aCons (vC (.int 0)) aNil))) (seqT (whileT (bV (v2 fGt (v1 fLenL (lVar 2)) (vC (.int 0)))) (seqT (asgV 0 (v2 fMod (v2 fAdd (v2 fMul (vVar 0) (vC (.int 48271))) (vC (.int 29))) (vC (.int 2147483647)))) (seqT (appPopT 3 2 (v2 fMod (v2 fDiv (vVar 0) (vC (.int 3))) (v1 fLenL (lVar 2)))) skipT))) (seqT (retS 3) skipT))))
theorem dNs_erase (l : List Nat) (k : Nat) : (dNs l).eraseIdx k = dNs (l.eraseIdx k) := by
  unfold dNs
  induction l generalizing k with
  | nil => rfl
  | cons x l ih =>
    cases k with
    | zero => rfl
    | succ k => show _ :: _ = _ :: _; rw [ih]
theorem v_law_order : ∀ ss r, ss.length = 2 → F_law_order ss = some r → t_law_order (postP r) (En0 ss 5) ∧ ∃ s, r = .inl s := by
  intro ss r hl h
  unfold F_law_order at h
  split at h
  · rename_i c s
    split at h
    · rename_i hs
      have h'' := Option.some.inj h
      clear h
      subst h''
      obtain ⟨n, rfl⟩ := Int.eq_ofNat_of_zero_le (show 0 ≤ s by omega)
      rw [Int.toNat_natCast]
      refine ⟨?_, _, rfl⟩
      refine ⟨.own .loc (dNs (List.range' 1 (n - 1))), vlc_map (enc := dInt) (h := dInt) (rng2e (i := 1) (j := n) rfl rfl (by omega) (by omega)) (by simp; omega) (fun k hk => lcS1 rfl rfl rfl), ?_⟩
      refine ⟨_, rfl, ?_⟩
      refine ⟨fun m Γ => ∃ (cc : Int) (rest order : List Nat) (v4 : Option Sl), rest.length = m ∧ ordGo m cc rest order = orderOf c n ∧ order.length + rest.length ≤ 1000 ∧
        Γ = [some (.val (.int cc)), some (.val (.int (n : Int))), some (.own .loc (dNs rest)), some (.own .loc (dNs order)), v4], ⟨n - 1, c, List.range' 1 (n - 1), [0], none, by simp, rfl, by simp; omega, rfl⟩, ?_⟩
      rintro m Γ ⟨cc, rest, order, v4, q1, q2, q3, rfl⟩
      refine ⟨decide (0 < rest.length), bVe (v2e (x := dInt rest.length) (lenNs rfl) rfl (by show some (D.bl (decide ((0 : Int) < (rest.length : Int)))) = _; simp)), fun hb => ?_, fun hb => ?_⟩
      · have hpos := of_decide_eq_true hb
        cases m with
        | zero => omega
        | succ m =>
          have hne : rest ≠ [] := List.length_pos_iff.mp hpos
          obtain ⟨hk, hk0⟩ := ord_ix (c := nxt cc) hne
          have hx : rest[(nxt cc / 3 % rest.length).toNat]? = some ((rest[(nxt cc / 3 % rest.length).toNat]?).getD 0) := by
            rw [List.getElem?_eq_getElem hk]
            rfl
          refine ⟨.int (nxt cc), v2e (v2e (v2e rfl rfl (by show (if (small cc || small 48271) = true then some (D.int (cc * 48271)) else none) = _; rw [show small 48271 = true by decide +kernel, Bool.or_true]; rfl)) rfl rfl) rfl (fMod_pos (by omega)), ?_⟩
          have q2' : ordGo m (nxt cc) (rest.eraseIdx (nxt cc / 3 % rest.length).toNat) (order ++ [(rest[(nxt cc / 3 % rest.length).toNat]?).getD 0]) = orderOf c n := q2
          have hkk : ((((nxt cc / 3 % (rest.length : Int)).toNat : Nat) : Int)) = nxt cc / 3 % (rest.length : Int) := Int.toNat_of_nonneg hk0
          generalize (rest[(nxt cc / 3 % rest.length).toNat]?).getD 0 = x at *
          have hmod : v2 fMod (v2 fDiv (vVar 0) (vC (.int 3))) (v1 fLenL (lVar 2)) [some (.val (.int (nxt cc))), some (.val (.int (n : Int))), some (.own .loc (dNs rest)), some (.own .loc (dNs order)), v4] = some (.int (((nxt cc / 3 % (rest.length : Int)).toNat : Nat) : Int)) :=
            v2e (v2e rfl rfl (fDiv_pos (by omega) (by omega))) (lenNs (ns := rest) rfl) (by rw [hkk]; exact fMod_pos (by omega))
          generalize (nxt cc / 3 % (rest.length : Int)).toNat = k at *
          refine ⟨(by intro z; cases z), (by intro z; cases z), k, dInt x, hmod, by unfold dNs; rw [List.getElem?_map, hx]; rfl, by omega, by rw [dNs_len]; omega, ?_⟩
          have el := List.length_eraseIdx_of_lt hk
          refine ⟨m, by omega, nxt cc, rest.eraseIdx k, order ++ [x], v4, by omega, q2', by rw [List.length_append]; simp; omega, ?_⟩
          rw [dNs_erase, dNs_snoc]
          rfl
      · have h0 : rest.length = 0 := by have := of_decide_eq_false hb; omega
        have hm0 : m = 0 := by omega
        subst hm0
        have q2 : order = orderOf c n := q2
        subst q2
        exact ⟨_, rfl, rfl, rfl⟩
    · cases h
  · cases h
end Z

set_option maxRecDepth 100000
namespace Z
open PySem PySem.Spec PyProof.Rows L2

/-! ### trees laid by hand -/
def oAt (o : List Nat) (j : Nat) : Nat := (o[j]?).getD 0
theorem oAt_some {o : List Nat} {j : Nat} (h : j < o.length) : o[j]? = some (oAt o j) := by unfold oAt; simp [h]
theorem atI_o {o : List Nat} {j : Nat} (h : j < o.length) : atI (dNs o) (j : Int) = some (dInt (oAt o j)) := by
  refine atI_nat ?_
  unfold dNs
  rw [List.getElem?_map, oAt_some h]
  rfl
theorem OrdOk.inj {n i j : Nat} {o : List Nat} (h : OrdOk n o) (hi : i < n) (hj : j < n) (e : oAt o i = oAt o j) : i = j := by
  have h1 := oAt_some (o := o) (j := i) (by rw [h.len]; exact hi)
  have h2 := oAt_some (o := o) (j := j) (by rw [h.len]; exact hj)
  exact (List.getElem?_inj (by rw [h.len]; exact hi) h.nd).mp (by rw [h1, h2, e])
theorem OrdOk.at_lt {n j : Nat} {o : List Nat} (h : OrdOk n o) (hj : j < n) : oAt o j < n := h.lt _ (List.mem_of_getElem? (oAt_some (by rw [h.len]; exact hj)))
/-- the pipe to the k-th place of an order -/
def treeP (ns : List Int) (b : Nat) (o : List Nat) (k : Nat) : P3 := (oAt o (cellAt ns (b + k) % (k : Int)).toNat, oAt o k, true)
theorem treeP_ix {c : Int} {k : Nat} (h : 1 ≤ k) : (c % (k : Int)).toNat < k ∧ 0 ≤ c % (k : Int) := by
  have a1 : 0 ≤ c % (k : Int) := Int.emod_nonneg _ (by omega)
  have a2 : c % (k : Int) < k := Int.emod_lt_of_pos _ (by omega)
  omega
theorem treeP_ok {ns : List Int} {b n k : Nat} {o : List Nat} (h : OrdOk n o) (h1 : 1 ≤ k) (h2 : k < n) : okP n (treeP ns b o k) := by
  obtain ⟨a1, _⟩ := treeP_ix (c := cellAt ns (b + k)) h1
  refine ⟨h.at_lt (by omega), h.at_lt h2, fun e => ?_⟩
  have := h.inj (by omega) h2 e
  omega
def treePs (ns : List Int) (b : Nat) (o : List Nat) (n : Nat) : List P3 := (List.range' 1 (n - 1)).map (treeP ns b o)
def laidT (ns : List Int) (b n turn : Nat) : List P3 := treePs ns (b + 11 * turn) (orderOf (cellAt ns (2 + turn)) n) n
def laids (ns : List Int) (b n t : Nat) : List P3 := (List.range t).flatMap (laidT ns b n)
theorem treePs_ok {ns : List Int} {b n : Nat} {o : List Nat} (h : OrdOk n o) : ∀ p ∈ treePs ns b o n, okP n p := fun p hp => by
  obtain ⟨k, hk, rfl⟩ := List.mem_map.mp hp
  rw [List.mem_range'_1] at hk
  exact treeP_ok h (by omega) (by omega)
theorem laids_ok {ns : List Int} {b n t : Nat} (h : 1 ≤ n) : ∀ p ∈ laids ns b n t, okP n p := fun p hp => by
  obtain ⟨k, _, hk⟩ := List.mem_flatMap.mp hp
  exact treePs_ok (order_ok h) p hk
theorem treePs_len {ns : List Int} {b n : Nat} {o : List Nat} : (treePs ns b o n).length = n - 1 := by simp [treePs]
theorem laids_succ (ns : List Int) (b n t : Nat) : laids ns b n (t + 1) = laids ns b n t ++ laidT ns b n t := by
  unfold laids
  rw [List.range_succ, List.flatMap_append]
  simp
theorem laids_len {ns : List Int} {b n : Nat} : ∀ {t : Nat}, (laids ns b n t).length = t * (n - 1)
  | 0 => by simp [laids]
  | t + 1 => by
    rw [laids_succ, List.length_append, laids_len, Nat.succ_mul]
    show _ + (treePs _ _ _ _).length = _
    rw [treePs_len]
theorem dPs_snoc (l : List P3) (p : P3) : dPs (l ++ [p]) = dPs l ++ [dP p] := by
  unfold dPs
  rw [List.map_append]
  rfl
theorem dPs_len (l : List P3) : (dPs l).length = l.length := List.length_map ..
/-- the inner walk of a tree laid by hand -/
theorem tree_e {Γ : En} {fo fk fc : VF} {ns : List Int} {b n k : Nat} {o : List Nat} (h : OrdOk n o) (h1 : 1 ≤ k) (h2 : k < n) (eo : fo Γ = some (.lst (dNs o))) (ek : fk Γ = some (dInt k)) (ec : fc Γ = some (.int (cellAt ns (b + k)))) :
    vTup (aCons (v2 fIx fo (v2 fMod fc fk)) (aCons (v2 fIx fo fk) (aCons (vC (.bl true)) aNil))) Γ = some (dP (treeP ns b o k)) := by
  obtain ⟨a1, a2⟩ := treeP_ix (c := cellAt ns (b + k)) h1
  have e1 : v2 fIx fo (v2 fMod fc fk) Γ = some (dInt (oAt o (cellAt ns (b + k) % (k : Int)).toNat)) := v2e (y := dInt (cellAt ns (b + k) % (k : Int)).toNat) eo (v2e ec ek (by show fMod (.int _) (.int _) = some (.int (((cellAt ns (b + k) % (k : Int)).toNat : Nat) : Int)); rw [Int.toNat_of_nonneg a2]; exact fMod_pos (by omega))) (atI_o (by rw [h.len]; omega))
  have e2 : v2 fIx fo fk Γ = some (dInt (oAt o k)) := v2e eo ek (atI_o (by rw [h.len]; exact h2))
  unfold vTup aCons aNil
  rw [e1, e2]
  rfl
theorem minOf_eq {r : Int} {l : List Int} (hm : r ∈ l) (hl : ∀ x ∈ l, r ≤ x) : minOf l = r := by
  cases l with
  | nil => cases hm
  | cons x l =>
    obtain ⟨h1, h2, h3⟩ := min_fold l x
    have a : minOf (x :: l) ≤ r := by
      rcases List.mem_cons.mp hm with z | z
      · rw [z]; exact h2
      · exact h1 r z
    have b : r ≤ minOf (x :: l) := by
      rcases h3 with z | z
      · have := hl x (by simp)
        show r ≤ l.foldl _ x
        rw [z]
        exact this
      · exact hl _ (List.mem_cons_of_mem _ z)
    omega
/-- all the pipes of the trees, and more drawn ones -/
theorem laidNet {ns : List Int} {b n t first many : Nat} (h1 : 2 ≤ n) (h2 : n ≤ 12) (h3 : t * (n - 1) + many ≤ 60) : okNet n (laids ns b n t ++ pipesBy ns first many n) := by
  refine ⟨by omega, h2, okPs_iff.mpr fun p hp => ?_, ?_⟩
  · rcases List.mem_append.mp hp with q | q
    · exact laids_ok (by omega) p q
    · exact pipesBy_ok p q
  · rw [List.length_append, laids_len]
    have := pipesBy_len (ns := ns) (first := first) (many := many) (size := n)
    omega
/-! ### the eleventh law -/
def F_law_k11 : FN
  | [.val (.scr _)] => some (.inl (.val (.bl true)))
  | _ => none
theorem F_law_k11_t (ns : List Int) (_ : ns.length ≤ 63) : F_law_k11 [.val (.scr ns)] = some (.inl (.val (.bl true))) := rfl
/-- law: 0 script 1 size 2 pipes 3 turn 4 order 5 k 6 net 7 found 8 least 9 place -/
def t_law_k11 : VT := (seqT (asgV 1 (v2 fAdd (vC (.int 2)) (v2 fMod (v1 slD (v1 inlO (xCall 2 F_law_cell_at (rV (vVar 0) (rV (vC (.int 0)) rNil))))) (vC (.int 4))))) (seqT (ifT (bV (v2 fEq (v2 fMod (v2 fDiv (v1 slD (v1 inlO (xCall 2 F_law_cell_at (rV (vVar 0) (rV (vC (.int 0)) rNil))))) (vC (.int 4))) (vC (.int 64))) (vC (.int 1)))) (seqT (asgV 1 (vC (.int 12))) skipT) skipT) (seqT (asgO 2 (oLst aNil)) (seqT (forT (lRng1 (v2 fMod (v2 fMod (v2 fDiv (v1 slD (v1 inlO (xCall 2 F_law_cell_at (rV (vVar 0) (rV (vC (.int 1)) rNil))))) (vC (.int 15))) (vC (.int 4))) (vC (.int 3)))) (gN 3) (seqT (asgV 4 (v1 slD (v1 inlO (xCall 2 F_law_order (rV (v1 slD (v1 inlO (xCall 2 F_law_cell_at (rV (vVar 0) (rV (v2 fAdd (vC (.int 2)) (vVar 3)) rNil))))) (rV (vVar 1) rNil)))))) (seqT (forT (lRng2 (vC (.int 1)) (vVar 1)) (gN 5) (seqT (appT 2 (vTup (aCons (v2 fIx (vVar 4) (v2 fMod (v1 slD (v1 inlO (xCall 2 F_law_cell_at (rV (vVar 0) (rV (v2 fAdd (v2 fAdd (vC (.int 4)) (v2 fMul (vC (.int 11)) (vVar 3))) (vVar 5)) rNil))))) (vVar 5))) (aCons (v2 fIx (vVar 4) (vVar 5)) (aCons (vC (.bl true)) aNil))))) skipT)) skipT))) (seqT (asgO 2 (v2 fCat (lVar 2) (v1 slL (v1 inlO (xCall 4 F_law_pipes_by (rV (vVar 0) (rV (vC (.int 27)) (rV (v2 fMod (v1 slD (v1 inlO (xCall 2 F_law_cell_at (rV (vVar 0) (rV (vC (.int 1)) rNil))))) (vC (.int 15))) (rV (vVar 1) rNil))))))))) (seqT (asgO 6 (v1 inlO (xCall 2 F_law_net_by (rV (vVar 1) (rS 2 rNil))))) (seqT (asgV 7 (v1 slD (v1 inlO (xCall 1 F_most_apart (rS 6 rNil))))) (seqT (ifT (bOr (bNot (bV (v1 (fIsi "tuple") (vVar 7)))) (bOr (bV (v2 fNe (v1 fLen (vVar 7)) (vC (.int 3)))) (bOr (bNot (bV (v1 slD (v1 inlO (xCall 1 F_law_whole (rV (v2 fIx (vVar 7) (vC (.int 0))) rNil)))))) (bV (v2 fLt (v2 fIx (vVar 7) (vC (.int 0))) (vC (.int 0))))))) (seqT (retV (vC (.bl false))) skipT) skipT) (seqT (ifT (bFrz (bNot (bV (v1 slD (v1 inlO (xCall 4 F_law_trees_apart (rV (v2 fIx (vVar 7) (vC (.int 1))) (rV (vVar 1) (rV (vVar 2) (rV (v2 fIx (vVar 7) (vC (.int 0))) rNil)))))))))) (seqT (retV (vC (.bl false))) skipT) skipT) (seqT (ifT (bFrz (bOr (bNot (bV (v1 slD (v1 inlO (xCall 4 F_law_narrow (rV (v2 fIx (vVar 7) (vC (.int 2))) (rV (vVar 1) (rV (vVar 2) (rV (v2 fAdd (v2 fIx (vVar 7) (vC (.int 0))) (vC (.int 1))) rNil))))))))) (bV (v2 fNe (v1 fLenL (v1 slL (v1 inlO (xCall 2 F_law_into (rV (vVar 2) (rV (v2 fIx (vVar 7) (vC (.int 2))) rNil)))))) (v2 fIx (vVar 7) (vC (.int 0))))))) (seqT (retV (vC (.bl false))) skipT) skipT) (seqT (ifT (bAnd (bV (v2 fLt (v2 fIx (vVar 7) (vC (.int 0))) (vC (.int 5)))) (bV (v2 fNe (v2 fIx (v1 slD (v1 inlO (xCall 2 F_apart (rS 6 (rV (v2 fAdd (v2 fIx (vVar 7) (vC (.int 0))) (vC (.int 1))) rNil))))) (vC (.int 0))) (vC (.str "narrow"))))) (seqT (retV (vC (.bl false))) skipT) skipT) (seqT (asgV 8 (v1 fMinL (v1 slL (vLc [9] (v1 dL (v2 fIx (vVar 7) (vC (.int 2)))) (gN 9) bT (v2 fIx (v1 slD (v1 inlO (xCall 2 F_widest (rS 6 (rV (vVar 9) rNil))))) (vC (.int 0))))))) (seqT (retV (vAnd (v1 slD (v1 inlO (xCall 1 F_law_whole (rV (vVar 8) rNil)))) (v2 fEq (vVar 8) (v2 fIx (vVar 7) (vC (.int 0)))))) skipT)))))))))))))
theorem v_law_k11 : ∀ ss r, ss.length = 1 → F_law_k11 ss = some r → t_law_k11 (postP r) (En0 ss 10) ∧ ∃ s, r = .inl s := by
  intro ss r hl h
  unfold F_law_k11 at h
  split at h
  · rename_i ns
    have h1 := Option.some.inj h
    clear h
    subst h1
    refine ⟨?_, _, rfl⟩
    have z1 : 0 ≤ cellAt ns 0 % 4 := Int.emod_nonneg _ (by omega)
    have z2 : cellAt ns 0 % 4 < 4 := Int.emod_lt_of_pos _ (by omega)
    refine ⟨.int (2 + cellAt ns 0 % 4), v2e rfl (v2e (cellE (k := 0) rfl) rfl (fMod_pos (by omega))) rfl, ?_⟩
    obtain ⟨n, hn0, n2, n12⟩ : ∃ n : Nat, (n : Int) = (if cellAt ns 0 / 4 % 64 = 1 then 12 else 2 + cellAt ns 0 % 4) ∧ 2 ≤ n ∧ n ≤ 12 := by
      refine ⟨(if cellAt ns 0 / 4 % 64 = 1 then 12 else 2 + cellAt ns 0 % 4).toNat, ?_, ?_, ?_⟩ <;> split <;> omega
    refine if_to (Γ' := [some (.val (.scr ns)), some (.val (.int (n : Int))), none, none, none, none, none, none, none, none]) (p := cellAt ns 0 / 4 % 64 = 1) (bVe (v2e (v2e (v2e (cellE (k := 0) rfl) rfl (fDiv_pos (by omega) (by omega))) rfl (fMod_pos (by omega))) rfl rfl)) (fun c Q hq => ?_) (fun c Q hq => ?_) ?_
    · rw [if_pos c] at hn0
      rw [hn0] at hq
      exact ⟨_, rfl, hq⟩
    · rw [if_neg c] at hn0
      rw [hn0] at hq
      exact hq
    refine ⟨_, rfl, ?_⟩
    have t1 : 0 ≤ cellAt ns 1 / 15 % 4 % 3 := Int.emod_nonneg _ (by omega)
    have t2 : cellAt ns 1 / 15 % 4 % 3 < 3 := Int.emod_lt_of_pos _ (by omega)
    obtain ⟨t, ht⟩ := Int.eq_ofNat_of_zero_le t1
    have t3 : t ≤ 2 := by omega
    refine ⟨_, rng1e (i := ((t : Nat) : Int)) (v2e (v2e (v2e (cellE (k := 1) rfl) rfl (fDiv_pos (by omega) (by omega))) rfl (fMod_pos (by omega))) rfl (by rw [fMod_pos (by omega), ht])) (by omega), ?_⟩
    rw [Int.toNat_natCast, List.range_eq_range']
    refine loopT_inv (enc := dInt) (fun rest Γ => ∃ (v3 v4 v5 : Option Sl), rest.length ≤ t ∧ rest = List.range' (t - rest.length) rest.length ∧
      Γ = [some (.val (.scr ns)), some (.val (.int (n : Int))), some (.own .loc (dPs (laids ns 4 n (t - rest.length)))), v3, v4, v5, none, none, none, none]) ?_ ?_ _ _ ⟨none, none, none, by simp, by simp, by simp [laids]; rfl⟩
    · rintro u rest Γ kk ⟨v3, v4, v5, hl, hr, rfl⟩ hk
      refine ⟨_, rfl, ?_⟩
      simp only [List.length_cons] at hl hr ⊢
      rw [List.range'_succ] at hr
      injection hr with hr1 hr2
      have hu : t - (rest.length + 1) = u := by omega
      have hu2 : t - rest.length = u + 1 := by omega
      rw [hu]
      have O := order_ok (c := cellAt ns (2 + u)) (n := n) (by omega)
      refine ⟨.lst (dNs (orderOf (cellAt ns (2 + u)) n)), v1e (v1e (xc (rVe (v1e (v1e (xc (rVe rfl (rVe (v2e (z := .int ((2 + u : Nat) : Int)) (y := dInt u) rfl rfl rfl) rfl)) ⟨rfl, rfl⟩ rfl (F_cell (k := 2 + u))) rfl) rfl) (rVe rfl rfl)) ⟨rfl, rfl⟩ rfl (F_orderE (by omega) (by omega))) rfl) rfl, ?_⟩
      generalize hO : orderOf (cellAt ns (2 + u)) n = o at O
      refine ⟨_, rng2e (i := 1) (j := n) rfl rfl (by omega) (by omega), ?_⟩
      have hll := laids_len (ns := ns) (b := 4) (n := n) (t := u)
      have hmul : u * (n - 1) ≤ 2 * 11 := Nat.mul_le_mul (by omega) (by omega)
      refine loopT_inv (enc := dInt) (fun rs Γ => ∃ (v5 : Option Sl) (done : List Nat), done ++ rs = List.range' 1 (n - 1) ∧
        Γ = [some (.val (.scr ns)), some (.val (.int (n : Int))), some (.own .loc (dPs (laids ns 4 n u ++ done.map (treeP ns (4 + 11 * u) o)))), some (.val (dInt u)), some (.val (.lst (dNs o))), v5, none, none, none, none]) ?_ ?_ _ _ ⟨v5, [], rfl, by simp only [List.map_nil, List.append_nil]; rfl⟩
      · rintro k rs Γ kk' ⟨v5, done, hd, rfl⟩ hk'
        refine ⟨_, rfl, ?_⟩
        have hkm : k ∈ List.range' 1 (n - 1) := by rw [← hd]; simp
        rw [List.mem_range'_1] at hkm
        have hdl : done.length ≤ 11 := by
          have := congrArg List.length hd
          simp at this
          omega
        refine ⟨(by intro z; cases z), dP (treeP ns (4 + 11 * u) o k), tree_e (k := k) O (by omega) (by omega) rfl rfl (v1e (v1e (xc (rVe rfl (rVe (v2e (z := .int ((4 + 11 * u + k : Nat) : Int)) (y := dInt k) (v2e (z := .int ((4 + 11 * u : Nat) : Int)) rfl (v2e (y := dInt u) (z := .int ((11 * u : Nat) : Int)) rfl rfl (by
          show (if (small 11 || small (u : Int)) = true then some (D.int (11 * (u : Int))) else none) = _
          rw [show small 11 = true by decide +kernel, Bool.true_or]
          show some (D.int (11 * (u : Int))) = some (D.int ((11 * u : Nat) : Int))
          refine congrArg (fun i => some (D.int i)) ?_
          omega)) (by
          show some (D.int ((4 : Int) + ((11 * u : Nat) : Int))) = some (D.int ((4 + 11 * u : Nat) : Int))
          refine congrArg (fun i => some (D.int i)) ?_
          omega)) rfl rfl) rfl)) ⟨rfl, rfl⟩ rfl (F_cell (k := 4 + 11 * u + k))) rfl) rfl), by rw [dPs_len, List.length_append, List.length_map]; omega, ?_⟩
        refine hk' _ ⟨some (.val (dInt k)), done ++ [k], by rw [← hd]; simp, ?_⟩
        rw [List.map_append, ← List.append_assoc, List.map_cons, List.map_nil, dPs_snoc]
        rfl
      · rintro Γ ⟨v5, done, hd, rfl⟩
        rw [List.append_nil] at hd
        subst hd
        refine hk _ ⟨some (.val (dInt u)), some (.val (.lst (dNs o))), v5, by omega, by rw [show t - rest.length = t - (rest.length + 1) + 1 by omega]; exact hr2, ?_⟩
        rw [hu2, laids_succ]
        unfold laidT treePs
        rw [hO]
    · rintro Γ ⟨v3, v4, v5, _, _, rfl⟩
      have c15 : 0 ≤ cellAt ns 1 % 15 := Int.emod_nonneg _ (by omega)
      have c15' : cellAt ns 1 % 15 < 15 := Int.emod_lt_of_pos _ (by omega)
      obtain ⟨m, hm⟩ := Int.eq_ofNat_of_zero_le c15
      have hll := laids_len (ns := ns) (b := 4) (n := n) (t := t)
      have hmul : t * (n - 1) ≤ 2 * 11 := Nat.mul_le_mul (by omega) (by omega)
      have hn := laidNet (ns := ns) (b := 4) (n := n) (t := t) (first := 27) (many := m) n2 n12 (by omega)
      have hpl := pipesBy_len (ns := ns) (first := 27) (many := m) (size := n)
      refine ⟨.own .loc (dPs (laids ns 4 n t ++ pipesBy ns 27 m n)), v2e (x := dPs (laids ns 4 n t)) (y := dPs (pipesBy ns 27 m n)) rfl (v1e (v1e (xc (rVe rfl (rVe rfl (rVe (v2e (z := .int (m : Int)) (cellE (k := 1) rfl) rfl (by rw [fMod_pos (by omega), hm])) (rVe rfl rfl)))) ⟨rfl, rfl⟩ rfl (F_pipesBy (f := 27) (m := m) (s := n) (by omega) (by omega))) rfl) rfl) ?_, ?_⟩
      · unfold fCat
        rw [if_pos (decide_eq_true (by rw [dPs_len, dPs_len]; omega))]
        unfold dPs
        rw [List.map_append]
      generalize laids ns 4 n t ++ pipesBy ns 27 m n = ps at hn
      have hn2 := hn.2.2.2
      refine ⟨.net .loc (n : Int) (dPs ps), v1e (xc rfl ⟨rfl, rfl⟩ rfl (F_netBy rfl hn)) rfl, ?_⟩
      refine ⟨mostD n ps, v1e (v1e (xc rfl ⟨rfl, rfl⟩ rfl (F_mostE hn n2)) rfl) rfl, ?_⟩
      obtain ⟨p0, pn, pl⟩ := leastP_ok (ps := ps) n2
      have W := least_wide hn n2
      have T := trees_ok hn W
      obtain ⟨s1, s2⟩ := wid_set hn p0 pn
      have h61 := widN_le (p := leastP n ps) hn
      have s3 := good_len (set_good (n := n) (p := leastP n ps) (r := widN n ps (leastP n ps)) (ps := ps))
      refine if_f (dec_f (p := (¬ True) ∨ (False ∨ ((¬ True) ∨ ((widN n ps (leastP n ps) : Int) < 0)))) (by simp) (bOr_d (bNot_d (bVe (v1e rfl isi_tup))) fun _ => bOr_d (bVe (v2e (x := .int 3) rfl rfl rfl)) fun _ => bOr_d (bNot_d (bVe (v1e (v1e (xc rfl ⟨rfl, rfl⟩ rfl rfl) rfl) rfl))) fun _ => bVe (v2e (x := .int (widN n ps (leastP n ps) : Int)) rfl rfl rfl))) ?_
      refine if_f (dec_f (p := ¬ True) (by simp) (bNot_d (bVe (v1e (v1e (xc rfl ⟨rfl, rfl⟩ rfl (F_treesApart hn T)) rfl) rfl)))) ?_
      refine if_f (dec_f (p := (¬ True) ∨ ((widN n ps (leastP n ps) : Int) ≠ (widN n ps (leastP n ps) : Int))) (by simp) (bOr_d (bNot_d (bVe (v1e (v1e (xc (rVe rfl (rVe rfl (rVe rfl (rVe (v2e (x := .int (widN n ps (leastP n ps) : Int)) (z := .int ((widN n ps (leastP n ps) : Int) + 1)) rfl rfl rfl) rfl)))) ⟨rfl, rfl⟩ rfl (F_lawNarrow set_good (by intro z; rw [z] at s1; cases s1) (by omega) (by omega))) rfl) (by rw [s2, decide_eq_true (by omega)]; rfl)))) fun _ => bVe (v2e (x := .int (widN n ps (leastP n ps) : Int)) (y := .int (widN n ps (leastP n ps) : Int)) (v1e (x := dNs (lawInto ps (setOf n ps (leastP n ps) (widN n ps (leastP n ps))))) (v1e (v1e (xc rfl ⟨rfl, rfl⟩ rfl (F_into (ps := ps) (ns := setOf n ps (leastP n ps) (widN n ps (leastP n ps))) (by omega))) rfl) rfl) (by show some (D.int ((dNs (lawInto ps (setOf n ps (leastP n ps) (widN n ps (leastP n ps))))).length : Int)) = _; rw [dNs_len, s2])) rfl fNe_int))) ?_
      have hap : ∃ p, spN n ps p (widN n ps (leastP n ps) + 1) < widN n ps (leastP n ps) + 1 ∧ apartD n ps (widN n ps (leastP n ps) + 1) = waysD n ps p (widN n ps (leastP n ps) + 1) := by
        rcases apart_cases (m := widN n ps (leastP n ps) + 1) hn with ⟨p, _, _, d, e⟩ | ⟨W', _⟩
        · exact ⟨p, d, e⟩
        · have := W' _ (set_good (n := n) (p := leastP n ps) (r := widN n ps (leastP n ps)) (ps := ps)) (by intro z; rw [z] at s1; cases s1)
          rw [← into_cut, s2] at this
          omega
      obtain ⟨pp, d, eap⟩ := hap
      refine if_f (dec_f (p := ((widN n ps (leastP n ps) : Int) < 5) ∧ False) (by simp) (bAnd_d (bVe (v2e (x := .int (widN n ps (leastP n ps) : Int)) rfl rfl rfl)) fun _ => bVe (v2e (v2e (x := apartD n ps (widN n ps (leastP n ps) + 1)) (z := .str "narrow") (v1e (v1e (xc (rSe rfl (rVe (v2e (x := .int (widN n ps (leastP n ps) : Int)) (z := .int ((widN n ps (leastP n ps) + 1 : Nat) : Int)) rfl rfl rfl) rfl)) ⟨rfl, rfl⟩ rfl (F_apartE (m := widN n ps (leastP n ps) + 1) hn (by omega))) rfl) rfl) rfl (by rw [eap, waysD0 d]; rfl)) rfl (by unfold fNe; rw [fEq_nn]; rfl)))) ?_
      have hmin : minOf ((setOf n ps (leastP n ps) (widN n ps (leastP n ps))).map fun q => (widN n ps q : Int)) = (widN n ps (leastP n ps) : Int) := by
        refine minOf_eq (List.mem_map.mpr ⟨_, s1, rfl⟩) fun x hx => ?_
        obtain ⟨q, hq, rfl⟩ := List.mem_map.mp hx
        have hg := set_good (n := n) (p := leastP n ps) (r := widN n ps (leastP n ps)) (ps := ps)
        have := pl q (fun z => hg.no0 (z ▸ hq)) (hg.lt q hq)
        omega
      have hmne : ((setOf n ps (leastP n ps) (widN n ps (leastP n ps))).map fun q => (widN n ps q : Int)) ≠ [] := fun z => by
        have := List.map_eq_nil_iff.mp z
        rw [this] at s1
        cases s1
      refine ⟨dInt (widN n ps (leastP n ps)), v1e (x := ((setOf n ps (leastP n ps) (widN n ps (leastP n ps))).map fun q => (widN n ps q : Int)).map D.int) (v1e (vlc_map (enc := dInt) (xs := setOf n ps (leastP n ps) (widN n ps (leastP n ps))) (h := fun q => D.int (widN n ps q : Int)) rfl (by omega) fun q hq => lcS1 rfl rfl ?_) (by rw [List.map_map]; rfl)) ?_, ?_⟩
      · have hg := set_good (n := n) (p := leastP n ps) (r := widN n ps (leastP n ps)) (ps := ps)
        exact v2e (x := widD n ps q) (v1e (v1e (xc rfl ⟨rfl, rfl⟩ rfl (F_widest_yes (p := q) hn (fun z => hg.no0 (z ▸ hq)) (hg.lt q hq))) rfl) rfl) rfl rfl
      · unfold fMinL
        rw [toIs_map, Option.bind_some, if_neg hmne, hmin]
        rfl
      · exact ⟨.bl true, vAnd_t (v1e (v1e (xc rfl ⟨rfl, rfl⟩ rfl rfl) rfl) rfl) (v2e rfl (v2e (x := mostD n ps) rfl rfl rfl) (fEq_dn _)), rfl⟩
  · cases h
end Z

set_option maxRecDepth 100000
namespace Z
open PySem PySem.Spec PyProof.Rows L2

/-! ### the tenth law: plain mathematics -/
def goes (S : List Nat) (p : P3) : Bool := p.2.2 && decide (p.1 ∉ S ∧ p.2.1 ∈ S)
theorem cut_goes (S : List Nat) : ∀ (ps : List P3) (n : Nat), ((opGo n ps).filter fun e => decide (e.2.1 ∉ S ∧ e.2.2 ∈ S)).length = (ps.filter (goes S)).length
  | [], _ => rfl
  | p :: ps, n => by
    have ih := cut_goes S ps (n + 1)
    unfold opGo
    rw [List.filter_cons (x := p)]
    unfold goes
    by_cases c : p.2.2 = true
    · rw [if_pos c, List.filter_cons, c, Bool.true_and]
      simp only
      split
      · simp only [List.length_cons, ih]
        rfl
      · rw [ih]
        rfl
    · have c : p.2.2 = false := by simpa using c
      rw [c]
      simp only [Bool.false_and, Bool.false_eq_true, if_false]
      rw [ih]
      rfl
theorem cut_ps (ps : List P3) (S : List Nat) : cut (openOf ps) S = (ps.filter (goes S)).length := by
  unfold cut
  rw [← opGo_open, cut_goes]
/-- a tree enters every set -/
theorem tree_goes {ns : List Int} {b n : Nat} {o S : List Nat} (O : OrdOk n o) (h : 1 ≤ n) (G : GoodSet n S) (hS : S ≠ []) : 1 ≤ ((treePs ns b o n).filter (goes S)).length := by
  have o0 : oAt o 0 = 0 := by unfold oAt; rw [O.hd]; rfl
  have key : ∀ (m j : Nat), j < m → j < n → oAt o j ∈ S → ∃ k, 1 ≤ k ∧ k < n ∧ goes S (treeP ns b o k) = true := by
    intro m
    induction m with
    | zero => intro j h; omega
    | succ m ih =>
      intro j hj hn hm
      have j1 : 1 ≤ j := Decidable.byContradiction fun c => by
        have : j = 0 := by omega
        subst this
        rw [o0] at hm
        exact G.no0 hm
      obtain ⟨a1, _⟩ := treeP_ix (c := cellAt ns (b + j)) j1
      by_cases c : oAt o (cellAt ns (b + j) % (j : Int)).toNat ∈ S
      · exact ih _ (by omega) (by omega) c
      · exact ⟨j, j1, hn, by unfold goes treeP; simp [c, hm]⟩
  obtain ⟨v, hv⟩ := List.exists_mem_of_ne_nil S hS
  have hvo : v ∈ o := full_of_len O.nd O.lt O.len (G.lt v hv)
  obtain ⟨j, hj, hje⟩ := List.mem_iff_getElem.mp hvo
  have hoj : oAt o j = v := by unfold oAt; rw [List.getElem?_eq_getElem hj, hje]; rfl
  obtain ⟨k, k1, k2, k3⟩ := key (j + 1) j (by omega) (by rw [← O.len]; exact hj) (by rw [hoj]; exact hv)
  have : treeP ns b o k ∈ (treePs ns b o n).filter (goes S) := List.mem_filter.mpr ⟨List.mem_map.mpr ⟨k, List.mem_range'_1.mpr (by omega), rfl⟩, k3⟩
  exact List.length_pos_of_mem this
theorem laids_goes {ns : List Int} {b n : Nat} {S : List Nat} (h : 1 ≤ n) (G : GoodSet n S) (hS : S ≠ []) : ∀ {t : Nat}, t ≤ ((laids ns b n t).filter (goes S)).length
  | 0 => Nat.zero_le _
  | t + 1 => by
    rw [laids_succ, List.filter_append, List.length_append]
    have h1 := laids_goes (ns := ns) (b := b) h G hS (t := t)
    have h2 := tree_goes (ns := ns) (b := b + 11 * t) (order_ok (c := cellAt ns (2 + t)) h) h G hS
    have h2 : 1 ≤ ((laidT ns b n t).filter (goes S)).length := h2
    omega
theorem laid_wide {ns : List Int} {b n t : Nat} {ps more : List P3} (h : 1 ≤ n) (hp : ps.Perm (laids ns b n t)) : Wide (openOf (ps ++ more)) n t := fun S G hS => by
  rw [cut_ps, List.filter_append, List.length_append, (hp.filter (goes S)).length_eq]
  have := laids_goes (ns := ns) (b := b) h G hS (t := t)
  omega
theorem Wide.le {all : List O3} {n k m : Nat} (h : Wide all n m) (hk : k ≤ m) : Wide all n k := fun S G hS => Nat.le_trans hk (h S G hS)
theorem wide_spN {n p m : Nat} {ps : List P3} (hn : okNet n ps) (W : Wide (openOf ps) n m) (h0 : p ≠ 0) (hp : p < n) : spN n ps p m = m := (spR_iff (many := m) (edOk_open hn) h0 hp).mpr fun S G hS => W S G (fun z => by rw [z] at hS; cases hS)
theorem wide_apart {n m : Nat} {ps : List P3} (hn : okNet n ps) (W : Wide (openOf ps) n m) : apartD n ps m = .tup [.str "trees", .lst (dRows (treesD n ps m))] := by
  rcases apart_cases (m := m) hn with ⟨p, h0, hp, d, _⟩ | ⟨_, e⟩
  · rw [wide_spN hn W h0 hp] at d
    omega
  · exact e
theorem cut_drop {α : Type} (xs : List α) (k : Nat) (h : k ≤ xs.length) : cutD xs (some (k : Int)) none = xs.drop k := by
  unfold cutD
  rw [HT.sIx_nat, show min k xs.length = k by omega]
  refine List.take_of_length_le ?_
  rw [List.length_drop]
  exact Nat.le_refl _
theorem cut_take {α : Type} (xs : List α) (k : Nat) (h : k ≤ xs.length) : cutD xs none (some (k : Int)) = xs.take k := by
  unfold cutD
  rw [HT.sIx_nat, show min k xs.length = k by omega]
  rfl
theorem rot_perm {α : Type} (xs : List α) (k : Nat) : (xs.drop k ++ xs.take k).Perm xs := by
  refine List.perm_append_comm.trans ?_
  rw [List.take_append_drop]
/-- all shut: water stays at the spring -/
theorem reached_shut {n : Nat} {ps : List P3} (hn : okNet n ps) (h : ∀ k, k < ps.length → (pAt ps k).2.2 = false) : reachedOf n ps = [0] := by
  have hop : lawOpen ps = [] := by
    unfold lawOpen
    refine List.filter_eq_nil_iff.mpr fun k hk => ?_
    rw [h k (List.mem_range.mp hk)]
    simp
  have ho : openOf ps = [] := by unfold openOf; rw [hop]; rfl
  have key : ∀ v, someAt (wet n (openOf ps)) v = true ↔ v = 0 := fun v => by
    rw [ho, wet_iff (es := []) hn.1 (by intro e he; cases he)]
    constructor
    · intro r
      exact r.closed (P := fun v => v = 0) rfl fun s g _ hm => (nomatch (show (s, g) ∈ ([] : List (Nat × Nat)) from hm))
    · intro z
      subst z
      exact .zero
  unfold reachedOf
  have : (List.range n).filter (fun v => someAt (wet n (openOf ps)) v) = (List.range n).filter fun v => decide (v = 0) := List.filter_congr fun v _ => by
    by_cases c : v = 0
    · rw [(key v).mpr c, decide_eq_true c]
    · rw [decide_eq_false c]
      cases q : someAt (wet n (openOf ps)) v with
      | false => rfl
      | true => exact absurd ((key v).mp q) c
  rw [this]
  obtain ⟨m, rfl⟩ : ∃ m, n = m + 1 := ⟨n - 1, by have := hn.1; omega⟩
  rw [List.range_succ_eq_map, List.filter_cons, if_pos (by simp)]
  congr 1
  refine List.filter_eq_nil_iff.mpr fun v hv => ?_
  obtain ⟨w, _, rfl⟩ := List.mem_map.mp hv
  simp

/-! ### the tenth law -/
open Classical in
noncomputable def F_law_told : FN
  | [.val (.tup [.str a, .lst fs]), .val (.int s), .val (.lst ds), .val (.int m)] => (decs fs : Option (List (List Nat))).bind fun rows => (unNet s ds).bind fun x => if a = "trees" ∧ 0 ≤ m ∧ TreesOk x.1 x.2 m.toNat rows then some (.inl (.val (.bl true))) else none
  | _ => none
theorem F_told {n m : Nat} {ps : List P3} {rows : List (List Nat)} (hn : okNet n ps) (h : TreesOk n ps m rows) : F_law_told [.val (.tup [.str "trees", .lst (dRows rows)]), .val (.int (n : Int)), .val (.lst (dPs ps)), .val (.int (m : Int))] = some (.inl (.val (.bl true))) := by
  show (decs (dRows rows)).bind _ = _
  rw [decs_dRows, Option.bind_some, unNet_of hn, Option.bind_some]
  exact ite_some ⟨rfl, Int.natCast_nonneg m, h⟩
/-- _law_told: 0 found 1 size 2 pipes 3 many -/
def t_law_told : VT := (seqT (ifT (bOr (bNot (bV (v1 (fIsi "tuple") (vVar 0)))) (bOr (bV (v2 fNe (v1 fLen (vVar 0)) (vC (.int 2)))) (bV (v2 fNe (v2 fIx (vVar 0) (vC (.int 0))) (vC (.str "trees")))))) (seqT (retV (vC (.bl false))) skipT) skipT) (seqT (retV (v1 slD (v1 inlO (xCall 4 F_law_trees_apart (rV (v2 fIx (vVar 0) (vC (.int 1))) (rV (vVar 1) (rV (vVar 2) (rV (vVar 3) rNil)))))))) skipT))
theorem v_law_told : ∀ ss r, ss.length = 4 → F_law_told ss = some r → t_law_told (postP r) (En0 ss 4) ∧ ∃ s, r = .inl s := by
  intro ss r hl h
  unfold F_law_told at h
  split at h
  · rename_i a fs s ds m
    obtain ⟨rows, e1, h1⟩ := Option.bind_eq_some_iff.mp h
    obtain ⟨x, e2, h2⟩ := Option.bind_eq_some_iff.mp h1
    clear h h1
    split at h2
    · rename_i hc
      have h4 := Option.some.inj h2
      clear h2
      subst h4
      cases dRows_some e1
      obtain ⟨rfl, rfl, hn⟩ := unNet_some e2
      clear e1 e2
      obtain ⟨rfl, c2, hc⟩ := hc
      obtain ⟨n, ps⟩ := x
      obtain ⟨m, rfl⟩ := Int.eq_ofNat_of_zero_le c2
      simp only [Int.toNat_natCast] at hn hc ⊢
      refine ⟨?_, _, rfl⟩
      refine if_f (dec_f (p := (¬ True) ∨ (False ∨ False)) (by simp) (bOr_d (bNot_d (bVe (v1e rfl isi_tup))) fun _ => bOr_d (bVe (v2e (x := .int 2) rfl rfl rfl)) fun _ => bVe (v2e (x := .str "trees") rfl rfl (by unfold fNe; rw [fEq_tt]; rfl)))) ?_
      exact ⟨_, v1e (v1e (xc rfl ⟨rfl, rfl⟩ rfl (F_treesApart hn hc)) rfl) rfl, rfl⟩
    · cases h2
  · cases h
def F_law_k10 : FN
  | [.val (.scr _)] => some (.inl (.val (.bl true)))
  | _ => none
theorem F_law_k10_t (ns : List Int) (_ : ns.length ≤ 63) : F_law_k10 [.val (.scr ns)] = some (.inl (.val (.bl true))) := rfl
/-- law: 0 script 1 size 2 many 3 pipes 4 turn 5 order 6 k 7 cut 8 more 9 net 10 found 11 wide 12 tree 13 number -/
def t_law_k10 : VT := (seqT (asgV 1 (v2 fAdd (vC (.int 2)) (v2 fMod (v1 slD (v1 inlO (xCall 2 F_law_cell_at (rV (vVar 0) (rV (vC (.int 0)) rNil))))) (vC (.int 4))))) (seqT (ifT (bV (v2 fEq (v2 fMod (v2 fDiv (v1 slD (v1 inlO (xCall 2 F_law_cell_at (rV (vVar 0) (rV (vC (.int 0)) rNil))))) (vC (.int 4))) (vC (.int 64))) (vC (.int 1)))) (seqT (asgV 1 (vC (.int 12))) skipT) skipT) (seqT (asgV 2 (v2 fAdd (vC (.int 1)) (v2 fMod (v1 slD (v1 inlO (xCall 2 F_law_cell_at (rV (vVar 0) (rV (vC (.int 1)) rNil))))) (vC (.int 3))))) (seqT (asgO 3 (oLst aNil)) (seqT (forT (lRng1 (vVar 2)) (gN 4) (seqT (asgV 5 (v1 slD (v1 inlO (xCall 2 F_law_order (rV (v1 slD (v1 inlO (xCall 2 F_law_cell_at (rV (vVar 0) (rV (v2 fAdd (vC (.int 2)) (vVar 4)) rNil))))) (rV (vVar 1) rNil)))))) (seqT (forT (lRng2 (vC (.int 1)) (vVar 1)) (gN 6) (seqT (appT 3 (vTup (aCons (v2 fIx (vVar 5) (v2 fMod (v1 slD (v1 inlO (xCall 2 F_law_cell_at (rV (vVar 0) (rV (v2 fAdd (v2 fAdd (vC (.int 8)) (v2 fMul (vC (.int 11)) (vVar 4))) (vVar 6)) rNil))))) (vVar 6))) (aCons (v2 fIx (vVar 5) (vVar 6)) (aCons (vC (.bl true)) aNil))))) skipT)) skipT))) (seqT (asgV 7 (v2 fMod (v1 slD (v1 inlO (xCall 2 F_law_cell_at (rV (vVar 0) (rV (vC (.int 5)) rNil))))) (v1 fLenL (lVar 3)))) (seqT (asgO 3 (v2 fCat (v1 slL (vCut cutL (lVar 3) (pI (vVar 7)) pN)) (v1 slL (vCut cutL (lVar 3) pN (pI (vVar 7)))))) (seqT (asgV 8 (v2 fMod (v1 slD (v1 inlO (xCall 2 F_law_cell_at (rV (vVar 0) (rV (vC (.int 6)) rNil))))) (vC (.int 6)))) (seqT (asgO 3 (v2 fCat (lVar 3) (v1 slL (v1 inlO (xCall 4 F_law_pipes_by (rV (vVar 0) (rV (vC (.int 44)) (rV (vVar 8) (rV (vVar 1) rNil))))))))) (seqT (asgO 9 (v1 inlO (xCall 2 F_law_net_by (rV (vVar 1) (rS 3 rNil))))) (seqT (asgV 10 (v1 slD (v1 inlO (xCall 2 F_apart (rS 9 (rV (vVar 2) rNil)))))) (seqT (ifT (bFrz (bOr (bNot (bV (v1 slD (v1 inlO (xCall 4 F_law_told (rV (vVar 10) (rV (vVar 1) (rV (vVar 3) (rV (vVar 2) rNil))))))))) (bNot (bV (v1 slD (v1 inlO (xCall 4 F_law_told (rV (v1 slD (v1 inlO (xCall 2 F_apart (rS 9 (rV (vC (.int 1)) rNil))))) (rV (vVar 1) (rV (vVar 3) (rV (vC (.int 1)) rNil))))))))))) (seqT (retV (vC (.bl false))) skipT) skipT) (seqT (asgV 11 (v1 slD (v1 inlO (xCall 3 F_ways (rS 9 (rV (v2 fAdd (vC (.int 1)) (v2 fMod (v1 slD (v1 inlO (xCall 2 F_law_cell_at (rV (vVar 0) (rV (vC (.int 7)) rNil))))) (v2 fSub (vVar 1) (vC (.int 1))))) (rV (vVar 2) rNil))))))) (seqT (ifT (bOr (bNot (bV (v1 (fIsi "tuple") (vVar 11)))) (bOr (bV (v2 fNe (v1 fLen (vVar 11)) (vC (.int 2)))) (bOr (bV (v2 fNe (v2 fIx (vVar 11) (vC (.int 0))) (vC (.str "ways")))) (bV (v2 fNe (v1 fLenL (v1 dL (v2 fIx (vVar 11) (vC (.int 1))))) (vVar 2)))))) (seqT (retV (vC (.bl false))) skipT) skipT) (seqT (forT (v1 dL (v2 fIx (vVar 10) (vC (.int 1)))) (gN 12) (seqT (forT (v1 dL (vVar 12)) (gN 13) (seqT (nmT none 2 G_shut 9 (rV (vVar 13) rNil)) skipT)) skipT)) (seqT (retV (vOr (v2 fGt (vVar 8) (vC (.int 0))) (v2 fEq (v1 slD (v1 inlO (xCall 1 F_reached (rS 9 rNil)))) (v1 slD (oLst (aCons (vC (.int 0)) aNil)))))) skipT))))))))))))))))
theorem v_law_k10 : ∀ ss r, ss.length = 1 → F_law_k10 ss = some r → t_law_k10 (postP r) (En0 ss 14) ∧ ∃ s, r = .inl s := by
  intro ss r hl h
  unfold F_law_k10 at h
  split at h
  · rename_i ns
    have h1 := Option.some.inj h
    clear h
    subst h1
    refine ⟨?_, _, rfl⟩
    have z1 : 0 ≤ cellAt ns 0 % 4 := Int.emod_nonneg _ (by omega)
    have z2 : cellAt ns 0 % 4 < 4 := Int.emod_lt_of_pos _ (by omega)
    refine ⟨.int (2 + cellAt ns 0 % 4), v2e rfl (v2e (cellE (k := 0) rfl) rfl (fMod_pos (by omega))) rfl, ?_⟩
    obtain ⟨n, hn0, n2, n12⟩ : ∃ n : Nat, (n : Int) = (if cellAt ns 0 / 4 % 64 = 1 then 12 else 2 + cellAt ns 0 % 4) ∧ 2 ≤ n ∧ n ≤ 12 := by
      refine ⟨(if cellAt ns 0 / 4 % 64 = 1 then 12 else 2 + cellAt ns 0 % 4).toNat, ?_, ?_, ?_⟩ <;> split <;> omega
    refine if_to (Γ' := [some (.val (.scr ns)), some (.val (.int (n : Int))), none, none, none, none, none, none, none, none, none, none, none, none]) (p := cellAt ns 0 / 4 % 64 = 1) (bVe (v2e (v2e (v2e (cellE (k := 0) rfl) rfl (fDiv_pos (by omega) (by omega))) rfl (fMod_pos (by omega))) rfl rfl)) (fun c Q hq => ?_) (fun c Q hq => ?_) ?_
    · rw [if_pos c] at hn0
      rw [hn0] at hq
      exact ⟨_, rfl, hq⟩
    · rw [if_neg c] at hn0
      rw [hn0] at hq
      exact hq
    have t1 : 0 ≤ cellAt ns 1 % 3 := Int.emod_nonneg _ (by omega)
    have t2 : cellAt ns 1 % 3 < 3 := Int.emod_lt_of_pos _ (by omega)
    obtain ⟨t, ht, t3, t4⟩ : ∃ t : Nat, (t : Int) = 1 + cellAt ns 1 % 3 ∧ 1 ≤ t ∧ t ≤ 3 := ⟨(1 + cellAt ns 1 % 3).toNat, by omega, by omega, by omega⟩
    refine ⟨.int (t : Int), v2e rfl (v2e (cellE (k := 1) rfl) rfl (fMod_pos (by omega))) (by rw [ht]; rfl), ?_⟩
    refine ⟨_, rfl, ?_⟩
    refine ⟨_, rng1e (i := ((t : Nat) : Int)) rfl (by omega), ?_⟩
    rw [Int.toNat_natCast, List.range_eq_range']
    refine loopT_inv (enc := dInt) (fun rest Γ => ∃ (v4 v5 v6 : Option Sl), rest.length ≤ t ∧ rest = List.range' (t - rest.length) rest.length ∧
      Γ = [some (.val (.scr ns)), some (.val (.int (n : Int))), some (.val (.int (t : Int))), some (.own .loc (dPs (laids ns 8 n (t - rest.length)))), v4, v5, v6, none, none, none, none, none, none, none]) ?_ ?_ _ _ ⟨none, none, none, by simp, by simp, by simp [laids]; rfl⟩
    · rintro u rest Γ kk ⟨v3, v4, v5, hl, hr, rfl⟩ hk
      refine ⟨_, rfl, ?_⟩
      simp only [List.length_cons] at hl hr ⊢
      rw [List.range'_succ] at hr
      injection hr with hr1 hr2
      have hu : t - (rest.length + 1) = u := by omega
      have hu2 : t - rest.length = u + 1 := by omega
      rw [hu]
      have O := order_ok (c := cellAt ns (2 + u)) (n := n) (by omega)
      refine ⟨.lst (dNs (orderOf (cellAt ns (2 + u)) n)), v1e (v1e (xc (rVe (v1e (v1e (xc (rVe rfl (rVe (v2e (z := .int ((2 + u : Nat) : Int)) (y := dInt u) rfl rfl rfl) rfl)) ⟨rfl, rfl⟩ rfl (F_cell (k := 2 + u))) rfl) rfl) (rVe rfl rfl)) ⟨rfl, rfl⟩ rfl (F_orderE (by omega) (by omega))) rfl) rfl, ?_⟩
      generalize hO : orderOf (cellAt ns (2 + u)) n = o at O
      refine ⟨_, rng2e (i := 1) (j := n) rfl rfl (by omega) (by omega), ?_⟩
      have hll := laids_len (ns := ns) (b := 8) (n := n) (t := u)
      have hmul : u * (n - 1) ≤ 3 * 11 := Nat.mul_le_mul (by omega) (by omega)
      refine loopT_inv (enc := dInt) (fun rs Γ => ∃ (v5 : Option Sl) (done : List Nat), done ++ rs = List.range' 1 (n - 1) ∧
        Γ = [some (.val (.scr ns)), some (.val (.int (n : Int))), some (.val (.int (t : Int))), some (.own .loc (dPs (laids ns 8 n u ++ done.map (treeP ns (8 + 11 * u) o)))), some (.val (dInt u)), some (.val (.lst (dNs o))), v5, none, none, none, none, none, none, none]) ?_ ?_ _ _ ⟨v5, [], rfl, by simp only [List.map_nil, List.append_nil]; rfl⟩
      · rintro k rs Γ kk' ⟨v5, done, hd, rfl⟩ hk'
        refine ⟨_, rfl, ?_⟩
        have hkm : k ∈ List.range' 1 (n - 1) := by rw [← hd]; simp
        rw [List.mem_range'_1] at hkm
        have hdl : done.length ≤ 11 := by
          have := congrArg List.length hd
          simp at this
          omega
        refine ⟨(by intro z; cases z), dP (treeP ns (8 + 11 * u) o k), tree_e (k := k) O (by omega) (by omega) rfl rfl (v1e (v1e (xc (rVe rfl (rVe (v2e (z := .int ((8 + 11 * u + k : Nat) : Int)) (y := dInt k) (v2e (z := .int ((8 + 11 * u : Nat) : Int)) rfl (v2e (y := dInt u) (z := .int ((11 * u : Nat) : Int)) rfl rfl (by
          show (if (small 11 || small (u : Int)) = true then some (D.int (11 * (u : Int))) else none) = _
          rw [show small 11 = true by decide +kernel, Bool.true_or]
          show some (D.int (11 * (u : Int))) = some (D.int ((11 * u : Nat) : Int))
          refine congrArg (fun i => some (D.int i)) ?_
          omega)) (by
          show some (D.int ((8 : Int) + ((11 * u : Nat) : Int))) = some (D.int ((8 + 11 * u : Nat) : Int))
          refine congrArg (fun i => some (D.int i)) ?_
          omega)) rfl rfl) rfl)) ⟨rfl, rfl⟩ rfl (F_cell (k := 8 + 11 * u + k))) rfl) rfl), by rw [dPs_len, List.length_append, List.length_map]; omega, ?_⟩
        refine hk' _ ⟨some (.val (dInt k)), done ++ [k], by rw [← hd]; simp, ?_⟩
        rw [List.map_append, ← List.append_assoc, List.map_cons, List.map_nil, dPs_snoc]
        rfl
      · rintro Γ ⟨v5, done, hd, rfl⟩
        rw [List.append_nil] at hd
        subst hd
        refine hk _ ⟨some (.val (dInt u)), some (.val (.lst (dNs o))), v5, by omega, by rw [show t - rest.length = t - (rest.length + 1) + 1 by omega]; exact hr2, ?_⟩
        rw [hu2, laids_succ]
        unfold laidT treePs
        rw [hO]
    · rintro Γ ⟨v3, v4, v5, _, _, rfl⟩
      have hll := laids_len (ns := ns) (b := 8) (n := n) (t := t)
      have hmul : t * (n - 1) ≤ 3 * 11 := Nat.mul_le_mul (by omega) (by omega)
      have hmul2 : 1 * 1 ≤ t * (n - 1) := Nat.mul_le_mul (by omega) (by omega)
      have hlok := laids_ok (ns := ns) (b := 8) (n := n) (t := t) (by omega)
      simp only [List.length_nil, Nat.sub_zero]
      generalize hL : laids ns 8 n t = ls at hll hlok ⊢
      have a1 : 0 ≤ cellAt ns 5 % (ls.length : Int) := Int.emod_nonneg _ (by omega)
      have a2 : cellAt ns 5 % (ls.length : Int) < ls.length := Int.emod_lt_of_pos _ (by omega)
      obtain ⟨cu, hcu⟩ := Int.eq_ofNat_of_zero_le a1
      have hcl : cu ≤ ls.length := by omega
      refine ⟨dInt cu, v2e (cellE (k := 5) rfl) (lenPs (ps := ls) rfl) (by rw [fMod_pos (by omega), hcu]; rfl), ?_⟩
      have hperm := rot_perm ls cu
      refine ⟨.own .loc (dPs (ls.drop cu ++ ls.take cu)), v2e (x := dPs (ls.drop cu)) (y := dPs (ls.take cu)) (v1e (x := .own .loc (dPs (ls.drop cu))) ?_ rfl) (v1e (x := .own .loc (dPs (ls.take cu))) ?_ rfl) ?_, ?_⟩
      · show cutL (dPs ls) (some (cu : Int)) none = _
        unfold cutL
        rw [cut_drop _ _ (by rw [dPs_len]; exact hcl)]
        unfold dPs
        rw [List.map_drop]
      · show cutL (dPs ls) none (some (cu : Int)) = _
        unfold cutL
        rw [cut_take _ _ (by rw [dPs_len]; exact hcl)]
        unfold dPs
        rw [List.map_take]
      · unfold fCat
        rw [if_pos (decide_eq_true (by rw [dPs_len, dPs_len, List.length_drop, List.length_take]; omega))]
        unfold dPs
        rw [List.map_append]
      have hrl : (ls.drop cu ++ ls.take cu).length = t * (n - 1) := by rw [hperm.length_eq, hll]
      generalize ls.drop cu ++ ls.take cu = rs at hperm hrl
      have c6 : 0 ≤ cellAt ns 6 % 6 := Int.emod_nonneg _ (by omega)
      have c6' : cellAt ns 6 % 6 < 6 := Int.emod_lt_of_pos _ (by omega)
      obtain ⟨mo, hmo⟩ := Int.eq_ofNat_of_zero_le c6
      refine ⟨dInt mo, v2e (cellE (k := 6) rfl) rfl (by rw [fMod_pos (by omega), hmo]; rfl), ?_⟩
      have hpb := pipesBy_len2 (ns := ns) (first := 44) (many := mo) n2
      have hok : okNet n (rs ++ pipesBy ns 44 mo n) := by
        refine ⟨by omega, n12, okPs_iff.mpr fun p hp => ?_, by rw [List.length_append]; omega⟩
        rcases List.mem_append.mp hp with q | q
        · exact hlok p (hperm.mem_iff.mp q)
        · exact pipesBy_ok p q
      have W : Wide (openOf (rs ++ pipesBy ns 44 mo n)) n t := laid_wide (ns := ns) (b := 8) (by omega) (by rw [hL]; exact hperm)
      refine ⟨.own .loc (dPs (rs ++ pipesBy ns 44 mo n)), v2e (x := dPs rs) (y := dPs (pipesBy ns 44 mo n)) rfl (v1e (v1e (xc (rVe rfl (rVe rfl (rVe rfl (rVe rfl rfl)))) ⟨rfl, rfl⟩ rfl (F_pipesBy (f := 44) (m := mo) (s := n) (by omega) (by omega))) rfl) rfl) ?_, ?_⟩
      · unfold fCat
        rw [if_pos (decide_eq_true (by rw [dPs_len, dPs_len]; omega))]
        unfold dPs
        rw [List.map_append]
      have hpl : (rs ++ pipesBy ns 44 mo n).length = t * (n - 1) + mo := by rw [List.length_append, hrl, hpb]
      generalize rs ++ pipesBy ns 44 mo n = ps at hok W hpl
      have hn := hok
      have hn2 := hn.2.2.2
      have T := trees_ok hn W
      refine ⟨.net .loc (n : Int) (dPs ps), v1e (xc rfl ⟨rfl, rfl⟩ rfl (F_netBy rfl hn)) rfl, ?_⟩
      refine ⟨.tup [.str "trees", .lst (dRows (treesD n ps t))], v1e (v1e (xc rfl ⟨rfl, rfl⟩ rfl (F_apartE (m := t) hn (by omega))) rfl) (by rw [wide_apart hn W]; rfl), ?_⟩
      refine if_f (dec_f (p := (¬ True) ∨ ¬ True) (by simp) (bOr_d (bNot_d (bVe (v1e (v1e (xc rfl ⟨rfl, rfl⟩ rfl (F_told hn T)) rfl) rfl))) fun _ => bNot_d (bVe (v1e (v1e (xc (rVe (v1e (v1e (xc rfl ⟨rfl, rfl⟩ rfl (F_apartE (m := 1) hn (by omega))) rfl) (by rw [wide_apart hn (W.le t3)]; rfl)) (rVe rfl (rVe rfl (rVe rfl rfl)))) ⟨rfl, rfl⟩ rfl (F_told (m := 1) hn (trees_ok hn (W.le t3)))) rfl) rfl)))) ?_
      obtain ⟨p0, pn⟩ := placeBy_ok (c := cellAt ns 7) n2
      have hsp := wide_spN hn W p0 pn
      have R := rows_ok (m := t) (mm := t) hn (show t ≤ spN n ps (placeBy (cellAt ns 7) n) t by omega)
      have hwd : waysD n ps (placeBy (cellAt ns 7) n) t = .tup [.str "ways", .lst (dRows (rowsOf n ps (placeBy (cellAt ns 7) n) t (spN n ps (placeBy (cellAt ns 7) n) t)))] := waysD1 (by omega)
      refine ⟨waysD n ps (placeBy (cellAt ns 7) n) t, v1e (v1e (xc (rSe rfl (rVe (placeE n2 (cellE (k := 7) rfl) rfl) (rVe rfl rfl))) ⟨rfl, rfl⟩ rfl (F_ways_yes hn p0 pn (by omega))) rfl) rfl, ?_⟩
      rw [hwd]
      refine if_f (dec_f (p := (¬ True) ∨ (False ∨ (False ∨ False))) (by simp) (bOr_d (bNot_d (bVe (v1e rfl isi_tup))) fun _ => bOr_d (bVe (v2e (x := .int 2) rfl rfl rfl)) fun _ => bOr_d (bVe (v2e (x := .str "ways") rfl rfl (by unfold fNe; rw [fEq_ww]; rfl))) fun _ => bVe (v2e (x := dInt t) (v1e (x := dRows (rowsOf n ps (placeBy (cellAt ns 7) n) t (spN n ps (placeBy (cellAt ns 7) n) t))) rfl (by show some (D.int ((dRows _).length : Int)) = _; unfold dRows; rw [List.length_map, R.len]; rfl)) (y := dInt t) rfl (by unfold fNe; rw [fEq_dn]; rfl)))) ?_
      generalize waysD n ps (placeBy (cellAt ns 7) n) t = wd
      generalize hRR : treesD n ps t = RR at T
      refine ⟨dRows RR, rfl, ?_⟩
      have hrow : ∀ row ∈ RR, ∀ k ∈ row, k < ps.length := fun row hr k hk => (T.tree row hr).lt k hk
      refine loopT_inv (enc := fun r => D.lst (dNs r)) (fun rest Γ => ∃ (done : List Nat) (ps' : List P3) (v11 v12 v13 : Option Sl), (∀ row ∈ rest, row ∈ RR) ∧ done ++ rest.flatten = RR.flatten ∧ okNet n ps' ∧ ps'.length = ps.length ∧ (∀ k ∈ done, (pAt ps' k).2.2 = false) ∧
        Γ = [some (.val (.scr ns)), some (.val (.int (n : Int))), some (.val (.int (t : Int))), some (.own .loc (dPs ps)), v3, v4, v5, some (.val (dInt cu)), some (.val (dInt mo)), some (.net .loc (n : Int) (dPs ps')), some (.val (.tup [.str "trees", .lst (dRows RR)])), v11, v12, v13]) ?_ ?_ RR _ ⟨[], ps, _, none, none, fun _ h => h, rfl, hn, rfl, fun k h => (nomatch h), rfl⟩
      · rintro row rest Γ kk ⟨done, ps', v11, v12, v13, hr, hd, ok', hl', hsh, rfl⟩ hk
        refine ⟨_, rfl, ?_⟩
        have hrm := hr row (by simp)
        refine ⟨dNs row, rfl, ?_⟩
        rw [List.flatten_cons] at hd
        refine loopT_inv (enc := dInt) (fun rr Γ => ∃ (dn : List Nat) (ps'' : List P3) (v13 : Option Sl), (∀ k ∈ rr, k < ps.length) ∧ dn ++ rr = row ∧ okNet n ps'' ∧ ps''.length = ps.length ∧ (∀ k ∈ done ++ dn, (pAt ps'' k).2.2 = false) ∧
          Γ = [some (.val (.scr ns)), some (.val (.int (n : Int))), some (.val (.int (t : Int))), some (.own .loc (dPs ps)), v3, v4, v5, some (.val (dInt cu)), some (.val (dInt mo)), some (.net .loc (n : Int) (dPs ps'')), some (.val (.tup [.str "trees", .lst (dRows RR)])), v11, some (.val (.lst (dNs row))), v13]) ?_ ?_ row _ ⟨[], ps', v13, hrow row hrm, rfl, ok', hl', by simpa using hsh, rfl⟩
        · rintro k rr Γ kk' ⟨dn, ps'', v13, hkl, hdn, ok'', hl'', hsh', rfl⟩ hk'
          refine ⟨_, rfl, ?_⟩
          have hk0 : k < ps''.length := by rw [hl'']; exact hkl k (by simp)
          refine ⟨rfl, _, _, _, _, rfl, ⟨rfl, rfl⟩, rfl, G_shutT hk0, ?_⟩
          refine hk' _ ⟨dn ++ [k], turnAt ps'' k false, some (.val (dInt k)), fun a ha => hkl a (List.mem_cons_of_mem _ ha), by rw [← hdn]; simp, turnAt_ok ok'' hk0, by rw [turnAt_len]; exact hl'', fun j hj => ?_, (by cases v3 <;> cases v4 <;> cases v5 <;> cases v11 <;> rfl)⟩
          rw [pAt_turn hk0]
          split
          · rfl
          · rename_i hne
            refine hsh' j ?_
            rw [← List.append_assoc] at hj
            rcases List.mem_append.mp hj with z | z
            · exact z
            · simp at z
              exact absurd z hne
        · rintro Γ ⟨dn, ps'', v13, _, hdn, ok'', hl'', hsh', rfl⟩
          rw [List.append_nil] at hdn
          subst hdn
          exact hk _ ⟨done ++ dn, ps'', v11, _, v13, fun a ha => hr a (List.mem_cons_of_mem _ ha), by rw [← hd]; simp, ok'', hl'', hsh', rfl⟩
      · rintro Γ ⟨done, ps', v11, v12, v13, _, hd, ok', hl', hsh, rfl⟩
        have hd : done = RR.flatten := by simpa using hd
        subst hd
        refine ⟨.bl true, ?_, rfl⟩
        by_cases cm : (0 : Int) < (mo : Int)
        · exact vOr_t (v2e (x := dInt mo) rfl rfl (by show some (D.bl (decide ((0 : Int) < (mo : Int)))) = _; rw [decide_eq_true cm]))
        · refine vOr_f (v2e (x := dInt mo) rfl rfl (by show some (D.bl (decide ((0 : Int) < (mo : Int)))) = _; rw [decide_eq_false cm])) ?_
          have hfl : RR.flatten.length = ps.length := by
            have e1 : ∀ (rows : List (List Nat)), (∀ row ∈ rows, row.length = n - 1) → rows.flatten.length = rows.length * (n - 1) := fun rows => by
              induction rows with
              | nil => intro _; simp
              | cons r rows ih =>
                intro h
                rw [List.flatten_cons, List.length_append, h r (by simp), ih fun a ha => h a (List.mem_cons_of_mem _ ha), List.length_cons, Nat.succ_mul]
                omega
            rw [e1 RR fun row hr => (T.tree row hr).len, T.len, hpl]
            omega
          have hall : ∀ k, k < ps'.length → (pAt ps' k).2.2 = false := fun k hk => hsh k (full_of_len T.nd (fun v hv => by
            obtain ⟨row, h1, h2⟩ := List.mem_flatten.mp hv
            exact (T.tree row h1).lt v h2) hfl (by omega))
          refine v2e (v1e (v1e (xc rfl ⟨rfl, rfl⟩ rfl (F_reachedE ok')) rfl) (by rw [reached_shut ok' hall]; rfl)) (y := .lst (dNs [0])) rfl (fEq_refl (shaped_ns [0]))
  · cases h
end Z

set_option maxRecDepth 100000
namespace Z
open PySem PySem.Spec PyProof.Rows L2
section
variable {X : Cx} {g : Glo} {W : WX}
/-! ### try .. except x as e: marks = [isinstance(e, ..), ..]; marks = marks + [..] -/
/-- what must be known of the errors' classes -/
structure ExI (g : Glo) : Prop where
  c : ∀ x, ExcC g.K (g.cls x)
  is : ∀ x y, PySem.W.kitOne g.K (.ref (g.cls x)) (.ref (g.cls y)) = some (decide (x = y))
  ve : ∀ x, PySem.W.kitOne g.K (.ref (g.cls x)) (.type "ValueError") = some true
/-- the i-th slot holds the error a -/
def tK (i : Nat) (a : Addr) (b : Bool) : TE := fun σ H Q => σ[i]? = some (some (V.ref a)) ∧ Q (.bl b) H
/-- the asked class -/
inductive Cq where
  | ve
  | own (y : Ex)
def Cq.ask (x : Ex) : Cq → Bool
  | .ve => true
  | .own y => decide (x = y)
def Cq.val (g : Glo) : Cq → Value
  | .ve => .type "ValueError"
  | .own y => .ref (g.cls y)
def Cq.v (g : Glo) : Cq → V
  | .ve => .ty "ValueError"
  | .own y => .ref (g.cls y)
theorem Cq.rel (g : Glo) (q : Cq) : ∀ u, RelV (q.v g) u → u = q.val g := by
  cases q with
  | ve => exact fun u h => h
  | own y => exact fun u h => h
theorem Cq.kit {g : Glo} (E : ExI g) (x : Ex) (q : Cq) : PySem.W.kitOne g.K (.ref (g.cls x)) (q.val g) = some (q.ask x) := by
  cases q with
  | ve => exact E.ve x
  | own y => exact E.is x y
theorem pe_ask {a : Addr} {oe : Obj} {pn : List (Addr × Obj)} {x : Ex} {q : Cq} {i : Nat} {e1 e2 : Expr} {p pos : Pos} (E : ExI g) (hK : X.K = g.K) (hz : Zc (.ref (g.cls x)) none oe) (hf : ∃ vs, oe.data = .fields vs) (hm : X.mg "isinstance" = none) (hg : Gl X "isinstance")
    (he : PE (X.suite a ((a, oe) :: pn)) e1 (tVar i)) (hc : PE (X.suite a ((a, oe) :: pn)) e2 (tC (q.v g)))
    (h1 : starEach [e1, e2] X.env = (false, eval e1 X.env) :: starEach [e2] X.env := by rfl) (h2 : starEach [e2] X.env = (false, eval e2 X.env) :: starEach [] X.env := by rfl) (h3 : (backTo pos (starEach [e2] X.env)).any (·.1) = false := by rfl) :
    PE (X.suite a ((a, oe) :: pn)) (.Call (.Name "isinstance" p) [e1, e2] [] pos) (tK i a (q.ask x)) :=
  PE_mono (pe_callB (call_isE (by rw [hK]; exact E.c x) hz hf) hg hm (by decide +kernel) (pa_cons he (pa_cons hc pa_nil h2) h1) (by decide) (by decide) h1 h3) fun σ H Q ⟨k1, k2⟩ => ⟨_, k1, q.v g, q.val g, q.ask x, rfl, q.rel g, by rw [hK]; exact q.kit E x, k2⟩
theorem pe_askV {x : Str} {pos : Pos} (hg : Gl X "ValueError") (hm : X.mg "ValueError" = none) : PE X (.Name "ValueError" pos) (tC (Cq.ve.v g)) := pe_bltn hg hm (by decide +kernel) rfl
theorem pe_askC {x : Str} {y : Ex} {pos : Pos} (E : ExT g X.mg x y) (hg : Gl X x) (hd : (x == ("__debug__" : Str)) = false := by decide) : PE X (.Name x pos) (tC ((Cq.own y).v g)) := pe_glob hg E.gC rfl hd
theorem PSs_ex {α : Type} {sts : List Stmt} {P : α → Prop} {t : α → TS} (h : ∀ x, P x → PSs X sts (t x)) : PSs X sts (fun De σ H => ∃ x, P x ∧ t x De σ H) :=
  ⟨fun pins s σ H D I ⟨x, hx, h'⟩ => (h x hx).run pins s σ H D I h'⟩
theorem Sat.forget {Γ : En} {σ : SS} {Hb H : Hp} {ow : Addr → Option Nat} {i : Nat} {w : Option V} (S : Sat g Γ σ Hb H ow) (hi : Γ[i]? = some none) : Sat g Γ (σ.set i w) Hb H ow :=
  ⟨S.same, S.ows, fun j s e => by
    have ne : i ≠ j := fun z => by subst z; rw [hi] at e; cases e
    rw [List.getElem?_set_ne ne]
    exact S.slots j s e, by rw [List.length_set]; exact S.len⟩
theorem Frm.forget {c : Ct} {Γ : En} {σ : SS} {Hb H : Hp} {ow : Addr → Option Nat} {i : Nat} {w : Option V} (F : Frm c Γ σ Hb H ow) (hi : Γ[i]? = some none) : Frm c Γ (σ.set i w) Hb H ow :=
  ⟨F.hb, F.h, F.th, F.new, F.md, fun j s e m => by
    have ne : i ≠ j := fun z => by subst z; rw [hi] at e; cases e
    rw [List.getElem?_set_ne ne]
    exact F.pin j s e m, F.keep, F.kpo⟩
/-- three asked, and three more -/
def tMark (i j : Nat) (a : Addr) (b1 b2 b3 b4 b5 b6 : Bool) : TS :=
  tSeq (tAsg (tLst (tCons (tK i a b1) (tCons (tK i a b2) (tCons (tK i a b3) tNil)))) (gName j))
    (tSeq (tAsg (tOp rCat (tVar j) (tLst (tCons (tK i a b4) (tCons (tK i a b5) (tCons (tK i a b6) tNil))))) (gName j)) tNext)
def tryMQ (cg : Ex → Option Bool) (i j : Nat) (q : List Cq) (Q : Out → Prop) : Out → Prop
  | .ex x Γ => cg x = some true ∧ Γ[i]? = some none ∧ j < Γ.length ∧ Q (.nx (Γ.set j (some (.own .loc (q.map fun c => .bl (c.ask x))))))
  | o => Q o
def tryMT (cg : Ex → Option Bool) (i j : Nat) (q : List Cq) (Tb : VT) : VT := fun Q Γ => Tb (tryMQ cg i j q Q) Γ
theorem s_tryM {x n : Str} {cg : Ex → Option Bool} {i j : Nat} {q1 q2 q3 q4 q5 q6 : Cq} {Tb : VT} {body suite : List Stmt} {b₀ : Stmt} {np pos pos' : Pos} (Ct : CtT g X.mg x cg) (hK : X.K = g.K) (hg : Gl X x) (hs : X.stack = X.env :: X.outer) (hf : X.env.frame = some X.env.locals) (hN : X.N.Nodup) (hi : X.N[i]? = some n) (hln : X.env.kindOf n = some .local) (hij : i ≠ j) (tk : Takes X W)
    (hb : ∀ (W' : WX) (pn : List (Addr × Obj)) (xe : Value → Shared → Prop), Takes (X.tr pn xe) W' → PassesOwn (model X.prog X.w) X.A X.env xe → PSs (X.tr pn xe) body (sV g W' Tb))
    (hsu : ∀ (a : Addr) (oe : Obj) (pn : List (Addr × Obj)) (y : Ex), Zc (.ref (g.cls y)) none oe → (∃ vs, oe.data = .fields vs) → PSs (X.suite a ((a, oe) :: pn)) (b₀ :: suite) (tMark i j a (q1.ask y) (q2.ask y) (q3.ask y) (q4.ask y) (q5.ask y) (q6.ask y))) (hdb : (x == ("__debug__" : Str)) = false := by decide) :
    PS X (.Try body [.ExceptHandler (some (.Name x np)) (some n) (b₀ :: suite) pos'] [] [] pos) (sV g W (tryMT cg i j [q1, q2, q3, q4, q5, q6] Tb)) := by
  obtain ⟨C, h1, h2⟩ := Ct.ex
  refine PS_mono (ps_try_as (c := .ref C) (i := i) (ts := fun a cls d De σ H => ∃ y, (cls = .ref (g.cls y) ∧ d = none) ∧ tMark i j a (q1.ask y) (q2.ask y) (q3.ask y) (q4.ask y) (q5.ask y) (q6.ask y) De σ H) hs hf hN hi hln ⟨hg, hdb, .inl h1⟩ tk hb fun a oe cls d pn hz hf' => PSs_ex fun y ⟨e1, e2⟩ => by
    subst e1 e2
    exact hsu a oe pn y hz hf') fun De σ H ⟨c, Q, Γ, Hb, ow, t, S, F, L⟩ =>
    ⟨c, tryMQ cg i j [q1, q2, q3, q4, q5, q6] Q, Γ, Hb, ow, t, S, F, ⟨L.nx, L.bk, L.ct, L.rt, fun xx Γ1 σ1 Hb1 H1 ow1 q S1 F1 => ?_⟩⟩
  obtain ⟨k1, k2, jl, k3⟩ := q
  refine ⟨true, by rw [hK]; exact h2 _ _ k1, fun _ a ha => ⟨xx, ⟨rfl, rfl⟩, ?_⟩, fun z => (nomatch z)⟩
  have il : i < σ1.length := by rw [← S1.len]; exact (List.getElem?_eq_some_iff.mp k2).1
  have ai : (σ1.set i (some (V.ref a)))[i]? = some (some (V.ref a)) := List.getElem?_set_self il
  refine ⟨ai, ai, ai, (by show 3 ≤ sizeLine; exact le_line (by omega)), fun p hp => ?_⟩
  have ai2 : ((σ1.set i (some (V.ref a))).set j (some (V.ref p)))[i]? = some (some (V.ref a)) := by rw [List.getElem?_set_ne (Ne.symm hij)]; exact ai
  have hjl2 : j < σ1.length := by rw [← S1.len]; exact jl
  have aj : ((σ1.set i (some (V.ref a))).set j (some (V.ref p)))[j]? = some (some (V.ref p)) := List.getElem?_set_self (by rw [List.length_set]; exact hjl2)
  refine ⟨_, aj, ai2, ai2, ai2, (by show 3 ≤ sizeLine; exact le_line (by omega)), fun q hq => ?_⟩
  have npq : p ≠ q := fun z => by rw [← z, upd_same] at hq; cases hq
  refine ⟨p, q, _, _, rfl, rfl, by rw [upd_ne npq]; exact upd_same, upd_same, (by show 3 + 3 ≤ sizeLine; exact le_line (by omega)), fun r hr => ?_⟩
  have g1 : Grow Hb1 H1 Hb1 (upd H1 p (.lst [V.bl (q1.ask xx), V.bl (q2.ask xx), V.bl (q3.ask xx)])) := Grow.own S1.same hp
  have g2 := Grow.own (p := q) (o := .lst [V.bl (q4.ask xx), V.bl (q5.ask xx), V.bl (q6.ask xx)]) g1.same hq
  have g3 := Grow.own (p := r) (o := .lst ([V.bl (q1.ask xx), V.bl (q2.ask xx), V.bl (q3.ask xx)] ++ [V.bl (q4.ask xx), V.bl (q5.ask xx), V.bl (q6.ask xx)])) (g1.trans g2).same hr
  have hr0 : H1 r = none := (g1.h.trans g2.h).free hr
  obtain ⟨ow', S', F'⟩ := setO (i := j) S1 F1 ((g1.trans g2).trans g3) (v := V.ref r) (s := .own .loc ([q1, q2, q3, q4, q5, q6].map fun c => .bl (c.ask xx))) ⟨r, _, rfl, hr0, S1.same.free hr0, upd_same, Reps.cons (rep_bl.mpr rfl) (Reps.cons (rep_bl.mpr rfl) (Reps.cons (rep_bl.mpr rfl) (Reps.cons (rep_bl.mpr rfl) (Reps.cons (rep_bl.mpr rfl) (Reps.cons (rep_bl.mpr rfl) Reps.nil)))))⟩
  have k2' : (Γ1.set j (some (locS (.own .loc ([q1, q2, q3, q4, q5, q6].map fun c => .bl (c.ask xx))))))[i]? = some none := by rw [List.getElem?_set_ne (Ne.symm hij)]; exact k2
  have eσ : (((σ1.set i (some (V.ref a))).set j (some (V.ref p))).set j (some (V.ref r))).set i none = (σ1.set j (some (V.ref r))).set i none := by
    rw [List.set_set, List.set_comm _ _ hij, List.set_set]
  show De.nx ((((σ1.set i (some (V.ref a))).set j (some (V.ref p))).set j (some (V.ref r))).set i none) _
  rw [eσ]
  exact L.nx _ _ Hb1 _ ow' k3 (S'.forget k2') (F'.forget k2')
end
theorem kit_ref {K : PySem.W.Frag} {D C : Addr} {b : Bool} (hd : PySem.W.hasDictIn K C = true) (ht : PySem.W.typeIn K (.ref C) = some (.type "type")) (h : PySem.W.subIn K (.ref D) (.ref C) = some b) (h2 : PySem.W.subIn K (.ref D) (.ref D) = some true) : PySem.W.kitOne K (.ref D) (.ref C) = some b := by
  unfold PySem.W.kitOne
  by_cases c : D = C
  · subst c
    rw [h2] at h
    cases h
    rw [if_pos (by simp)]
  · rw [if_neg (by simp [c])]
    unfold PySem.W.kitCls
    simp only
    have : (PySem.W.clsIn K C).isSome = true := by
      obtain ⟨cd, hc, _⟩ := PySem.W.any_some hd
      rw [hc]
      rfl
    rw [if_pos (by rw [this, ht]; rfl)]
    exact h
theorem kit_ve {K : PySem.W.Frag} {D : Addr} (h : PySem.W.subIn K (.ref D) (.type "ValueError") = some true) : PySem.W.kitOne K (.ref D) (.type "ValueError") = some true := by
  unfold PySem.W.kitOne
  rw [if_neg (by simp)]
  unfold PySem.W.kitCls
  simp only
  rw [if_pos (by decide +kernel)]
  exact h
end Z

set_option maxRecDepth 100000
namespace Z
open PySem PySem.Spec PyProof.Rows L2

/-! ### lists of pipes told -/
theorem okD_P (p : P3) : okD (dP p) = true := rfl
theorem fNe_P (p : P3) : fNe (dP p) (dP p) = some (.bl false) := fNe_refl (okD_P p)
def F_law_same_pipes : FN
  | [.val (.lst a), .val (.lst b)] => (decs a : Option (List P3)).bind fun ps => (decs b : Option (List P3)).bind fun qs => if ps = qs ∧ ps.length ≤ 1000 then some (.inl (.val (.bl true))) else none
  | _ => none
theorem F_same {ps : List P3} (h : ps.length ≤ 1000) : F_law_same_pipes [.val (.lst (dPs ps)), .val (.lst (dPs ps))] = some (.inl (.val (.bl true))) := by
  show (decs (dPs ps) : Option (List P3)).bind _ = _
  rw [decs_dPs, Option.bind_some, Option.bind_some]
  exact ite_some ⟨rfl, h⟩
/-- _law_same_pipes: 0 found 1 due 2 k 3 pipe -/
def t_law_same_pipes : VT := (seqT (ifT (bOr (bNot (bV (v1 (fIsi "list") (vVar 0)))) (bV (v2 fNe (v1 fLenL (lVar 0)) (v1 fLenL (lVar 1))))) (seqT (retV (vC (.bl false))) skipT) skipT) (seqT (forT (lRng1 (v1 fLenL (lVar 1))) (gN 2) (seqT (asgV 3 (v2 fIx (vVar 0) (vVar 2))) (seqT (ifT (bOr (bNot (bV (v1 (fIsi "tuple") (vVar 3)))) (bOr (bV (v2 fNe (v1 fLen (vVar 3)) (vC (.int 3)))) (bNot (bV (v1 (fIsi "bool") (v2 fIx (vVar 3) (vC (.int 2)))))))) (seqT (retV (vC (.bl false))) skipT) skipT) (seqT (ifT (bOr (bNot (bV (v1 slD (v1 inlO (xCall 1 F_law_whole (rV (v2 fIx (vVar 3) (vC (.int 0))) rNil)))))) (bOr (bNot (bV (v1 slD (v1 inlO (xCall 1 F_law_whole (rV (v2 fIx (vVar 3) (vC (.int 1))) rNil)))))) (bV (v2 fNe (vVar 3) (v2 fIx (vVar 1) (vVar 2)))))) (seqT (retV (vC (.bl false))) skipT) skipT) skipT)))) (seqT (retV (vC (.bl true))) skipT)))
theorem v_law_same_pipes : ∀ ss r, ss.length = 2 → F_law_same_pipes ss = some r → t_law_same_pipes (postP r) (En0 ss 4) ∧ ∃ s, r = .inl s := by
  intro ss r hl h
  unfold F_law_same_pipes at h
  split at h
  · rename_i a b
    obtain ⟨ps, e1, h1⟩ := Option.bind_eq_some_iff.mp h
    obtain ⟨qs, e2, h2⟩ := Option.bind_eq_some_iff.mp h1
    clear h h1
    split at h2
    · rename_i hc
      have h4 := Option.some.inj h2
      clear h2
      subst h4
      cases dPs_some e1
      cases dPs_some e2
      obtain ⟨rfl, hlen⟩ := hc
      refine ⟨?_, _, rfl⟩
      have len0 : ∀ {i : Nat} {Γ : En}, lVar i Γ = some (dPs ps) → v1 fLenL (lVar i) Γ = some (dInt ps.length) := fun h => lenPs h
      refine if_f (dec_f (p := (¬ True) ∨ (ps.length ≠ ps.length)) (by simp) (bOr_d (bNot_d (bVe (v1e rfl isi_list))) fun _ => bVe (neE (len0 rfl) (len0 rfl)))) ?_
      refine ⟨_, rng1e (i := (ps.length : Int)) (len0 rfl) (by omega), ?_⟩
      rw [Int.toNat_natCast]
      refine loopT_inv (enc := dInt) (fun rest Γ => (∀ k ∈ rest, k < ps.length) ∧ ∃ v2' v3, Γ = [some (.val (.lst (dPs ps))), some (.val (.lst (dPs ps))), v2', v3]) ?_ ?_ _ _ ⟨fun k hk => by simpa using hk, none, none, rfl⟩
      · rintro k rest Γ kk ⟨hr, v2', v3, rfl⟩ hk
        refine ⟨_, rfl, ?_⟩
        have hkl := hr k (by simp)
        refine ⟨dP (pAt ps k), ixP (k := k) rfl rfl hkl, ?_⟩
        refine if_f (dec_f (p := (¬ True) ∨ (False ∨ ¬ True)) (by simp) (bOr_d (bNot_d (bVe (v1e rfl isi_tup))) fun _ => bOr_d (bVe (v2e (x := .int 3) rfl rfl rfl)) fun _ => bNot_d (bVe (v1e (ixP2 (p := pAt ps k) rfl) isi_bool_bool)))) ?_
        refine if_f (dec_f (p := (¬ True) ∨ ((¬ True) ∨ False)) (by simp) (bOr_d (bNot_d (bVe (v1e (v1e (xc (rVe (ixP0 (p := pAt ps k) rfl) rfl) ⟨rfl, rfl⟩ rfl rfl) rfl) rfl))) fun _ => bOr_d (bNot_d (bVe (v1e (v1e (xc (rVe (ixP1 (p := pAt ps k) rfl) rfl) ⟨rfl, rfl⟩ rfl rfl) rfl) rfl))) fun _ => bVe (v2e rfl (ixP (k := k) rfl rfl hkl) (fNe_P _)))) ?_
        exact hk _ ⟨fun a ha => hr a (List.mem_cons_of_mem _ ha), _, _, rfl⟩
      · rintro Γ ⟨_, v2', v3, rfl⟩
        exact ⟨_, rfl, rfl⟩
    · cases h2
  · cases h
/-! ### how an error is told -/
def nameX : Ex → Str
  | .place => "place"
  | .pipe => "pipe"
  | .same => "same"
  | .much => "much"
  | .net => "other"
def marksX (x : Ex) : List D := [Cq.ve, .own .place, .own .pipe, .own .same, .own .much, .own .net].map fun c => .bl (c.ask x)
def F_law_marks_of : FN
  | [.val (.lst [.bl true, .bl true, .bl false, .bl false, .bl false, .bl false])] => some (.inl (.val (.str "place")))
  | [.val (.lst [.bl true, .bl false, .bl true, .bl false, .bl false, .bl false])] => some (.inl (.val (.str "pipe")))
  | [.val (.lst [.bl true, .bl false, .bl false, .bl true, .bl false, .bl false])] => some (.inl (.val (.str "same")))
  | [.val (.lst [.bl true, .bl false, .bl false, .bl false, .bl true, .bl false])] => some (.inl (.val (.str "much")))
  | [.val (.lst [.bl true, .bl false, .bl false, .bl false, .bl false, .bl true])] => some (.inl (.val (.str "other")))
  | _ => none
theorem F_marks (x : Ex) : F_law_marks_of [.val (.lst (marksX x))] = some (.inl (.val (.str (nameX x)))) := by cases x <;> rfl
/-- _law_marks_of: 0 marks 1 names 2 k 3 j -/
def t_law_marks_of : VT := (seqT (asgV 1 (v1 slD (oLst (aCons (vC (.str "place")) (aCons (vC (.str "pipe")) (aCons (vC (.str "same")) (aCons (vC (.str "much")) aNil))))))) (seqT (forT (lRng1 (vC (.int 4))) (gN 2) (seqT (ifT (bV (v2 fEq (vVar 0) (v1 slD (v2 fCat (v1 slL (v2 fCat (v1 slL (oLst (aCons (vC (.bl true)) aNil))) (v1 slL (vLc [3] (lRng1 (vC (.int 4))) (gN 3) bT (v2 fEq (vVar 3) (vVar 2)))))) (v1 slL (oLst (aCons (vC (.bl false)) aNil))))))) (seqT (retV (v2 fIx (vVar 1) (vVar 2))) skipT) skipT) skipT)) (seqT (retV (vC (.str "other"))) skipT)))
def mkTest : VB := bV (v2 fEq (vVar 0) (v1 slD (v2 fCat (v1 slL (v2 fCat (v1 slL (oLst (aCons (vC (.bl true)) aNil))) (v1 slL (vLc [3] (lRng1 (vC (.int 4))) (gN 3) bT (v2 fEq (vVar 3) (vVar 2)))))) (v1 slL (oLst (aCons (vC (.bl false)) aNil))))))
def mkNames : D := .lst [.str "place", .str "pipe", .str "same", .str "much"]
def mkEnv (x : Ex) (k : Nat) (v3 : Option Sl) : En := [some (.val (.lst (marksX x))), some (.val mkNames), some (.val (.int (k : Int))), none]
def mkP (x : Ex) (k : Nat) : Prop := (nameX x = "place" ∧ k = 0) ∨ (nameX x = "pipe" ∧ k = 1) ∨ (nameX x = "same" ∧ k = 2) ∨ (nameX x = "much" ∧ k = 3)
instance (x : Ex) (k : Nat) : Decidable (mkP x k) := by unfold mkP; infer_instance
theorem mk_all : ∀ x ∈ [Ex.much, .place, .pipe, .same, .net], ∀ k ∈ [0, 1, 2, 3], mkTest (mkEnv x k none) = some (decide (mkP x k)) := by
  decide +kernel
theorem mk_none : ∀ x ∈ [Ex.much, .place, .pipe, .same, .net], (∀ k ∈ [0, 1, 2, 3], ¬ mkP x k) → nameX x = "other" := by
  decide +kernel
theorem mem_ex (x : Ex) : x ∈ [Ex.much, .place, .pipe, .same, .net] := by cases x <;> simp
theorem mk_names {x : Ex} {k : Nat} (h : mkP x k) : fIx mkNames (.int (k : Int)) = some (.str (nameX x)) := by
  rcases h with ⟨e, rfl⟩ | ⟨e, rfl⟩ | ⟨e, rfl⟩ | ⟨e, rfl⟩ <;> rw [e] <;> rfl
theorem v_marks (x : Ex) : t_law_marks_of (postP (.inl (.val (.str (nameX x))))) (En0 [.val (.lst (marksX x))] 4) := by
  refine ⟨mkNames, rfl, ?_⟩
  refine ⟨_, rng1e (i := 4) rfl (by omega), ?_⟩
  refine loopT_inv (enc := dInt) (fun rest Γ => (∀ k ∈ rest, k ∈ [0, 1, 2, 3]) ∧ (∀ k ∈ [0, 1, 2, 3], mkP x k → k ∈ rest) ∧ ∃ v2', Γ = [some (.val (.lst (marksX x))), some (.val mkNames), v2', none]) ?_ ?_ _ _ ⟨fun k hk => hk, fun k hk _ => hk, none, rfl⟩
  · rintro k rest Γ kk ⟨hr, hp, v2', rfl⟩ hk
    refine ⟨_, rfl, ?_⟩
    refine if_d (p := mkP x k) (mk_all x (mem_ex x) k (hr k (by simp))) (fun c => ?_) (fun c => ?_)
    · exact ⟨.str (nameX x), v2e rfl rfl (mk_names c), rfl⟩
    · refine hk _ ⟨fun a ha => hr a (List.mem_cons_of_mem _ ha), fun j hj q => ?_, _, rfl⟩
      rcases List.mem_cons.mp (hp j hj q) with z | z
      · subst z
        exact absurd q c
      · exact z
  · rintro Γ ⟨_, hp, v2', rfl⟩
    have := mk_none x (mem_ex x) fun k hk q => by cases hp k hk q
    rw [this]
    exact ⟨_, rfl, rfl⟩
theorem v_law_marks_of : ∀ ss r, ss.length = 1 → F_law_marks_of ss = some r → t_law_marks_of (postP r) (En0 ss 4) ∧ ∃ s, r = .inl s := by
  intro ss r hl h
  unfold F_law_marks_of at h
  split at h
  · cases h; exact ⟨v_marks .place, _, rfl⟩
  · cases h; exact ⟨v_marks .pipe, _, rfl⟩
  · cases h; exact ⟨v_marks .same, _, rfl⟩
  · cases h; exact ⟨v_marks .much, _, rfl⟩
  · cases h; exact ⟨v_marks .net, _, rfl⟩
  · cases h
theorem marks_ne : ∀ x ∈ [Ex.much, .place, .pipe, .same, .net], fEq (.lst (marksX x)) (.lst []) = some (.bl false) := by
  intro x _
  cases x <;> rfl
/-! ### a pipe laid, or refused -/
def laidD (s : Int) (ds : List D) (a b : Int) : D := match layPs s ds a b with
  | .inl x => .tup [.str "refused", .str (nameX x)]
  | .inr _ => .tup [.str "laid", .int (ds.length : Int)]
def laidL (s : Int) (ds : List D) (a b : Int) : List D := match layPs s ds a b with
  | .inl _ => ds
  | .inr ps' => ps'
def G_law_laid : FM
  | [.net .mut s ds, .val (.int a), .val (.int b)] => some (.inl (.val (laidD s ds a b)), [.net .mut s (laidL s ds a b), .val (.int a), .val (.int b)])
  | _ => none
/-- _law_laid: 0 net 1 start 2 goal 3 found 4 marks 5 e -/
def t_law_laid : VT := (seqT (asgV 3 (vC .non)) (seqT (asgO 4 (oLst aNil)) (seqT (tryMT (ctL [.much, .place, .pipe, .same, .net]) 5 4 [.ve, (.own .place), (.own .pipe), (.own .same), (.own .much), (.own .net)] (seqT (nmT (some 3) 3 G_lay 0 (rV (vVar 1) (rV (vVar 2) rNil))) skipT)) (seqT (ifT (bFrz (bV (v2 fEq (vVar 4) (v1 slD (oLst aNil))))) (seqT (retV (vTup (aCons (vC (.str "laid")) (aCons (vVar 3) aNil)))) skipT) skipT) (seqT (frzT 4 (retV (vTup (aCons (vC (.str "refused")) (aCons (v1 slD (v1 inlO (xCall 1 F_law_marks_of (rV (vVar 4) rNil)))) aNil))))) skipT)))))
theorem v_law_laid : ∀ ss r ss', ss.length = 3 → G_law_laid ss = some (r, ss') → t_law_laid (postM r ss ss') (En0 ss 6) := by
  intro ss r ss' hl h
  unfold G_law_laid at h
  split at h
  · rename_i s ds a b
    cases h
    refine ⟨_, rfl, ?_⟩
    refine ⟨_, rfl, ?_⟩
    cases q : layPs s ds a b with
    | inl x =>
      have hg : G_lay [.net .mut s ds, .val (.int a), .val (.int b)] = some (.inr x, [.net .mut s ds, .val (.int a), .val (.int b)]) := by
        unfold G_lay
        simp only [q]
      have eD : laidD s ds a b = .tup [.str "refused", .str (nameX x)] := by unfold laidD; rw [q]
      have eL : laidL s ds a b = ds := by unfold laidL; rw [q]
      rw [eD, eL]
      refine ⟨rfl, _, _, _, _, rfl, ⟨rfl, rfl⟩, rfl, hg, ?_⟩
      refine ⟨by cases x <;> rfl, rfl, by show 4 < 6; omega, ?_⟩
      refine if_f (bVe (v2e (x := .lst (marksX x)) rfl rfl (marks_ne x (mem_ex x)))) ?_
      refine ⟨.tup [.str "refused", .str (nameX x)], ?_, rfl, .inl ⟨rfl, rfl⟩, .inr ⟨rfl, rfl⟩, .inr ⟨rfl, rfl⟩, trivial⟩
      unfold vTup
      rw [show (aCons (vC (.str "refused")) (aCons (v1 slD (v1 inlO (xCall 1 F_law_marks_of (rV (vVar 4) rNil)))) aNil)) _ = some [.str "refused", .str (nameX x)] from by
        unfold aCons
        exact Option.bind_eq_some_iff.mpr ⟨_, rfl, Option.bind_eq_some_iff.mpr ⟨_, Option.bind_eq_some_iff.mpr ⟨_, v1e (v1e (xc rfl ⟨rfl, rfl⟩ rfl (F_marks x)) rfl) rfl, rfl⟩, rfl⟩⟩]
      rfl
    | inr ps' =>
      have hg : G_lay [.net .mut s ds, .val (.int a), .val (.int b)] = some (.inl (.val (.int ds.length)), [.net .mut s ps', .val (.int a), .val (.int b)]) := by
        unfold G_lay
        simp only [q]
      have eD : laidD s ds a b = .tup [.str "laid", .int (ds.length : Int)] := by unfold laidD; rw [q]
      have eL : laidL s ds a b = ps' := by unfold laidL; rw [q]
      rw [eD, eL]
      refine ⟨rfl, _, _, _, _, rfl, ⟨rfl, rfl⟩, rfl, hg, ?_⟩
      refine if_t (bVe (v2e (x := .lst []) rfl rfl rfl)) ?_
      exact ⟨_, rfl, rfl, .inl ⟨rfl, rfl⟩, .inr ⟨rfl, rfl⟩, .inr ⟨rfl, rfl⟩, trivial⟩
  · cases h
def dueD (s m a b : Int) : D := if a < 0 ∨ s ≤ a ∨ b < 0 ∨ s ≤ b then .tup [.str "refused", .str "place"] else if a = b then .tup [.str "refused", .str "same"] else if 60 ≤ m then .tup [.str "refused", .str "much"] else .tup [.str "laid", .int m]
theorem laid_due (s : Int) (ds : List D) (a b : Int) : laidD s ds a b = dueD s (ds.length : Int) a b := by
  unfold laidD layPs dueD
  by_cases c1 : a < 0 ∨ s ≤ a
  · rw [if_pos c1, if_pos (c1.imp id .inl)]
    rfl
  rw [if_neg c1]
  by_cases c2 : b < 0 ∨ s ≤ b
  · rw [if_pos c2, if_pos (.inr (.inr c2))]
    rfl
  rw [if_neg c2, if_neg (show ¬ (a < 0 ∨ s ≤ a ∨ b < 0 ∨ s ≤ b) by omega)]
  by_cases c3 : a = b
  · rw [if_pos c3, if_pos c3]
    rfl
  rw [if_neg c3, if_neg c3]
  by_cases c4 : 60 ≤ (ds.length : Int)
  · rw [if_pos c4, if_pos c4]
    rfl
  · rw [if_neg c4, if_neg c4]
def F_law_due_k01 : FN
  | [.val (.int s), .val (.int m), .val (.int a), .val (.int b)] => some (.inl (.val (dueD s m a b)))
  | _ => none
/-- _law_due: 0 size 1 many 2 start 3 goal -/
def t_law_due_k01 : VT := (seqT (ifT (bOr (bV (v2 fLt (v2 fMin (vVar 2) (vVar 3)) (vC (.int 0)))) (bV (v2 fGe (v2 fMax (vVar 2) (vVar 3)) (vVar 0)))) (seqT (retV (vTup (aCons (vC (.str "refused")) (aCons (vC (.str "place")) aNil)))) skipT) skipT) (seqT (ifT (bV (v2 fEq (vVar 2) (vVar 3))) (seqT (retV (vTup (aCons (vC (.str "refused")) (aCons (vC (.str "same")) aNil)))) skipT) skipT) (seqT (ifT (bV (v2 fGe (vVar 1) (vC (.int 60)))) (seqT (retV (vTup (aCons (vC (.str "refused")) (aCons (vC (.str "much")) aNil)))) skipT) skipT) (seqT (retV (vTup (aCons (vC (.str "laid")) (aCons (vVar 1) aNil)))) skipT))))
theorem v_law_due_k01 : ∀ ss r, ss.length = 4 → F_law_due_k01 ss = some r → t_law_due_k01 (postP r) (En0 ss 4) ∧ ∃ s, r = .inl s := by
  intro ss r hl h
  unfold F_law_due_k01 at h
  split at h
  · rename_i s m a b
    cases h
    refine ⟨?_, _, rfl⟩
    refine if_d (p := (if b < a then b else a) < 0 ∨ s ≤ (if b > a then b else a)) (bOr_d (bVe (v2e (v2e rfl rfl rfl) rfl rfl)) fun _ => bVe (v2e (v2e rfl rfl rfl) rfl rfl)) (fun c => ?_) (fun c => ?_)
    · have c' : a < 0 ∨ s ≤ a ∨ b < 0 ∨ s ≤ b := by split at c <;> split at c <;> omega
      refine ⟨_, rfl, ?_⟩
      show (Sum.inl (Sl.val (dueD s m a b)) : Rs) = _
      unfold dueD
      rw [if_pos c']
    · have c' : ¬ (a < 0 ∨ s ≤ a ∨ b < 0 ∨ s ≤ b) := by split at c <;> split at c <;> omega
      refine if_d (p := a = b) (bVe (v2e rfl rfl rfl)) (fun c2 => ?_) (fun c2 => ?_)
      · refine ⟨_, rfl, ?_⟩
        show (Sum.inl (Sl.val (dueD s m a b)) : Rs) = _
        unfold dueD
        rw [if_neg c', if_pos c2]
      · refine if_d (p := 60 ≤ m) (bVe (v2e rfl rfl rfl)) (fun c3 => ?_) (fun c3 => ?_)
        · refine ⟨_, rfl, ?_⟩
          show (Sum.inl (Sl.val (dueD s m a b)) : Rs) = _
          unfold dueD
          rw [if_neg c', if_neg c2, if_pos c3]
        · refine ⟨_, rfl, ?_⟩
          show (Sum.inl (Sl.val (dueD s m a b)) : Rs) = _
          unfold dueD
          rw [if_neg c', if_neg c2, if_neg c3]
  · cases h
def F_law_no_net : FN
  | [.val (.int s)] => if s < 1 ∨ 12 < s then some (.inl (.val (.bl true))) else none
  | _ => none
theorem F_noNet {s : Int} (h : s < 1 ∨ 12 < s) : F_law_no_net [.val (.int s)] = some (.inl (.val (.bl true))) := ite_some h
/-- _law_no_net: 0 size 1 refused -/
def t_law_no_net : VT := (seqT (asgV 1 (vC (.bl false))) (seqT (tryT (ctL [.much]) (seqT (exprX (newF (vVar 0))) skipT) (seqT (asgV 1 (vC (.bl true))) skipT)) (seqT (retV (vVar 1)) skipT)))
theorem v_law_no_net : ∀ ss r, ss.length = 1 → F_law_no_net ss = some r → t_law_no_net (postP r) (En0 ss 2) ∧ ∃ s, r = .inl s := by
  intro ss r hl h
  unfold F_law_no_net at h
  split at h
  · rename_i s
    split at h
    · rename_i hs
      cases h
      refine ⟨?_, _, rfl⟩
      refine ⟨_, rfl, ?_⟩
      refine ⟨.inr .much, ?_, ?_⟩
      · show some (if 1 ≤ s ∧ s ≤ 12 then _ else _) = _
        rw [if_neg (by omega)]
      · exact ⟨_, rfl, _, rfl, rfl⟩
    · cases h
  · cases h
end Z

set_option maxRecDepth 100000
namespace Z
open PySem PySem.Spec PyProof.Rows L2

/-! ### the first law -/
theorem if_join {t : VB} {T U : VT} {Q : Out → Prop} {Γ : En} {p : Prop} [Decidable p] (I : En → Prop) (e : t Γ = some (decide p)) (h1 : p → ∀ Q : Out → Prop, (∀ Γ', I Γ' → Q (.nx Γ')) → T Q Γ) (h2 : ¬ p → ∀ Q : Out → Prop, (∀ Γ', I Γ' → Q (.nx Γ')) → U Q Γ) (hq : ∀ Γ', I Γ' → Q (.nx Γ')) : ifT t T U Q Γ :=
  if_d e (fun c => h1 c Q hq) fun c => h2 c Q hq
theorem str_ll2 : decide (("laid" : Str) = "laid") = true := by decide +kernel
theorem str_rl : decide (("refused" : Str) = "laid") = false := by decide +kernel
theorem fEq_ll : fEq (.str "laid") (.str "laid") = some (.bl true) := congrArg (fun b => some (D.bl b)) str_ll2
theorem fEq_rl : fEq (.str "refused") (.str "laid") = some (.bl false) := congrArg (fun b => some (D.bl b)) str_rl
theorem okD_ref (x : Ex) : okD (.tup [.str "refused", .str (nameX x)]) = true := by cases x <;> decide +kernel
theorem okD_laid (m : Int) : okD (.tup [.str "laid", .int m]) = true := (show okD (.tup [.str "laid", .int m]) = okD (.tup [.str "laid", .int 0]) from rfl).trans (by decide +kernel)
theorem laid_cases (n : Nat) (ps : List P3) (a b : Int) : (∃ (a' b' : Nat), a = (a' : Int) ∧ b = (b' : Int) ∧ ps.length < 60 ∧ laidD (n : Int) (dPs ps) a b = .tup [.str "laid", .int (ps.length : Int)] ∧ laidL (n : Int) (dPs ps) a b = dPs (ps ++ [(a', b', true)])) ∨
    (∃ x, laidD (n : Int) (dPs ps) a b = .tup [.str "refused", .str (nameX x)] ∧ laidL (n : Int) (dPs ps) a b = dPs ps) := by
  unfold laidD laidL
  cases q : layPs (n : Int) (dPs ps) a b with
  | inl x => exact .inr ⟨x, rfl, rfl⟩
  | inr ps' =>
    left
    unfold layPs at q
    split at q
    · cases q
    · rename_i c1
      split at q
      · cases q
      · rename_i c2
        split at q
        · cases q
        · split at q
          · cases q
          · rename_i c4
            cases q
            rw [dPs_len] at c4
            obtain ⟨a', rfl⟩ := Int.eq_ofNat_of_zero_le (show 0 ≤ a by omega)
            obtain ⟨b', rfl⟩ := Int.eq_ofNat_of_zero_le (show 0 ≤ b by omega)
            refine ⟨a', b', rfl, rfl, by omega, by rw [dPs_len], ?_⟩
            rw [dPs_snoc]
            rfl
def F_law_k01 : FN
  | [.val (.scr _)] => some (.inl (.val (.bl true)))
  | _ => none
theorem F_law_k01_t (ns : List Int) (_ : ns.length ≤ 63) : F_law_k01 [.val (.scr ns)] = some (.inl (.val (.bl true))) := rfl
/-- law: 0 script 1 size 2 far 3 net 4 due 5 k 6 cell 7 start 8 goal 9 told 10 found 11 listed 12 many -/
def t_law_k01 : VT := (seqT (asgV 1 (v2 fAdd (vC (.int 1)) (v2 fMod (v1 slD (v1 inlO (xCall 2 F_law_cell_at (rV (vVar 0) (rV (vC (.int 0)) rNil))))) (vC (.int 12))))) (seqT (asgV 2 (v2 fMod (v1 slD (v1 inlO (xCall 2 F_law_cell_at (rV (vVar 0) (rV (vC (.int 1)) rNil))))) (vC (.int 1000)))) (seqT (ifT (bOr (bNot (bV (v1 slD (v1 inlO (xCall 1 F_law_no_net (rV (vC (.int 0)) rNil)))))) (bOr (bNot (bV (v1 slD (v1 inlO (xCall 1 F_law_no_net (rV (vC (.int 13)) rNil)))))) (bOr (bNot (bV (v1 slD (v1 inlO (xCall 1 F_law_no_net (rV (v2 fSub (v1 fNeg (vC (.int 1))) (vVar 2)) rNil)))))) (bNot (bV (v1 slD (v1 inlO (xCall 1 F_law_no_net (rV (v2 fAdd (vC (.int 13)) (vVar 2)) rNil))))))))) (seqT (retV (vC (.bl false))) skipT) skipT) (seqT (asgO 3 (v1 inlO (newF (vVar 1)))) (seqT (asgO 4 (oLst aNil)) (seqT (ifT (bAnd (bV (v2 fEq (v2 fMod (v2 fDiv (v1 slD (v1 inlO (xCall 2 F_law_cell_at (rV (vVar 0) (rV (vC (.int 0)) rNil))))) (vC (.int 12))) (vC (.int 4))) (vC (.int 1)))) (bV (v2 fGt (vVar 1) (vC (.int 1))))) (seqT (forT (lRng1 (vC (.int 57))) (gN 5) (seqT (nmT none 3 G_lay 3 (rV (vC (.int 0)) (rV (vC (.int 1)) rNil))) (seqT (appT 4 (vTup (aCons (vC (.int 0)) (aCons (vC (.int 1)) (aCons (vC (.bl true)) aNil))))) skipT))) skipT) skipT) (seqT (forT (v1 dL (v1 slD (vCut cutS' (vVar 0) (pI (vC (.int 2))) pN))) (gN 6) (seqT (asgV 7 (v2 fSub (v2 fMod (vVar 6) (v2 fAdd (vVar 1) (vC (.int 2)))) (vC (.int 1)))) (seqT (asgV 8 (v2 fSub (v2 fMod (v2 fDiv (vVar 6) (vC (.int 16))) (v2 fAdd (vVar 1) (vC (.int 2)))) (vC (.int 1)))) (seqT (ifT (bV (v2 fEq (v2 fMod (v2 fDiv (vVar 6) (vC (.int 256))) (vC (.int 7))) (vC (.int 1)))) (seqT (asgV 8 (v2 fIx (v1 slD (oLst (aCons (v2 fAdd (vVar 1) (v2 fMod (v2 fDiv (vVar 6) (vC (.int 2000))) (vC (.int 900)))) (aCons (v2 fSub (v1 fNeg (vC (.int 1))) (v2 fMod (v2 fDiv (vVar 6) (vC (.int 2000))) (vC (.int 900)))) aNil)))) (v2 fMod (v2 fDiv (vVar 6) (vC (.int 1000))) (vC (.int 2))))) skipT) skipT) (seqT (asgV 9 (v1 slD (v1 inlO (xCall 4 F_law_due_k01 (rV (vVar 1) (rV (v1 fLenL (lVar 4)) (rV (vVar 7) (rV (vVar 8) rNil)))))))) (seqT (cmT (some 10) 3 G_law_laid (rS 3 (rV (vVar 7) (rV (vVar 8) rNil)))) (seqT (ifT (bOr (bV (v2 fNe (vVar 10) (vVar 9))) (bAnd (bV (v2 fEq (v2 fIx (vVar 9) (vC (.int 0))) (vC (.str "laid")))) (bNot (bV (v1 slD (v1 inlO (xCall 1 F_law_whole (rV (v2 fIx (vVar 10) (vC (.int 1))) rNil)))))))) (seqT (retV (vC (.bl false))) skipT) skipT) (seqT (ifT (bV (v2 fEq (v2 fIx (vVar 9) (vC (.int 0))) (vC (.str "laid")))) (seqT (appT 4 (vTup (aCons (vVar 7) (aCons (vVar 8) (aCons (vC (.bl true)) aNil))))) skipT) skipT) (seqT (asgO 11 (v1 inlO (xMeth 1 F_pipes 3 rNil))) (seqT (ifT (bFrz (bNot (bV (v1 slD (v1 inlO (xCall 2 F_law_same_pipes (rV (vVar 11) (rV (vVar 4) rNil)))))))) (seqT (retV (vC (.bl false))) skipT) skipT) (seqT (appT 11 (vTup (aCons (vC (.int 0)) (aCons (vC (.int 0)) (aCons (vC (.bl true)) aNil))))) skipT))))))))))) (seqT (asgV 12 (v1 slD (v1 inlO (xMeth 1 F_size 3 rNil)))) (seqT (retV (vFrz (vAnd (v1 slD (v1 inlO (xCall 1 F_law_whole (rV (vVar 12) rNil)))) (vAnd (v2 fEq (vVar 12) (vVar 1)) (v1 slD (v1 inlO (xCall 2 F_law_same_pipes (rV (v1 slD (v1 inlO (xMeth 1 F_pipes 3 rNil))) (rV (vVar 4) rNil))))))))) skipT)))))))))
theorem F_law_laidE {n : Nat} {ps ps' : List P3} {a b : Int} {d : D} (h1 : laidD (n : Int) (dPs ps) a b = d) (h2 : laidL (n : Int) (dPs ps) a b = dPs ps') : G_law_laid [.net .mut (n : Int) (dPs ps), .val (.int a), .val (.int b)] = some (.inl (.val d), [.net .mut (n : Int) (dPs ps'), .val (.int a), .val (.int b)]) := by
  unfold G_law_laid
  simp only [h1, h2]
theorem v_law_k01 : ∀ ss r, ss.length = 1 → F_law_k01 ss = some r → t_law_k01 (postP r) (En0 ss 13) ∧ ∃ s, r = .inl s := by
  intro ss r hl h
  unfold F_law_k01 at h
  split at h
  · rename_i ns
    have h1 := Option.some.inj h
    clear h
    subst h1
    refine ⟨?_, _, rfl⟩
    have a1 : 0 ≤ cellAt ns 0 % 12 := Int.emod_nonneg _ (by omega)
    have a2 : cellAt ns 0 % 12 < 12 := Int.emod_lt_of_pos _ (by omega)
    obtain ⟨n, hn0, n1, n12⟩ : ∃ n : Nat, (n : Int) = 1 + cellAt ns 0 % 12 ∧ 1 ≤ n ∧ n ≤ 12 := ⟨(1 + cellAt ns 0 % 12).toNat, by omega, by omega, by omega⟩
    refine ⟨.int (n : Int), v2e rfl (v2e (cellE (k := 0) rfl) rfl (fMod_pos (by omega))) (by rw [hn0]; rfl), ?_⟩
    have f1 : 0 ≤ cellAt ns 1 % 1000 := Int.emod_nonneg _ (by omega)
    obtain ⟨far, hfar⟩ := Int.eq_ofNat_of_zero_le f1
    refine ⟨.int (far : Int), v2e (cellE (k := 1) rfl) rfl (by rw [fMod_pos (by omega), hfar]), ?_⟩
    refine if_f (dec_f (p := (¬ True) ∨ ((¬ True) ∨ ((¬ True) ∨ ¬ True))) (by simp) (bOr_d (bNot_d (bVe (v1e (v1e (xc rfl ⟨rfl, rfl⟩ rfl (F_noNet (by omega))) rfl) rfl))) fun _ => bOr_d (bNot_d (bVe (v1e (v1e (xc rfl ⟨rfl, rfl⟩ rfl (F_noNet (by omega))) rfl) rfl))) fun _ => bOr_d (bNot_d (bVe (v1e (v1e (xc (rVe (v2e (x := .int (-1)) (y := .int (far : Int)) (z := .int (-1 - (far : Int))) rfl rfl rfl) rfl) ⟨rfl, rfl⟩ rfl (F_noNet (by omega))) rfl) rfl))) fun _ => bNot_d (bVe (v1e (v1e (xc (rVe (v2e (x := .int 13) (y := .int (far : Int)) (z := .int (13 + (far : Int))) rfl rfl rfl) rfl) ⟨rfl, rfl⟩ rfl (F_noNet (by omega))) rfl) rfl)))) ?_
    refine ⟨.net .loc (n : Int) [], v1e (x := .inl (.net .loc (n : Int) [])) ?_ rfl, ?_⟩
    · show some (if 1 ≤ (n : Int) ∧ (n : Int) ≤ 12 then _ else _) = _
      rw [if_pos (by omega)]
    refine ⟨_, rfl, ?_⟩
    refine if_join (fun Γ' => ∃ (ps : List P3) (v5 : Option Sl), ps.length ≤ 60 ∧ Γ' = [some (.val (.scr ns)), some (.val (.int (n : Int))), some (.val (.int (far : Int))), some (.net .loc (n : Int) (dPs ps)), some (.own .loc (dPs ps)), v5, none, none, none, none, none, none, none])
      (p := cellAt ns 0 / 12 % 4 = 1 ∧ 1 < (n : Int)) (bAnd_d (bVe (v2e (v2e (v2e (cellE (k := 0) rfl) rfl (fDiv_pos (by omega) (by omega))) rfl (fMod_pos (by omega))) rfl rfl)) fun _ => bVe (v2e (x := .int (n : Int)) rfl rfl rfl)) (fun c Q hq => ?_) (fun c Q hq => ?_) ?_
    · refine ⟨_, rng1e (i := 57) rfl (by omega), ?_⟩
      refine loopT_inv (enc := dInt) (fun rest Γ => ∃ (ps : List P3) (v5 : Option Sl), ps.length + rest.length ≤ 57 ∧ Γ = [some (.val (.scr ns)), some (.val (.int (n : Int))), some (.val (.int (far : Int))), some (.net .loc (n : Int) (dPs ps)), some (.own .loc (dPs ps)), v5, none, none, none, none, none, none, none]) ?_ ?_ _ _ ⟨[], none, by simp, rfl⟩
      · rintro k rest Γ kk ⟨ps, v5, hlen, rfl⟩ hk
        refine ⟨_, rfl, ?_⟩
        simp only [List.length_cons] at hlen
        refine ⟨rfl, _, _, _, _, rfl, ⟨rfl, rfl⟩, rfl, lay_ok (size := n) (a := 0) (b := 1) (by omega) (by omega) (by omega) (by omega), ?_⟩
        refine ⟨(by intro z; cases z), dP (0, 1, true), rfl, by rw [dPs_len]; omega, ?_⟩
        refine hk _ ⟨ps ++ [(0, 1, true)], some (.val (dInt k)), by rw [List.length_append]; simp; omega, ?_⟩
        show [_, _, _, _, some (Sl.own .loc (dPs ps ++ [dP (0, 1, true)])), _, _, _, _, _, _, _, _] = _
        rw [dPs_snoc]
        rfl
      · rintro Γ ⟨ps, v5, hlen, rfl⟩
        exact hq _ ⟨ps, v5, by simp at hlen; omega, rfl⟩
    · exact hq _ ⟨[], none, by simp, rfl⟩
    rintro Γ ⟨ps, v5, hlen, rfl⟩
    refine ⟨(cutD ns (some 2) none).map .int, rfl, ?_⟩
    refine loopT_inv (enc := D.int) (fun rest Γ => ∃ (ps : List P3) (v5 v6 v7 v8 v9 v10 v11 : Option Sl), ps.length ≤ 60 ∧ Γ = [some (.val (.scr ns)), some (.val (.int (n : Int))), some (.val (.int (far : Int))), some (.net .loc (n : Int) (dPs ps)), some (.own .loc (dPs ps)), v5, v6, v7, v8, v9, v10, v11, none]) ?_ ?_ _ _ ⟨ps, v5, none, none, none, none, none, none, hlen, rfl⟩
    · rintro c rest Γ kk ⟨ps, v5, v6, v7, v8, v9, v10, v11, hlen, rfl⟩ hk
      refine ⟨_, rfl, ?_⟩
      have hpos : 0 < (n : Int) + 2 := by omega
      obtain ⟨a, ha⟩ : ∃ a : Int, a = c % ((n : Int) + 2) - 1 := ⟨_, rfl⟩
      refine ⟨.int a, v2e (v2e (y := .int ((n : Int) + 2)) rfl rfl (fMod_pos hpos)) rfl (by rw [ha]; rfl), ?_⟩
      refine ⟨.int (c / 16 % ((n : Int) + 2) - 1), v2e (v2e (y := .int ((n : Int) + 2)) (v2e rfl rfl (fDiv_pos (by omega) (by omega))) rfl (fMod_pos hpos)) rfl rfl, ?_⟩
      refine if_join (fun Γ' => ∃ b : Int, Γ' = [some (.val (.scr ns)), some (.val (.int (n : Int))), some (.val (.int (far : Int))), some (.net .loc (n : Int) (dPs ps)), some (.own .loc (dPs ps)), v5, some (.val (.int c)), some (.val (.int a)), some (.val (.int b)), v9, v10, v11, none])
        (p := c / 256 % 7 = 1) (bVe (v2e (v2e (v2e rfl rfl (fDiv_pos (by omega) (by omega))) rfl (fMod_pos (by omega))) rfl rfl)) (fun c2 Q hq => ?_) (fun c2 Q hq => hq _ ⟨_, rfl⟩) ?_
      · have i1 : 0 ≤ c / 1000 % 2 := Int.emod_nonneg _ (by omega)
        have i2' : c / 1000 % 2 < 2 := Int.emod_lt_of_pos _ (by omega)
        obtain ⟨k, hk2⟩ := Int.eq_ofNat_of_zero_le i1
        obtain ⟨b, hb⟩ : ∃ b : Int, [D.int ((n : Int) + c / 2000 % 900), .int (-1 - c / 2000 % 900)][k]? = some (.int b) := by
          have : k = 0 ∨ k = 1 := by omega
          rcases this with rfl | rfl
          · exact ⟨_, rfl⟩
          · exact ⟨_, rfl⟩
        have e9 : v2 fMod (v2 fDiv (vVar 6) (vC (.int 2000))) (vC (.int 900)) [some (Sl.val (.scr ns)), some (.val (.int (n : Int))), some (.val (.int (far : Int))), some (.net .loc (n : Int) (dPs ps)), some (.own .loc (dPs ps)), v5, some (.val (.int c)), some (.val (.int a)), some (.val (.int (c / 16 % ((n : Int) + 2) - 1))), v9, v10, v11, none] = some (.int (c / 2000 % 900)) :=
          v2e (v2e rfl rfl (fDiv_pos (by omega) (by omega))) rfl (fMod_pos (by omega))
        refine ⟨.int b, v2e (x := .lst [D.int ((n : Int) + c / 2000 % 900), .int (-1 - c / 2000 % 900)]) (y := .int (k : Int)) (v1e (x := .own .loc [D.int ((n : Int) + c / 2000 % 900), .int (-1 - c / 2000 % 900)]) ?_ rfl) (v2e (v2e rfl rfl (fDiv_pos (by omega) (by omega))) rfl (by rw [fMod_pos (by omega), hk2])) (show fIx (.lst [D.int ((n : Int) + c / 2000 % 900), .int (-1 - c / 2000 % 900)]) (.int (k : Int)) = some (.int b) from atI_nat hb), hq _ ⟨b, rfl⟩⟩
        unfold oLst
        rw [show (aCons (v2 fAdd (vVar 1) (v2 fMod (v2 fDiv (vVar 6) (vC (.int 2000))) (vC (.int 900)))) (aCons (v2 fSub (v1 fNeg (vC (.int 1))) (v2 fMod (v2 fDiv (vVar 6) (vC (.int 2000))) (vC (.int 900)))) aNil)) _ = some [D.int ((n : Int) + c / 2000 % 900), .int (-1 - c / 2000 % 900)] from by
          unfold aCons
          exact Option.bind_eq_some_iff.mpr ⟨_, v2e (x := .int (n : Int)) rfl e9 rfl, Option.bind_eq_some_iff.mpr ⟨_, Option.bind_eq_some_iff.mpr ⟨_, v2e (x := .int (-1)) rfl e9 rfl, rfl⟩, rfl⟩⟩]
        rfl
      rintro Γ ⟨b, rfl⟩
      have hdue : dueD (n : Int) (ps.length : Int) a b = laidD (n : Int) (dPs ps) a b := by rw [laid_due, dPs_len]
      refine ⟨laidD (n : Int) (dPs ps) a b, v1e (v1e (xc (rVe rfl (rVe (lenPs rfl) (rVe rfl (rVe rfl rfl)))) ⟨rfl, rfl⟩ rfl (show F_law_due_k01 [.val (.int (n : Int)), .val (.int (ps.length : Int)), .val (.int a), .val (.int b)] = some (.inl (.val (laidD (n : Int) (dPs ps) a b))) by rw [← hdue]; rfl)) rfl) rfl, ?_⟩
      rcases laid_cases n ps a b with ⟨a', b', rfl, rfl, h60, eD, eL⟩ | ⟨x, eD, eL⟩
      · rw [eD]
        refine ⟨_, _, _, _, rfl, ⟨rfl, rfl⟩, rfl, F_law_laidE eD eL, ?_⟩
        refine if_f (dec_f (p := False ∨ (True ∧ ¬ True)) (by simp) (bOr_d (bVe (v2e rfl rfl (fNe_refl (okD_laid _)))) fun _ => bAnd_d (bVe (v2e (x := .str "laid") rfl rfl fEq_ll)) fun _ => bNot_d (bVe (v1e (v1e (xc rfl ⟨rfl, rfl⟩ rfl rfl) rfl) rfl)))) ?_
        refine if_t (bVe (v2e (x := .str "laid") rfl rfl fEq_ll)) ?_
        refine ⟨(by intro z; cases z), dP (a', b', true), rfl, by rw [dPs_len]; omega, ?_⟩
        refine ⟨.own .loc (dPs (ps ++ [(a', b', true)])), v1e (xm rfl (xc rfl ⟨rfl, rfl⟩ rfl rfl)) rfl, ?_⟩
        refine if_f (dec_f (p := ¬ True) (by simp) (bNot_d (bVe (v1e (v1e (xc (ss := [.val (.lst (dPs (ps ++ [(a', b', true)]))), .val (.lst (dPs (ps ++ [(a', b', true)])))]) rfl ⟨rfl, rfl⟩ (by rw [dPs_snoc]; rfl) (F_same (by rw [List.length_append]; simp; omega))) rfl) rfl)))) ?_
        refine ⟨(by intro z; cases z), dP (0, 0, true), rfl, by rw [dPs_len, List.length_append]; simp; omega, ?_⟩
        refine hk _ ⟨ps ++ [(a', b', true)], v5, some (.val (.int c)), some (.val (.int (a' : Int))), some (.val (.int (b' : Int))), some (.val (.tup [.str "laid", .int (ps.length : Int)])), some (.val (.tup [.str "laid", .int (ps.length : Int)])), some (.own .loc (dPs (ps ++ [(a', b', true)]) ++ [dP (0, 0, true)])), by rw [List.length_append]; simp; omega, ?_⟩
        rw [dPs_snoc]
        cases v5 <;> rfl
      · rw [eD]
        refine ⟨_, _, _, _, rfl, ⟨rfl, rfl⟩, rfl, F_law_laidE eD eL, ?_⟩
        refine if_f (dec_f (p := False ∨ (False ∧ True)) (by simp) (bOr_d (bVe (v2e rfl rfl (fNe_refl (okD_ref _)))) fun _ => bAnd_d (bVe (v2e (x := .str "refused") rfl rfl fEq_rl)) fun z => z.elim)) ?_
        refine if_f (bVe (v2e (x := .str "refused") rfl rfl fEq_rl)) ?_
        refine ⟨.own .loc (dPs ps), v1e (xm rfl (xc rfl ⟨rfl, rfl⟩ rfl rfl)) rfl, ?_⟩
        refine if_f (dec_f (p := ¬ True) (by simp) (bNot_d (bVe (v1e (v1e (xc rfl ⟨rfl, rfl⟩ rfl (F_same (ps := ps) (by omega))) rfl) rfl)))) ?_
        refine ⟨(by intro z; cases z), dP (0, 0, true), rfl, by rw [dPs_len]; omega, ?_⟩
        refine hk _ ⟨ps, v5, some (.val (.int c)), some (.val (.int a)), some (.val (.int b)), some (.val (.tup [.str "refused", .str (nameX x)])), some (.val (.tup [.str "refused", .str (nameX x)])), some (.own .loc (dPs ps ++ [dP (0, 0, true)])), hlen, ?_⟩
        cases v5 <;> rfl
    · rintro Γ ⟨ps, v5, v6, v7, v8, v9, v10, v11, hlen, rfl⟩
      refine ⟨.int (n : Int), v1e (v1e (xm rfl (xc rfl ⟨rfl, rfl⟩ rfl rfl)) rfl) rfl, ?_⟩
      refine ⟨.bl true, vFrzE (vAnd_t (v1e (v1e (xc rfl ⟨rfl, rfl⟩ rfl rfl) rfl) rfl) (vAnd_t (v2e (x := dInt n) (y := dInt n) rfl rfl (fEq_dn n)) (v1e (v1e (xc (rVe (v1e (v1e (xm rfl (xc rfl ⟨rfl, rfl⟩ rfl rfl)) rfl) rfl) (rVe rfl rfl)) ⟨rfl, rfl⟩ rfl (F_same (ps := ps) (by omega))) rfl) rfl))) rfl, rfl⟩
  · cases h
end Z

set_option maxRecDepth 100000
namespace Z
open PySem PySem.Spec PyProof.Rows L2
section
variable {X : Cx} {g : Glo} {W : WX} {st : Stmt} {m m' : Str} {G G' : FM} {i j n : Nat} {fs fs' : VA}
/-! ### x = net.a(..) if t else net.b(..) -/
theorem s_nmIf {t : VB} (nf : noFld m) (nf' : noFld m') (h : PS X st (tAsg (tIf (eT g t) (tMethE g.C m (spM g n G) (WE W) (tVar i) (eAr g fs)) (tMethE g.C m' (spM g n G') (WE W) (tVar i) (eAr g fs'))) (gName j))) :
    PS X st (sV g W (ifT t (nmT (some j) n G i fs) (nmT (some j) n G' i fs'))) := PS_mono h fun De σ H ⟨c, Q, Γ, Hb, ow, ⟨b, e1, q1, q2⟩, S, F, L⟩ =>
  ⟨Γ, Hb, ow, b, e1, S, fun Hb1 H1 g1 => by
    cases b with
    | true => exact iteT (nm_read (dst := some j) (De := De) nf (q1 rfl) (S.grow g1) (F.grow g1) L fun v H' z => z)
    | false => exact iteF (nm_read (dst := some j) (De := De) nf' (q2 rfl) (S.grow g1) (F.grow g1) L fun v H' z => z)⟩
/-! ### if f(net, ..) != v: .. -/
def ifMT (n : Nat) (F : FM) (fs : VA) (fv : VF) (T U : VT) : VT := fun Q Γ => ∃ as ss d ss', fs Γ = some as ∧ (ndA as = true ∧ as.length = n) ∧ amSls Γ as = some ss ∧ F ss = some (.inl (.val d), ss') ∧
  ∃ d2, fv (putA Γ as ss') = some d2 ∧ ∃ b, fNe d d2 = some (.bl b) ∧ (b = true → T Q (putA Γ as ss')) ∧ (b = false → U Q (putA Γ as ss'))
theorem s_ifM {fv : VF} {T U : VT} (h : PS X st (tIfS (tTest (tOp (rNe2 g.K) (tCallS (spM g n G) (WE W) (eAr g fs)) (eV g fv))) (sV g W T) (sV g W U))) : PS X st (sV g W (ifMT n G fs fv T U)) :=
  PS_mono h fun De σ H ⟨c, Q, Γ, Hb, ow, ⟨as, ss, d, ss', h1, h2, h3, h4, d2, e2, b, e3, q1, q2⟩, S, Fm, L⟩ => by
  refine ⟨Γ, Hb, ow, as, h1, S, fun vs Hb1 H1 g1 a1 => ?_⟩
  refine ⟨by rw [arsOk_len a1]; exact h2.2, ss, .inl (.val d), ss', Hb1, owA ow as, h4, by rw [amSls_len h3]; exact h2.2, amSls_mut h3, (S.grow g1).margs h3 a1 h2.1, ?_⟩
  intro v Hb2 H2 ch S2 rr
  have SA := (S.grow g1).after ch S2 a1
  have FA := (Fm.grow g1).after (ss' := ss') ch h3
  have rr : Rep g.K Hb2 v d := rr
  refine ⟨putA Γ as ss', Hb2, ow, d2, e2, SA, fun u Hb3 H3 g3 rd => ?_⟩
  refine d_ne d d2 (.bl b) v u H H2 Hb3 H3 _ e3 g3.same (Rep.same g3.hb rr) rd fun v' Hb4 H4 g4 q4 => ⟨b, rep_bl.mp q4, ?_⟩
  have gg := g3.trans g4
  cases b with
  | true => exact iteT ⟨c, Q, _, Hb4, ow, q1 rfl, SA.grow gg, FA.grow gg, L⟩
  | false => exact iteF ⟨c, Q, _, Hb4, ow, q2 rfl, SA.grow gg, FA.grow gg, L⟩
end
end Z

set_option maxRecDepth 100000
namespace Z
open PySem PySem.Spec PyProof.Rows L2

/-! ### the second law -/
def turnedR (s : Int) (ds : List D) (more : List Sl) : Option (List D) → Rs × List Sl
  | none => (.inl (.val (.str "pipe")), .net .mut s ds :: more)
  | some ds' => (.inl (.val (.str "done")), .net .mut s ds' :: more)
def G_law_turned : FM
  | [.net .mut s ds, .val (.bl o), .val (.int p)] => (turnPs ds p o).map (turnedR s ds [.val (.bl o), .val (.int p)])
  | _ => none
/-- _law_turned: 0 net 1 opened 2 pipe 3 found 4 marks 5 e -/
def t_law_turned : VT := (seqT (asgV 3 (vC .non)) (seqT (asgO 4 (oLst aNil)) (seqT (tryMT (ctL [.much, .place, .pipe, .same, .net]) 5 4 [.ve, (.own .place), (.own .pipe), (.own .same), (.own .much), (.own .net)] (seqT (ifT (bV (vVar 1)) (nmT (some 3) 2 G_reopen 0 (rV (vVar 2) rNil)) (nmT (some 3) 2 G_shut 0 (rV (vVar 2) rNil))) skipT)) (seqT (ifT (bFrz (bV (v2 fEq (vVar 4) (v1 slD (oLst aNil))))) (seqT (retV (vIf (bV (v2 fIsN (vVar 3) (vC .non))) (vC (.str "done")) (vC (.str "other")))) skipT) skipT) (seqT (retV (vFrz (v1 slD (v1 inlO (xCall 1 F_law_marks_of (rV (vVar 4) rNil)))))) skipT)))))
theorem v_law_turned : ∀ ss r ss', ss.length = 3 → G_law_turned ss = some (r, ss') → t_law_turned (postM r ss ss') (En0 ss 6) := by
  intro ss r ss' hl h
  unfold G_law_turned at h
  split at h
  · rename_i s ds o p
    obtain ⟨q, e, e2⟩ := Option.map_eq_some_iff.mp h
    clear h
    refine ⟨_, rfl, ?_⟩
    refine ⟨_, rfl, ?_⟩
    have key : ∀ (Q : Out → Prop), (∀ r' ss'', turnR s ds [.val (.int p)] q = (r', ss'') → rsT Q (putA [some (.net .mut s ds), some (.val (.bl o)), some (.val (.int p)), some (.val .non), some (.own .loc []), none] [.s 0, .v (.int p)] ss'') (fun sl => Q (.nx (dstT (some 3) sl (putA [some (.net .mut s ds), some (.val (.bl o)), some (.val (.int p)), some (.val .non), some (.own .loc []), none] [.s 0, .v (.int p)] ss'')))) r') →
        (ifT (bV (vVar 1)) (nmT (some 3) 2 G_reopen 0 (rV (vVar 2) rNil)) (nmT (some 3) 2 G_shut 0 (rV (vVar 2) rNil))) Q [some (.net .mut s ds), some (.val (.bl o)), some (.val (.int p)), some (.val .non), some (.own .loc []), none] := fun Q hq => by
      refine ⟨o, rfl, fun b => ?_, fun b => ?_⟩
      · subst b
        refine ⟨rfl, _, _, _, _, rfl, ⟨rfl, rfl⟩, rfl, ?_, hq _ _ rfl⟩
        show (turnPs ds p true).map _ = _
        rw [e]
        rfl
      · subst b
        refine ⟨rfl, _, _, _, _, rfl, ⟨rfl, rfl⟩, rfl, ?_, hq _ _ rfl⟩
        show (turnPs ds p false).map _ = _
        rw [e]
        rfl
    refine key _ fun r' ss'' er => ?_
    cases q with
    | none =>
      cases er
      cases e2
      refine ⟨rfl, rfl, by show 4 < 6; omega, ?_⟩
      refine if_f (bVe (v2e (x := .lst (marksX .pipe)) rfl rfl (marks_ne .pipe (mem_ex _)))) ?_
      exact ⟨.str "pipe", vFrzE (v1e (v1e (xc rfl ⟨rfl, rfl⟩ rfl (F_marks .pipe)) rfl) rfl) rfl, rfl, .inl ⟨rfl, rfl⟩, .inr ⟨rfl, rfl⟩, .inr ⟨rfl, rfl⟩, trivial⟩
    | some ds' =>
      cases er
      cases e2
      refine if_t (bVe (v2e (x := .lst []) rfl rfl rfl)) ?_
      exact ⟨.str "done", rfl, rfl, .inl ⟨rfl, rfl⟩, .inr ⟨rfl, rfl⟩, .inr ⟨rfl, rfl⟩, trivial⟩
  · cases h
theorem vChainE {Γ : En} {f h j : VF} {a b c : Int} (h1 : f Γ = some (.int a)) (h2 : h Γ = some (.int b)) (h3 : j Γ = some (.int c)) : vChain fLe fLt f h j Γ = some (.bl (decide (a ≤ b ∧ b < c))) := by
  unfold vChain
  rw [h1, Option.bind_some, h2, Option.bind_some]
  show (some (D.bl (decide (a ≤ b)))).bind _ = _
  rw [Option.bind_some]
  by_cases c1 : a ≤ b
  · rw [decide_eq_true c1]
    show (j Γ).bind _ = _
    rw [h3, Option.bind_some]
    show some (D.bl (decide (b < c))) = _
    simp [c1]
  · rw [decide_eq_false c1]
    simp [c1]
theorem fNe_str (z : Str) : fNe (.str z) (.str z) = some (.bl false) := by
  show some (D.bl (!decide (z = z))) = _
  simp
def F_law_k02 : FN
  | [.val (.scr _)] => some (.inl (.val (.bl true)))
  | _ => none
theorem F_law_k02_t (ns : List Int) (_ : ns.length ≤ 63) : F_law_k02 [.val (.scr ns)] = some (.inl (.val (.bl true))) := rfl
/-- law: 0 script 1 size 2 pipes 3 net 4 other 5 due 6 cell 7 opened 8 pipe 9 there -/
def t_law_k02 : VT := (seqT (asgV 1 (v2 fAdd (vC (.int 2)) (v2 fMod (v1 slD (v1 inlO (xCall 2 F_law_cell_at (rV (vVar 0) (rV (vC (.int 0)) rNil))))) (vC (.int 6))))) (seqT (asgV 2 (v1 slD (v1 inlO (xCall 4 F_law_pipes_by (rV (vVar 0) (rV (vC (.int 2)) (rV (v2 fMod (v1 slD (v1 inlO (xCall 2 F_law_cell_at (rV (vVar 0) (rV (vC (.int 1)) rNil))))) (vC (.int 10))) (rV (vVar 1) rNil)))))))) (seqT (asgO 3 (v1 inlO (xCall 2 F_law_net_by (rV (vVar 1) (rS 2 rNil))))) (seqT (asgO 4 (v1 inlO (xCall 2 F_law_net_by (rV (vVar 1) (rS 2 rNil))))) (seqT (asgO 5 (v1 fList (lVar 2))) (seqT (forT (v1 dL (v1 slD (vCut cutS' (vVar 0) (pI (vC (.int 11))) pN))) (gN 6) (seqT (asgV 7 (v2 fEq (v2 fMod (vVar 6) (vC (.int 2))) (vC (.int 1)))) (seqT (asgV 8 (v2 fSub (v2 fMod (v2 fDiv (vVar 6) (vC (.int 2))) (v2 fAdd (v1 fLenL (lVar 2)) (vC (.int 2)))) (vC (.int 1)))) (seqT (ifT (bV (v2 fEq (v2 fMod (v2 fDiv (vVar 6) (vC (.int 5))) (vC (.int 7))) (vC (.int 1)))) (seqT (asgV 8 (v2 fIx (v1 slD (oLst (aCons (v2 fAdd (v1 fLenL (lVar 2)) (v2 fMod (v2 fDiv (vVar 6) (vC (.int 70))) (vC (.int 900)))) (aCons (v2 fSub (v1 fNeg (vC (.int 1))) (v2 fMod (v2 fDiv (vVar 6) (vC (.int 70))) (vC (.int 900)))) aNil)))) (v2 fMod (v2 fDiv (vVar 6) (vC (.int 35))) (vC (.int 2))))) skipT) skipT) (seqT (asgV 9 (vChain fLe fLt (vC (.int 0)) (vVar 8) (v1 fLenL (lVar 2)))) (seqT (ifMT 3 G_law_turned (rS 3 (rV (vVar 7) (rV (vVar 8) rNil))) (v2 fIx (v1 slD (oLst (aCons (vC (.str "pipe")) (aCons (vC (.str "done")) aNil)))) (v1 fIntB (vVar 9))) (seqT (retV (vC (.bl false))) skipT) skipT) (seqT (ifT (bV (vVar 9)) (seqT (setT 5 (vVar 8) (vTup (aCons (v2 fIx (v2 fIxL (lVar 5) (vVar 8)) (vC (.int 0))) (aCons (v2 fIx (v2 fIxL (lVar 5) (vVar 8)) (vC (.int 1))) (aCons (vVar 7) aNil))))) skipT) skipT) (seqT (ifT (bFrz (bNot (bV (v1 slD (v1 inlO (xCall 2 F_law_same_pipes (rV (v1 slD (v1 inlO (xMeth 1 F_pipes 3 rNil))) (rV (vVar 5) rNil)))))))) (seqT (retV (vC (.bl false))) skipT) skipT) skipT)))))))) (seqT (retV (v1 slD (v1 inlO (xCall 2 F_law_same_pipes (rV (v1 slD (v1 inlO (xMeth 1 F_pipes 4 rNil))) (rV (vVar 2) rNil)))))) skipT)))))))
theorem v_law_k02 : ∀ ss r, ss.length = 1 → F_law_k02 ss = some r → t_law_k02 (postP r) (En0 ss 10) ∧ ∃ s, r = .inl s := by
  intro ss r hl h
  unfold F_law_k02 at h
  split at h
  · rename_i ns
    have h1 := Option.some.inj h
    clear h
    subst h1
    refine ⟨?_, _, rfl⟩
    have a1 : 0 ≤ cellAt ns 0 % 6 := Int.emod_nonneg _ (by omega)
    have a2 : cellAt ns 0 % 6 < 6 := Int.emod_lt_of_pos _ (by omega)
    obtain ⟨n, hn0, n1, n12⟩ : ∃ n : Nat, (n : Int) = 2 + cellAt ns 0 % 6 ∧ 2 ≤ n ∧ n ≤ 7 := ⟨(2 + cellAt ns 0 % 6).toNat, by omega, by omega, by omega⟩
    refine ⟨.int (n : Int), v2e rfl (v2e (cellE (k := 0) rfl) rfl (fMod_pos (by omega))) (by rw [hn0]; rfl), ?_⟩
    have m1 : 0 ≤ cellAt ns 1 % 10 := Int.emod_nonneg _ (by omega)
    have m2 : cellAt ns 1 % 10 < 10 := Int.emod_lt_of_pos _ (by omega)
    obtain ⟨m, hm⟩ := Int.eq_ofNat_of_zero_le m1
    have hn := okNet_by (ns := ns) (first := 2) (many := m) (n := n) (by omega) (by omega) (by omega)
    refine ⟨.lst (dPs (pipesBy ns 2 m n)), v1e (v1e (xc (rVe rfl (rVe rfl (rVe (v2e (z := .int (m : Int)) (cellE (k := 1) rfl) rfl (by rw [fMod_pos (by omega), hm])) (rVe rfl rfl)))) ⟨rfl, rfl⟩ rfl (F_pipesBy (f := 2) (m := m) (s := n) (by omega) (by omega))) rfl) rfl, ?_⟩
    generalize pipesBy ns 2 m n = ps at hn
    have hpl := hn.2.2.2
    refine ⟨.net .loc (n : Int) (dPs ps), v1e (xc rfl ⟨rfl, rfl⟩ rfl (F_netBy rfl hn)) rfl, ?_⟩
    refine ⟨.net .loc (n : Int) (dPs ps), v1e (xc rfl ⟨rfl, rfl⟩ rfl (F_netBy rfl hn)) rfl, ?_⟩
    refine ⟨.own .loc (dPs ps), rfl, ?_⟩
    refine ⟨(cutD ns (some 11) none).map .int, rfl, ?_⟩
    refine loopT_inv (enc := D.int) (fun rest Γ => ∃ (qs : List P3) (v6 v7 v8 v9 : Option Sl), qs.length = ps.length ∧ Γ = [some (.val (.scr ns)), some (.val (.int (n : Int))), some (.val (.lst (dPs ps))), some (.net .loc (n : Int) (dPs qs)), some (.net .loc (n : Int) (dPs ps)), some (.own .loc (dPs qs)), v6, v7, v8, v9]) ?_ ?_ _ _ ⟨ps, none, none, none, none, rfl, rfl⟩
    · rintro c rest Γ kk ⟨qs, v6, v7, v8, v9, hlen, rfl⟩ hk
      refine ⟨_, rfl, ?_⟩
      have hpos : 0 < (ps.length : Int) + 2 := by omega
      refine ⟨.bl (decide (c % 2 = 1)), v2e (v2e rfl rfl (fMod_pos (by omega))) rfl rfl, ?_⟩
      generalize decide (c % 2 = 1) = o
      refine ⟨.int (c / 2 % ((ps.length : Int) + 2) - 1), v2e (v2e (y := .int ((ps.length : Int) + 2)) (v2e rfl rfl (fDiv_pos (by omega) (by omega))) (v2e (lenPs rfl) rfl rfl) (fMod_pos hpos)) rfl rfl, ?_⟩
      refine if_join (fun Γ' => ∃ p : Int, Γ' = [some (.val (.scr ns)), some (.val (.int (n : Int))), some (.val (.lst (dPs ps))), some (.net .loc (n : Int) (dPs qs)), some (.net .loc (n : Int) (dPs ps)), some (.own .loc (dPs qs)), some (.val (.int c)), some (.val (.bl o)), some (.val (.int p)), v9])
        (p := c / 5 % 7 = 1) (bVe (v2e (v2e (v2e rfl rfl (fDiv_pos (by omega) (by omega))) rfl (fMod_pos (by omega))) rfl rfl)) (fun c2 Q hq => ?_) (fun c2 Q hq => hq _ ⟨_, rfl⟩) ?_
      · have i1 : 0 ≤ c / 35 % 2 := Int.emod_nonneg _ (by omega)
        have i2' : c / 35 % 2 < 2 := Int.emod_lt_of_pos _ (by omega)
        obtain ⟨k, hk2⟩ := Int.eq_ofNat_of_zero_le i1
        obtain ⟨b, hb⟩ : ∃ b : Int, [D.int ((ps.length : Int) + c / 70 % 900), .int (-1 - c / 70 % 900)][k]? = some (.int b) := by
          have : k = 0 ∨ k = 1 := by omega
          rcases this with rfl | rfl
          · exact ⟨_, rfl⟩
          · exact ⟨_, rfl⟩
        have e9 : v2 fMod (v2 fDiv (vVar 6) (vC (.int 70))) (vC (.int 900)) [some (Sl.val (.scr ns)), some (.val (.int (n : Int))), some (.val (.lst (dPs ps))), some (.net .loc (n : Int) (dPs qs)), some (.net .loc (n : Int) (dPs ps)), some (.own .loc (dPs qs)), some (.val (.int c)), some (.val (.bl o)), some (.val (.int (c / 2 % ((ps.length : Int) + 2) - 1))), v9] = some (.int (c / 70 % 900)) :=
          v2e (v2e rfl rfl (fDiv_pos (by omega) (by omega))) rfl (fMod_pos (by omega))
        refine ⟨.int b, v2e (x := .lst [D.int ((ps.length : Int) + c / 70 % 900), .int (-1 - c / 70 % 900)]) (y := .int (k : Int)) (v1e (x := .own .loc [D.int ((ps.length : Int) + c / 70 % 900), .int (-1 - c / 70 % 900)]) ?_ rfl) (v2e (v2e rfl rfl (fDiv_pos (by omega) (by omega))) rfl (by rw [fMod_pos (by omega), hk2])) (show fIx (.lst [D.int ((ps.length : Int) + c / 70 % 900), .int (-1 - c / 70 % 900)]) (.int (k : Int)) = some (.int b) from atI_nat hb), hq _ ⟨b, rfl⟩⟩
        unfold oLst
        rw [show (aCons (v2 fAdd (v1 fLenL (lVar 2)) (v2 fMod (v2 fDiv (vVar 6) (vC (.int 70))) (vC (.int 900)))) (aCons (v2 fSub (v1 fNeg (vC (.int 1))) (v2 fMod (v2 fDiv (vVar 6) (vC (.int 70))) (vC (.int 900)))) aNil)) _ = some [D.int ((ps.length : Int) + c / 70 % 900), .int (-1 - c / 70 % 900)] from by
          unfold aCons
          exact Option.bind_eq_some_iff.mpr ⟨_, v2e (x := .int (ps.length : Int)) (lenPs rfl) e9 rfl, Option.bind_eq_some_iff.mpr ⟨_, Option.bind_eq_some_iff.mpr ⟨_, v2e (x := .int (-1)) rfl e9 rfl, rfl⟩, rfl⟩⟩]
        rfl
      rintro Γ ⟨p, rfl⟩
      refine ⟨.bl (decide (0 ≤ p ∧ p < (ps.length : Int))), vChainE rfl rfl (lenPs rfl), ?_⟩
      by_cases cth : 0 ≤ p ∧ p < (ps.length : Int)
      · rw [decide_eq_true cth]
        obtain ⟨k, rfl⟩ := Int.eq_ofNat_of_zero_le cth.1
        have hkl : k < qs.length := by omega
        have hG : G_law_turned [.net .mut (n : Int) (dPs qs), .val (.bl o), .val (.int (k : Int))] = some (.inl (.val (.str "done")), [.net .mut (n : Int) (dPs (turnAt qs k o)), .val (.bl o), .val (.int (k : Int))]) := by
          show (turnPs (dPs qs) (k : Int) o).map _ = _
          rw [turnPs_ok (pAt_some hkl)]
          rfl
        refine ⟨_, _, _, _, rfl, ⟨rfl, rfl⟩, rfl, hG, .str "done", v2e (x := .lst [.str "pipe", .str "done"]) (y := .int 1) rfl rfl rfl, false, fNe_str "done", fun z => (nomatch z), fun _ => ?_⟩
        refine if_t rfl ?_
        refine ⟨(by intro z; cases z), dP ((pAt qs k).1, (pAt qs k).2.1, o), (k : Int), k, ?_, rfl, ixN_nat (by rw [dPs_len]; exact hkl), ?_⟩
        · have e5 : v2 fIxL (lVar 5) (vVar 8) (putA [some (Sl.val (.scr ns)), some (.val (.int (n : Int))), some (.val (.lst (dPs ps))), some (.net .loc (n : Int) (dPs qs)), some (.net .loc (n : Int) (dPs ps)), some (.own .loc (dPs qs)), some (.val (.int c)), some (.val (.bl o)), some (.val (.int (k : Int))), some (.val (.bl true))] [.s 3, .v (.bl o), .v (.int (k : Int))] [.net .mut (n : Int) (dPs (turnAt qs k o)), .val (.bl o), .val (.int (k : Int))]) = some (dP (pAt qs k)) := v2e (x := dPs qs) rfl rfl (atI_dPs hkl)
          unfold vTup
          rw [show (aCons (v2 fIx (v2 fIxL (lVar 5) (vVar 8)) (vC (.int 0))) (aCons (v2 fIx (v2 fIxL (lVar 5) (vVar 8)) (vC (.int 1))) (aCons (vVar 7) aNil))) _ = some [dInt (pAt qs k).1, dInt (pAt qs k).2.1, .bl o] from by
            unfold aCons
            exact Option.bind_eq_some_iff.mpr ⟨_, ixP0 e5, Option.bind_eq_some_iff.mpr ⟨_, Option.bind_eq_some_iff.mpr ⟨_, ixP1 e5, Option.bind_eq_some_iff.mpr ⟨_, Option.bind_eq_some_iff.mpr ⟨_, rfl, rfl⟩, rfl⟩⟩, rfl⟩⟩]
          rfl
        have es : (dPs qs).set k (dP ((pAt qs k).1, (pAt qs k).2.1, o)) = dPs (turnAt qs k o) := by
          unfold dPs turnAt
          rw [List.map_set]
        rw [es]
        refine if_f (dec_f (p := ¬ True) (by simp) (bNot_d (bVe (v1e (v1e (xc (rVe (v1e (v1e (xm rfl (xc rfl ⟨rfl, rfl⟩ rfl rfl)) rfl) rfl) (rVe rfl rfl)) ⟨rfl, rfl⟩ rfl (F_same (ps := turnAt qs k o) (by rw [turnAt_len]; omega))) rfl) rfl)))) ?_
        exact hk _ ⟨turnAt qs k o, some (.val (.int c)), some (.val (.bl o)), some (.val (.int (k : Int))), some (.val (.bl true)), by rw [turnAt_len]; exact hlen, rfl⟩
      · rw [decide_eq_false cth]
        have hG : G_law_turned [.net .mut (n : Int) (dPs qs), .val (.bl o), .val (.int p)] = some (.inl (.val (.str "pipe")), [.net .mut (n : Int) (dPs qs), .val (.bl o), .val (.int p)]) := by
          show (turnPs (dPs qs) p o).map _ = _
          rw [turnPs_no (by rw [dPs_len]; omega)]
          rfl
        refine ⟨_, _, _, _, rfl, ⟨rfl, rfl⟩, rfl, hG, .str "pipe", v2e (x := .lst [.str "pipe", .str "done"]) (y := .int 0) rfl rfl rfl, false, fNe_str "pipe", fun z => (nomatch z), fun _ => ?_⟩
        refine if_f rfl ?_
        refine if_f (dec_f (p := ¬ True) (by simp) (bNot_d (bVe (v1e (v1e (xc (rVe (v1e (v1e (xm rfl (xc rfl ⟨rfl, rfl⟩ rfl rfl)) rfl) rfl) (rVe rfl rfl)) ⟨rfl, rfl⟩ rfl (F_same (ps := qs) (by omega))) rfl) rfl)))) ?_
        exact hk _ ⟨qs, some (.val (.int c)), some (.val (.bl o)), some (.val (.int p)), some (.val (.bl false)), hlen, rfl⟩
    · rintro Γ ⟨qs, v6, v7, v8, v9, hlen, rfl⟩
      exact ⟨.bl true, v1e (v1e (xc (rVe (v1e (v1e (xm rfl (xc rfl ⟨rfl, rfl⟩ rfl rfl)) rfl) rfl) (rVe rfl rfl)) ⟨rfl, rfl⟩ rfl (F_same (ps := ps) (by omega))) rfl) rfl, rfl⟩
  · cases h
end Z

set_option maxRecDepth 100000
namespace Z
open PySem PySem.Spec PyProof.Rows L2
section
variable {X : Cx} {g : Glo} {W : WX} {c e : Expr} {st : Stmt} {tg it : Expr}
/-! ### texts -/
def fAddS : D → D → Option D
  | .str i, .str j => if decide (i.length + j.length ≤ 1000000) = true then some (.str (i ++ j)) else none
  | _, _ => none
theorem d_addS : Op2 g (fun x y H Q => ∃ i j, x = .str i ∧ y = .str j ∧ i.length + j.length ≤ sizeLine ∧ Q (.str (i ++ j)) H) rD rD rD fAddS := op2_of fun x y d v u H0 H1 Hb H Q e s q q' k => by
  unfold fAddS at e
  split at e
  · split at e
    · rename_i h
      cases e
      exact ⟨_, _, rep_str.mp q, rep_str.mp q', le_line (of_decide_eq_true h), k _ (rep_str.mpr rfl)⟩
    · cases e
  · cases e
def strI (i : Int) : Str := (toString i : String)
def fStrI : D → Option D
  | .int i => if decide (i.natAbs.log2 < 1920) = true then some (.str (strI i)) else none
  | _ => none
theorem d_strI : Op1 g (C1 fun xs H Q => ∃ i, xs = [.int i] ∧ i.natAbs.log2 < 1920 ∧ Q (.str (toString i)) H) rD rD fStrI := op1_of fun x d v H0 Hb H Q e s q k => by
  unfold fStrI at e
  split at e
  · split at e
    · rename_i h
      cases e
      exact ⟨_, by rw [rep_int.mp q], of_decide_eq_true h, k _ (rep_str.mpr rfl)⟩
    · cases e
  · cases e
def fIntS : D → Option D
  | .str a => if decide (a.length ≤ 640) = true then (PySem.intText? a).map .int else none
  | _ => none
theorem d_intS : Op1 g (C1 fun xs H Q => ∃ a n, xs = [.str a] ∧ PySem.intText? a = some n ∧ a.length ≤ 640 ∧ Q (.int n) H) rD rD fIntS := op1_of fun x d v H0 Hb H Q e s q k => by
  unfold fIntS at e
  split at e
  · split at e
    · rename_i h
      obtain ⟨n, e1, rfl⟩ := Option.map_eq_some_iff.mp e
      exact ⟨_, n, by rw [rep_str.mp q], e1, of_decide_eq_true h, k _ (rep_int.mpr rfl)⟩
    · cases e
  · cases e
def toSs : List D → Option (List Str)
  | [] => some []
  | .str z :: ds => (toSs ds).map (z :: ·)
  | _ :: _ => none
theorem toSs_rep {K : PySem.W.Frag} {H : Hp} : ∀ {ds : List D} {ys : List Str} {vs : List V}, toSs ds = some ys → Reps K H vs ds → vs = ys.map V.str
  | [], _, vs, e, r => by cases e; exact reps_nil.mp r
  | d :: ds, _, vs, e, r => by
    obtain ⟨v, us, rfl, h1, h2⟩ := reps_cons.mp r
    unfold toSs at e
    split at e
    · cases e; rename_i h; cases h
    · rename_i z ds' h
      cases h
      obtain ⟨ys, e1, rfl⟩ := Option.map_eq_some_iff.mp e
      rw [rep_str.mp h1, toSs_rep e1 h2]
      rfl
    · cases e
def fJoin : D → List D → Option D
  | .str a, ds => (toSs ds).bind fun ys => if decide ((ys.map (·.length)).sum + ys.length * a.length ≤ 16777216) = true then some (.str (Txt.join a ys)) else none
  | _, _ => none
theorem ev_join {f : VF} {h' : VL} {K : PySem.W.Frag} (hK : K = g.K) (h : PE X c (tM1 (fun x xs H Q => ∃ a p, ∃ ys : List Str, x = .str a ∧ xs = [.ref p] ∧ (SqL K H p (ys.map V.str) ∨ SqT K H p (ys.map V.str)) ∧ (ys.map (·.length)).sum + ys.length * a.length ≤ 16777216 ∧ Q (.str (Txt.join a ys)) H) (eV g f) (eL g h'))) :
    PE X c (eV g (v2 fJoin f h')) := PE_mono h fun σ H Q ⟨Γ, Hb, ow, d, ef, S, k⟩ => by
  obtain ⟨x, e1, e2⟩ := Option.bind_eq_some_iff.mp ef
  obtain ⟨ds, e3, e4⟩ := Option.bind_eq_some_iff.mp e2
  unfold fJoin at e4
  split at e4
  · obtain ⟨ys, e5, e6⟩ := Option.bind_eq_some_iff.mp e4
    split at e6
    · rename_i hh
      cases e6
      refine ⟨Γ, Hb, ow, _, e1, S, fun v Hb1 H1 g1 q1 => ⟨⟨_, rep_str.mp q1⟩, Γ, Hb1, ow, ds, e3, S.grow g1, fun u Hb2 H2 g2 q2 => ?_⟩⟩
      obtain ⟨a, vs, rfl, h1, h2⟩ := q2
      have ev := toSs_rep e5 h2
      subst ev
      exact ⟨_, a, ys, rep_str.mp q1, rfl, .inl (SqL.of h1), of_decide_eq_true hh, k _ Hb2 H2 (g1.trans g2) (rep_str.mpr rfl)⟩
    · cases e6
  · cases e4
def fSplit : D → D → Option Sl
  | .str a, .str b => if (!(b.length == 0) && decide (a.length ≤ 900000)) = true then some (.own .loc ((Txt.split a b).map .str)) else none
  | _, _ => none
theorem reps_strs {K : PySem.W.Frag} {H : Hp} : ∀ ys : List Str, Reps K H (ys.map V.str) (ys.map D.str)
  | [] => Reps.nil
  | y :: ys => Reps.cons (rep_str.mpr rfl) (reps_strs ys)
theorem eo_split {f h' : VF} (h : PE X c (tM1 (fun x xs H Q => ∃ a b, x = .str a ∧ xs = [.str b] ∧ (b.length == 0) = false ∧ a.length + 2 ≤ sizeLine ∧ rNewStrs (Txt.split a b) H Q) (eV g f) (eV g h'))) : PE X c (eO g (v2 fSplit f h')) := PE_mono h fun σ H Q ⟨Γ, Hb, ow, d, ef, S, k⟩ => by
  obtain ⟨x, e1, e2⟩ := Option.bind_eq_some_iff.mp ef
  obtain ⟨y, e3, e4⟩ := Option.bind_eq_some_iff.mp e2
  unfold fSplit at e4
  split at e4
  · split at e4
    · rename_i a b hh
      cases e4
      rw [Bool.and_eq_true] at hh
      refine ⟨Γ, Hb, ow, _, e1, S, fun v Hb1 H1 g1 q1 => ⟨⟨_, rep_str.mp q1⟩, Γ, Hb1, ow, _, e3, S.grow g1, fun u Hb2 H2 g2 q2 => ?_⟩⟩
      refine ⟨a, b, rep_str.mp q1, by rw [rep_str.mp q2], by simpa using hh.1, le_line (by have := of_decide_eq_true hh.2; omega), fun p hp => ?_⟩
      exact k _ Hb2 _ ((g1.trans g2).trans (Grow.own g2.same hp)) ⟨p, _, rfl, (g1.h.trans g2.h).free hp, g2.same.free hp, upd_same, reps_strs _⟩
    · cases e4
  · cases e4
def fInS (neg : Bool) : D → D → Option D
  | .str s, .str z => match s.cps.toList with
    | [c] => some (.bl (if neg = true then !decide (c ∈ z.cps.toList) else decide (c ∈ z.cps.toList)))
    | _ => none
  | _, _ => none
theorem d_notInS : Op2 g (fun x y H Q => ∃ (c : Nat) (z : Str), x = .str ⟨#[c]⟩ ∧ y = .str z ∧ Q (.bl (!decide (c ∈ z.cps.toList))) H) rD rD rD (fInS true) := op2_of fun x y d v u H0 H1 Hb H Q e s q q' k => by
  unfold fInS at e
  split at e
  · rename_i s z
    split at e
    · rename_i c hc
      cases e
      obtain ⟨⟨l⟩⟩ := s
      have hc : l = [c] := hc
      subst hc
      exact ⟨c, z, rep_str.mp q, rep_str.mp q', k _ (rep_bl.mpr rfl)⟩
    · cases e
  · cases e
/-- the signs of a text -/
def lStr (f : VF) : VL := fun Γ => (f Γ).bind fun d => match d with
  | .str z => some (z.cps.toList.map fun c => .str ⟨#[c]⟩)
  | _ => none
theorem str_wk (z : Str) : WkOk g (Its z) (z.cps.toList.map fun c => D.str ⟨#[c]⟩) (fun _ _ => True) := by
  intro i Hb H sm _
  refine ⟨fun d ed => ?_, fun ed => ?_⟩
  · rw [List.getElem?_map] at ed
    obtain ⟨c, e1, rfl⟩ := Option.map_eq_some_iff.mp ed
    have e2 : z.cps[i]? = some c := by rw [← Array.getElem?_toList]; exact e1
    refine ⟨(Array.getElem?_eq_some_iff.mp e2).1, fun x H' y => ?_⟩
    obtain ⟨rfl, c', e3, rfl⟩ := y
    rw [e2] at e3
    cases e3
    exact ⟨Hb, Grow.refl sm, rep_str.mpr rfl⟩
  · have := List.getElem?_eq_none_iff.mp ed
    rw [List.length_map, Array.length_toList] at this
    exact this
theorem ei_str {f : VF} (h : PI X tg it (iStr (eV g f))) : PI X tg it (eI g KpS (lStr f)) := PI_mono h fun σ H Q ⟨Γ, Hb, ow, ds, ef, S, k⟩ => by
  obtain ⟨d, e1, ef⟩ := Option.bind_eq_some_iff.mp ef
  split at ef
  · rename_i z
    cases ef
    exact ⟨Γ, Hb, ow, _, e1, S, fun v Hb1 H1 g1 q1 => ⟨z, rep_str.mp q1, k _ Hb1 H1 _ g1 (str_wk z) trivial fun _ _ _ _ _ _ => trivial⟩⟩
  · cases ef
/-! ### what is never come to -/
def neverT : VT := fun _ _ => False
theorem s_never : PS X st (sV g W neverT) := ⟨fun pins s σ H D I ⟨_, _, _, _, _, t, _⟩ => t.elim⟩
def tryNQ (Q : Out → Prop) : Out → Prop
  | .ex _ _ => False
  | o => Q o
def tryNT (Tb : VT) : VT := fun Q Γ => Tb (tryNQ Q) Γ
/-- try .. except x: .., nothing being raised -/
theorem s_tryN {x : Str} {C : Addr} {Tb : VT} {body suite : List Stmt} {b₀ : Stmt} {np pos pos' : Pos} (hC : X.mg x = some (.ref C)) (hg : Gl X x) (hs : X.stack = X.env :: X.outer) (hf : X.env.frame = some X.env.locals) (tk : Takes X W)
    (hb : ∀ (W' : WX) (pn : List (Addr × Obj)) (xe : Value → Shared → Prop), Takes (X.tr pn xe) W' → PassesOwn (model X.prog X.w) X.A X.env xe → PSs (X.tr pn xe) body (sV g W' Tb)) (hdb : (x == ("__debug__" : Str)) = false := by decide) :
    PS X (.Try body [.ExceptHandler (some (.Name x np)) none (b₀ :: suite) pos'] [] [] pos) (sV g W (tryNT Tb)) :=
  PS_mono (ps_try_only (c := .ref C) (ts := fun _ _ _ _ _ _ => False) hs hf ⟨hg, hdb, .inl hC⟩ tk hb fun a oe cls d pn _ _ => ⟨fun pins s σ H D I h => h.elim⟩) fun De σ H ⟨c, Q, Γ, Hb, ow, t, S, F, L⟩ =>
    ⟨c, tryNQ Q, Γ, Hb, ow, t, S, F, ⟨L.nx, L.bk, L.ct, L.rt, fun xx Γ1 σ1 Hb1 H1 ow1 q S1 F1 => q.elim⟩⟩
end
end Z

set_option maxRecDepth 100000
namespace Z
open PySem PySem.Spec PyProof.Rows L2 TL

/-! ### texts of nets -/
def sN (k : Nat) : Str := strI (k : Int)
def wd (o : Bool) : Str := if o = true then "pipe" else "shut"
theorem len_app (a b : Str) : (a ++ b).length = a.length + b.length := by rw [len_tl, tl_append, List.length_append, ← len_tl, ← len_tl]
theorem sN_facts : ∀ k ∈ List.range 13, (sN k).length ≤ 2 ∧ 10 ∉ tl (sN k) ∧ 32 ∉ tl (sN k) ∧ (k : Int).natAbs.log2 < 1920 := by decide +kernel
theorem wd_facts : ∀ o ∈ [true, false], (wd o).length = 4 ∧ 10 ∉ tl (wd o) ∧ 32 ∉ tl (wd o) := by decide +kernel
theorem mem_b (o : Bool) : o ∈ [true, false] := by cases o <;> simp
theorem lit_facts : tl ("\n" : Str) = [10] ∧ tl (" " : Str) = [32] ∧ tl ("" : Str) = [] ∧ (("\n" : Str).cps.all (· < 256)) = true ∧ ((" " : Str).cps.all (· < 256)) = true ∧ ("\n" : Str).length = 1 ∧ (" " : Str).length = 1 ∧ ("places" : Str).length = 6 ∧ ("places " : Str).length = 7 ∧ 10 ∉ tl ("places" : Str) ∧ 32 ∉ tl ("places" : Str) ∧ tl ("places " : Str) = tl ("places" : Str) ++ [32] := by decide +kernel
def decN (z : Str) : Option Nat := (List.range 13).find? fun k => decide (sN k = z)
theorem decN_all : ∀ k ∈ List.range 13, decN (sN k) = some k := by decide +kernel
theorem decN_some {z : Str} {k : Nat} (h : decN z = some k) : z = sN k ∧ k < 13 := by
  unfold decN at h
  have h1 := List.find?_some h
  have h2 := List.mem_of_find?_eq_some h
  exact ⟨(of_decide_eq_true h1).symm, List.mem_range.mp h2⟩
def decW (w : Str) : Option Bool := if w = "pipe" then some true else if w = "shut" then some false else none
theorem decW_all : ∀ o ∈ [true, false], decW (wd o) = some o := by decide +kernel
theorem decW_some {w : Str} {o : Bool} (h : decW w = some o) : w = wd o := by
  unfold decW at h
  split at h
  · cases h; assumption
  · split at h
    · cases h; assumption
    · cases h
def lineL (p : P3) : Str := wd p.2.2 ++ " " ++ sN p.1 ++ " " ++ sN p.2.1
def line0 (n : Nat) : Str := "places " ++ sN n
def lawText (n : Nat) (ps : List P3) : Str := ps.foldl (fun t p => t ++ wd p.2.2 ++ " " ++ sN p.1 ++ " " ++ sN p.2.1 ++ "\n") (line0 n ++ "\n")
def decL (z : Str) : Option P3 := match Txt.split z " " with
  | [w, a, b] => (decW w).bind fun o => (decN a).bind fun a => (decN b).map fun b => (a, b, o)
  | _ => none
theorem decL_some {z : Str} {p : P3} (h : decL z = some p) : Txt.split z " " = [wd p.2.2, sN p.1, sN p.2.1] ∧ p.1 < 13 ∧ p.2.1 < 13 := by
  unfold decL at h
  split at h
  · rename_i w a b e
    obtain ⟨o, e1, h⟩ := Option.bind_eq_some_iff.mp h
    obtain ⟨a', e2, h⟩ := Option.bind_eq_some_iff.mp h
    obtain ⟨b', e3, h⟩ := Option.map_eq_some_iff.mp h
    subst h
    obtain ⟨q1, q2⟩ := decN_some e2
    obtain ⟨q3, q4⟩ := decN_some e3
    exact ⟨by rw [e, decW_some e1, q1, q3], q2, q4⟩
  · cases h
theorem join3 (y a b c : Str) : Txt.join y [a, b, c] = a ++ y ++ b ++ y ++ c := by
  refine ext_tl ?_
  rw [join_eq, tl_join]
  simp only [tl_append, List.map_cons, List.map_nil, joinL, List.append_assoc]
theorem join2 (y a b : Str) : Txt.join y [a, b] = a ++ y ++ b := by
  refine ext_tl ?_
  rw [join_eq, tl_join]
  simp only [tl_append, List.map_cons, List.map_nil, joinL, List.append_assoc]
theorem split_line {p : P3} (h1 : p.1 < 13) (h2 : p.2.1 < 13) : Txt.split (lineL p) " " = [wd p.2.2, sN p.1, sN p.2.1] := by
  have e : lineL p = Txt.join " " [wd p.2.2, sN p.1, sN p.2.1] := by rw [join3]; rfl
  rw [e]
  refine split_join lit_facts.2.1 lit_facts.2.2.2.2.1 (by simp) fun q hq => ?_
  simp only [List.mem_cons, List.not_mem_nil, or_false] at hq
  rcases hq with rfl | rfl | rfl
  · exact (wd_facts _ (mem_b _)).2.2
  · exact (sN_facts _ (List.mem_range.mpr h1)).2.2.1
  · exact (sN_facts _ (List.mem_range.mpr h2)).2.2.1
theorem decL_line {p : P3} (h1 : p.1 < 13) (h2 : p.2.1 < 13) : decL (lineL p) = some p := by
  unfold decL
  rw [split_line h1 h2]
  simp only
  rw [decW_all _ (mem_b _), Option.bind_some, decN_all _ (List.mem_range.mpr h1), Option.bind_some, decN_all _ (List.mem_range.mpr h2)]
  rfl
theorem places_eq (n : Nat) : line0 n = Txt.join " " [("places" : Str), sN n] := by
  rw [join2]
  refine ext_tl ?_
  unfold line0
  rw [tl_append, tl_append, tl_append, lit_facts.2.2.2.2.2.2.2.2.2.2.2, lit_facts.2.1]
theorem split_line0 {n : Nat} (h : n < 13) : Txt.split (line0 n) " " = [("places" : Str), sN n] := by
  rw [places_eq]
  refine split_join lit_facts.2.1 lit_facts.2.2.2.2.1 (by simp) fun q hq => ?_
  simp only [List.mem_cons, List.not_mem_nil, or_false] at hq
  rcases hq with rfl | rfl
  · exact lit_facts.2.2.2.2.2.2.2.2.2.2.1
  · exact (sN_facts _ (List.mem_range.mpr h)).2.2.1
theorem tl_lineL (p : P3) : tl (lineL p) = tl (wd p.2.2) ++ ([32] ++ (tl (sN p.1) ++ ([32] ++ tl (sN p.2.1)))) := by
  unfold lineL
  simp only [tl_append, List.append_assoc]
  rw [lit_facts.2.1]
theorem tl_text (n : Nat) : ∀ (ps : List P3) (t : Str), tl (ps.foldl (fun t p => t ++ wd p.2.2 ++ " " ++ sN p.1 ++ " " ++ sN p.2.1 ++ "\n") t) = tl t ++ (ps.map fun p => tl (lineL p) ++ [10]).flatten
  | [], t => by simp
  | p :: ps, t => by
    rw [List.foldl_cons, tl_text n ps, List.map_cons, List.flatten_cons, tl_lineL]
    simp only [tl_append, List.append_assoc]
    rw [lit_facts.1, lit_facts.2.1]
theorem joinL_end : ∀ (ls : List (List Nat)) (l0 : List Nat), joinL [10] (l0 :: (ls ++ [[]])) = l0 ++ ([10] ++ (ls.map fun l => l ++ [10]).flatten)
  | [], l0 => by simp [joinL]
  | l :: ls, l0 => by
    show l0 ++ ([10] ++ joinL [10] (l :: (ls ++ [[]]))) = _
    rw [joinL_end ls l]
    simp
theorem text_join (n : Nat) (ps : List P3) : lawText n ps = Txt.join "\n" (line0 n :: (ps.map lineL ++ [("" : Str)])) := by
  refine ext_tl ?_
  unfold lawText
  rw [tl_text n, join_eq, tl_join, List.map_cons, List.map_append, lit_facts.1]
  have : (List.map tl [("" : Str)]) = [[]] := by rw [List.map_cons, List.map_nil, lit_facts.2.2.1]
  rw [this, joinL_end, tl_append, lit_facts.1, List.map_map, List.map_map]
  simp only [List.append_assoc]
  rfl
theorem split_text {n : Nat} {ps : List P3} (hn : n < 13) (hp : ∀ p ∈ ps, p.1 < 13 ∧ p.2.1 < 13) : Txt.split (lawText n ps) "\n" = line0 n :: (ps.map lineL ++ [("" : Str)]) := by
  rw [text_join]
  refine split_join lit_facts.1 lit_facts.2.2.2.1 (by simp) fun q hq => ?_
  rcases List.mem_cons.mp hq with rfl | hq
  · unfold line0
    rw [tl_append, lit_facts.2.2.2.2.2.2.2.2.2.2.2]
    have := (sN_facts _ (List.mem_range.mpr hn)).2.1
    have := lit_facts.2.2.2.2.2.2.2.2.2.1
    simp [*]
  · rcases List.mem_append.mp hq with hq | hq
    · obtain ⟨p, hpp, rfl⟩ := List.mem_map.mp hq
      rw [tl_lineL]
      have a1 := (wd_facts _ (mem_b p.2.2)).2.1
      have a2 := (sN_facts _ (List.mem_range.mpr (hp p hpp).1)).2.1
      have a3 := (sN_facts _ (List.mem_range.mpr (hp p hpp).2)).2.1
      simp [*]
    · simp at hq
      subst hq
      rw [lit_facts.2.2.1]
      simp
def dec0 (z : Str) : Option Nat := match Txt.split z " " with
  | [w, a] => if w = "places" then decN a else none
  | _ => none
theorem dec0_some {z : Str} {n : Nat} (h : dec0 z = some n) : Txt.split z " " = [("places" : Str), sN n] ∧ n < 13 := by
  unfold dec0 at h
  split at h
  · rename_i w a e
    split at h
    · rename_i hw
      obtain ⟨q1, q2⟩ := decN_some h
      exact ⟨by rw [e, hw, q1], q2⟩
    · cases h
  · cases h
theorem dec0_line {n : Nat} (h : n < 13) : dec0 (line0 n) = some n := by
  unfold dec0
  rw [split_line0 h]
  simp only [if_true]
  exact decN_all _ (List.mem_range.mpr h)
def decLs : List Str → Option (List P3)
  | [] => none
  | [z] => if z = "" then some [] else none
  | z :: w :: r => (decL z).bind fun p => (decLs (w :: r)).map (p :: ·)
theorem decLs_some : ∀ {zs : List Str} {ps : List P3}, decLs zs = some ps → ∃ qs : List (Str × P3), zs = qs.map (·.1) ++ [("" : Str)] ∧ ps = qs.map (·.2) ∧ ∀ q ∈ qs, decL q.1 = some q.2
  | [], _, h => by cases h
  | [z], _, h => by
    unfold decLs at h
    split at h
    · cases h
      rename_i e
      subst e
      exact ⟨[], rfl, rfl, fun q hq => (nomatch hq)⟩
    · cases h
  | z :: w :: r, _, h => by
    unfold decLs at h
    obtain ⟨p, e1, h⟩ := Option.bind_eq_some_iff.mp h
    obtain ⟨ps, e2, rfl⟩ := Option.map_eq_some_iff.mp h
    obtain ⟨qs, q1, q2, q3⟩ := decLs_some e2
    refine ⟨(z, p) :: qs, by rw [List.map_cons, List.cons_append, ← q1], by rw [List.map_cons, ← q2], fun q hq => ?_⟩
    rcases List.mem_cons.mp hq with rfl | hq
    · exact e1
    · exact q3 q hq
theorem decLs_lines : ∀ {ps : List P3}, (∀ p ∈ ps, p.1 < 13 ∧ p.2.1 < 13) → decLs (ps.map lineL ++ [("" : Str)]) = some ps
  | [], _ => by decide +kernel
  | [p], h => by
    show (decL (lineL p)).bind _ = _
    rw [decL_line (h p (by simp)).1 (h p (by simp)).2]
    show (decLs [("" : Str)]).map _ = _
    rw [show decLs [("" : Str)] = some [] by decide +kernel]
    rfl
  | p :: q :: ps, h => by
    show (decL (lineL p)).bind _ = _
    rw [decL_line (h p (by simp)).1 (h p (by simp)).2]
    show (decLs ((q :: ps).map lineL ++ [("" : Str)])).map _ = _
    rw [decLs_lines fun a ha => h a (List.mem_cons_of_mem _ ha)]
    rfl
def unText (z : Str) : Option (Nat × List P3) := match Txt.split z "\n" with
  | l0 :: rest => (dec0 l0).bind fun n => (decLs rest).map fun ps => (n, ps)
  | [] => none
theorem unText_text {n : Nat} {ps : List P3} (hn : n < 13) (hp : ∀ p ∈ ps, p.1 < 13 ∧ p.2.1 < 13) : unText (lawText n ps) = some (n, ps) := by
  unfold unText
  rw [split_text hn hp]
  simp only
  rw [dec0_line hn, Option.bind_some, decLs_lines hp]
  rfl
theorem text_len {n : Nat} {ps : List P3} (hn : n < 13) (hp : ∀ p ∈ ps, p.1 < 13 ∧ p.2.1 < 13) : (lawText n ps).length ≤ 10 + 11 * ps.length := by
  have key : ∀ (ps : List P3) (t : Str), (∀ p ∈ ps, p.1 < 13 ∧ p.2.1 < 13) → (ps.foldl (fun t p => t ++ wd p.2.2 ++ " " ++ sN p.1 ++ " " ++ sN p.2.1 ++ "\n") t).length ≤ t.length + 11 * ps.length := by
    intro ps
    induction ps with
    | nil => intro t _; simp
    | cons p ps ih =>
      intro t h
      rw [List.foldl_cons]
      refine Nat.le_trans (ih _ fun q hq => h q (List.mem_cons_of_mem _ hq)) ?_
      simp only [len_app, List.length_cons]
      have a1 := (wd_facts _ (mem_b p.2.2)).1
      have a2 := (sN_facts _ (List.mem_range.mpr (h p (by simp)).1)).1
      have a3 := (sN_facts _ (List.mem_range.mpr (h p (by simp)).2)).1
      have a4 := lit_facts.2.2.2.2.2.1
      have a5 := lit_facts.2.2.2.2.2.2.1
      omega
  refine Nat.le_trans (key ps _ hp) ?_
  rw [len_app]
  unfold line0
  rw [len_app]
  have a2 := (sN_facts _ (List.mem_range.mpr hn)).1
  have a4 := lit_facts.2.2.2.2.2.1
  have a5 := lit_facts.2.2.2.2.2.2.2.2.1
  omega
theorem line_len {p : P3} (h1 : p.1 < 13) (h2 : p.2.1 < 13) : (lineL p).length ≤ 10 := by
  unfold lineL
  simp only [len_app]
  have a1 := (wd_facts _ (mem_b p.2.2)).1
  have a2 := (sN_facts _ (List.mem_range.mpr h1)).1
  have a3 := (sN_facts _ (List.mem_range.mpr h2)).1
  have a5 := lit_facts.2.2.2.2.2.2.1
  omega
theorem addE {Γ : En} {f h : VF} {a b : Str} (h1 : f Γ = some (.str a)) (h2 : h Γ = some (.str b)) (hl : a.length + b.length ≤ 1000000) : v2 fAddS f h Γ = some (.str (a ++ b)) := v2e h1 h2 (if_pos (decide_eq_true hl))
theorem strE {Γ : En} {f : VF} {k : Nat} (h1 : f Γ = some (dInt k)) (hk : k < 13) : v1 fStrI f Γ = some (.str (sN k)) := v1e h1 (if_pos (decide_eq_true (sN_facts _ (List.mem_range.mpr hk)).2.2.2))
theorem okNet.p13 {n : Nat} {ps : List P3} (h : okNet n ps) : n < 13 ∧ ∀ p ∈ ps, p.1 < 13 ∧ p.2.1 < 13 := ⟨by have := h.2.1; omega, fun p hp => by
  have a := h.pip p hp
  have b := h.2.1
  exact ⟨by have := a.1; omega, by have := a.2.1; omega⟩⟩
/-! ### shown -/
noncomputable def F_law_text : FN
  | [.val (.int s), .val (.lst ds)] => (unNet s ds).map fun x => .inl (.val (.str (lawText x.1 x.2)))
  | _ => none
theorem F_lawText {n : Nat} {ps : List P3} (h : okNet n ps) : F_law_text [.val (.int (n : Int)), .val (.lst (dPs ps))] = some (.inl (.val (.str (lawText n ps)))) := by
  show (unNet _ _).map _ = _
  rw [unNet_of h]
  rfl
/-- _law_text: 0 size 1 pipes 2 text 3 start 4 goal 5 opened 6 word -/
def t_law_text : VT := (seqT (asgV 2 (v2 fAddS (v2 fAddS (vC (.str "places ")) (v1 fStrI (vVar 0))) (vC (.str "\n")))) (seqT (forT (v1 dL (vVar 1)) (gT [3, 4, 5]) (seqT (asgV 6 (vC (.str "shut"))) (seqT (ifT (bV (vVar 5)) (seqT (asgV 6 (vC (.str "pipe"))) skipT) skipT) (seqT (asgV 2 (v2 fAddS (v2 fAddS (v2 fAddS (v2 fAddS (v2 fAddS (v2 fAddS (vVar 2) (vVar 6)) (vC (.str " "))) (v1 fStrI (vVar 3))) (vC (.str " "))) (v1 fStrI (vVar 4))) (vC (.str "\n")))) skipT)))) (seqT (retV (vVar 2)) skipT)))
theorem v_law_text : ∀ ss r, ss.length = 2 → F_law_text ss = some r → t_law_text (postP r) (En0 ss 7) ∧ ∃ s, r = .inl s := by
  intro ss r hl h
  unfold F_law_text at h
  split at h
  · rename_i s ds
    obtain ⟨x, e1, e2⟩ := Option.map_eq_some_iff.mp h
    clear h
    subst e2
    obtain ⟨rfl, rfl, hn⟩ := unNet_some e1
    obtain ⟨n, ps⟩ := x
    clear e1
    simp only at hn ⊢
    obtain ⟨n13, p13⟩ := hn.p13
    have h60 := hn.2.2.2
    have l1 := (sN_facts _ (List.mem_range.mpr n13)).1
    have l2 := lit_facts.2.2.2.2.2.2.2.2.1
    have l3 := lit_facts.2.2.2.2.2.1
    have l4 := lit_facts.2.2.2.2.2.2.1
    refine ⟨?_, _, rfl⟩
    refine ⟨.str (line0 n ++ "\n"), addE (addE rfl (strE (k := n) rfl n13) (by omega)) rfl (by unfold line0; rw [len_app]; omega), ?_⟩
    refine ⟨dPs ps, rfl, ?_⟩
    refine loopT_inv (enc := dP) (fun rest Γ => ∃ (done : List P3) (v3 v4 v5 v6 : Option Sl), done ++ rest = ps ∧ Γ = [some (.val (.int (n : Int))), some (.val (.lst (dPs ps))), some (.val (.str (lawText n done))), v3, v4, v5, v6]) ?_ ?_ ps _ ⟨[], none, none, none, none, rfl, rfl⟩
    · rintro ⟨a, b, o⟩ rest Γ kk ⟨done, v3, v4, v5, v6, hd, rfl⟩ hk
      refine ⟨_, rfl, ?_⟩
      have hp : (a, b, o) ∈ ps := by rw [← hd]; simp
      have hdl : done.length ≤ 60 := by
        have := congrArg List.length hd
        rw [List.length_append] at this
        omega
      have ha := (p13 _ hp).1
      have hb := (p13 _ hp).2
      have hlen := text_len (n := n) (ps := done) n13 fun p q => p13 p (by rw [← hd]; exact List.mem_append_left _ q)
      have a1 := (wd_facts _ (mem_b o)).1
      have a2 := (sN_facts _ (List.mem_range.mpr ha)).1
      have a3 := (sN_facts _ (List.mem_range.mpr hb)).1
      simp only at ha hb a2 a3
      refine ⟨.str "shut", rfl, ?_⟩
      refine if_to (Γ' := [some (.val (.int (n : Int))), some (.val (.lst (dPs ps))), some (.val (.str (lawText n done))), some (.val (dInt a)), some (.val (dInt b)), some (.val (.bl o)), some (.val (.str (wd o)))]) (p := o = true) (by show some o = _; simp) (fun c Q hq => ?_) (fun c Q hq => ?_) ?_
      · subst c
        exact ⟨_, rfl, hq⟩
      · have c : o = false := by simpa using c
        subst c
        exact hq
      · refine ⟨.str (lawText n (done ++ [(a, b, o)])), ?_, ?_⟩
        · have e : lawText n (done ++ [(a, b, o)]) = lawText n done ++ wd o ++ " " ++ sN a ++ " " ++ sN b ++ "\n" := by
            unfold lawText
            rw [List.foldl_append]
            rfl
          rw [e]
          refine addE (addE (addE (addE (addE (addE rfl rfl ?_) rfl ?_) (strE (k := a) rfl ha) ?_) rfl ?_) (strE (k := b) rfl hb) ?_) rfl ?_ <;> (first | omega | (simp only [len_app]; omega) | (unfold lineL; simp only [len_app]; omega))
        · exact hk _ ⟨done ++ [(a, b, o)], _, _, _, _, by rw [← hd]; simp, rfl⟩
    · rintro Γ ⟨done, v3, v4, v5, v6, hd, rfl⟩
      rw [List.append_nil] at hd
      subst hd
      exact ⟨_, rfl, rfl⟩
  · cases h
noncomputable def F_shown : FN
  | [.net _ s ds] => (unNet s ds).map fun x => .inl (.val (.str (lawText x.1 x.2)))
  | _ => none
theorem F_shownE {m : Md} {n : Nat} {ps : List P3} (h : okNet n ps) : F_shown [.net m (n : Int) (dPs ps)] = some (.inl (.val (.str (lawText n ps)))) := by
  show (unNet _ _).map _ = _
  rw [unNet_of h]
  rfl
/-- shown: 0 net 1 lines 2 start 3 goal 4 opened 5 word -/
def t_shown : VT := (seqT (asgO 1 (oLst (aCons (v2 fAddS (v2 fAddS (vC (.str "places ")) (v1 fStrI (v1 slD (v1 inlO (xMeth 1 F_size 0 rNil))))) (vC (.str "\n"))) aNil))) (seqT (forT (v1 dL (v1 slD (v1 inlO (xMeth 1 F_pipes 0 rNil)))) (gT [2, 3, 4]) (seqT (asgV 5 (vIf (bV (vVar 4)) (vC (.str "pipe")) (vC (.str "shut")))) (seqT (appT 1 (v2 fAddS (v2 fAddS (v2 fAddS (v2 fAddS (v2 fAddS (vVar 5) (vC (.str " "))) (v1 fStrI (vVar 2))) (vC (.str " "))) (v1 fStrI (vVar 3))) (vC (.str "\n")))) skipT))) (seqT (retV (v2 fJoin (vC (.str "")) (lVar 1))) skipT)))
theorem toSs_map : ∀ ys : List Str, toSs (ys.map D.str) = some ys
  | [] => rfl
  | y :: ys => by
    show (toSs (ys.map D.str)).map _ = _
    rw [toSs_map ys]
    rfl
theorem joinL_nil : ∀ l : List (List Nat), joinL [] l = l.flatten
  | [] => rfl
  | [p] => by simp [joinL]
  | p :: q :: r => by
    show p ++ ([] ++ joinL [] (q :: r)) = _
    rw [joinL_nil (q :: r)]
    simp
theorem join_lines (n : Nat) (ps : List P3) : Txt.join "" ((line0 n ++ "\n") :: ps.map fun p => lineL p ++ "\n") = lawText n ps := by
  refine ext_tl ?_
  unfold lawText
  rw [tl_text n, join_eq, tl_join, lit_facts.2.2.1, joinL_nil, List.map_cons, List.flatten_cons, List.map_map]
  congr 2
  refine List.map_congr_left fun p _ => ?_
  show tl (lineL p ++ "\n") = _
  rw [tl_append, lit_facts.1]
theorem v_shown : ∀ ss r, ss.length = 1 → F_shown ss = some r → t_shown (postP r) (En0 ss 6) ∧ ∃ s, r = .inl s := by
  intro ss r hl h
  unfold F_shown at h
  split at h
  · rename_i m s ds
    obtain ⟨x, e1, e2⟩ := Option.map_eq_some_iff.mp h
    clear h
    subst e2
    obtain ⟨rfl, rfl, hn⟩ := unNet_some e1
    obtain ⟨n, ps⟩ := x
    clear e1
    simp only at hn ⊢
    obtain ⟨n13, p13⟩ := hn.p13
    have h60 := hn.2.2.2
    have l1 := (sN_facts _ (List.mem_range.mpr n13)).1
    have l2 := lit_facts.2.2.2.2.2.2.2.2.1
    have l3 := lit_facts.2.2.2.2.2.1
    have l4 := lit_facts.2.2.2.2.2.2.1
    refine ⟨?_, _, rfl⟩
    refine ⟨.own .loc [.str (line0 n ++ "\n")], ?_, ?_⟩
    · unfold oLst aCons
      rw [show v2 fAddS (v2 fAddS (vC (.str "places ")) (v1 fStrI (v1 slD (v1 inlO (xMeth 1 F_size 0 rNil))))) (vC (.str "\n")) _ = some (.str (line0 n ++ "\n")) from addE (addE rfl (strE (k := n) (v1e (v1e (xm rfl (xc rfl ⟨rfl, rfl⟩ rfl rfl)) rfl) rfl) n13) (by omega)) rfl (by unfold line0; rw [len_app]; omega)]
      rfl
    refine ⟨dPs ps, v1e (v1e (v1e (xm rfl (xc rfl ⟨rfl, rfl⟩ rfl rfl)) rfl) rfl) rfl, ?_⟩
    refine loopT_inv (enc := dP) (fun rest Γ => ∃ (done : List P3) (v2' v3 v4 v5 : Option Sl), done ++ rest = ps ∧ Γ = [some (.net m (n : Int) (dPs ps)), some (.own .loc (((line0 n ++ "\n") :: done.map fun p => lineL p ++ "\n").map D.str)), v2', v3, v4, v5]) ?_ ?_ ps _ ⟨[], none, none, none, none, rfl, rfl⟩
    · rintro ⟨a, b, o⟩ rest Γ kk ⟨done, v2', v3, v4, v5, hd, rfl⟩ hk
      refine ⟨_, rfl, ?_⟩
      have hp : (a, b, o) ∈ ps := by rw [← hd]; simp
      have hdl : done.length ≤ 60 := by
        have := congrArg List.length hd
        rw [List.length_append] at this
        omega
      have ha := (p13 _ hp).1
      have hb := (p13 _ hp).2
      have a1 := (wd_facts _ (mem_b o)).1
      have a2 := (sN_facts _ (List.mem_range.mpr ha)).1
      have a3 := (sN_facts _ (List.mem_range.mpr hb)).1
      simp only at ha hb a2 a3
      refine ⟨.str (wd o), ?_, ?_⟩
      · cases o <;> rfl
      · refine ⟨(by intro z; cases z), .str (lineL (a, b, o) ++ "\n"), ?_, by simp; omega, ?_⟩
        · refine addE (addE (addE (addE (addE rfl rfl ?_) (strE (k := a) rfl ha) ?_) rfl ?_) (strE (k := b) rfl hb) ?_) rfl ?_ <;> (first | omega | (simp only [len_app]; omega) | (unfold lineL; simp only [len_app]; omega))
        · refine hk _ ⟨done ++ [(a, b, o)], some (.val (dInt a)), some (.val (dInt b)), some (.val (.bl o)), some (.val (.str (wd o))), by rw [← hd]; simp, ?_⟩
          rw [List.map_append, ← List.cons_append, List.map_append]
          rfl
    · rintro Γ ⟨done, v2', v3, v4, v5, hd, rfl⟩
      rw [List.append_nil] at hd
      subst hd
      refine ⟨.str (lawText n done), v2e (x := .str "") (y := ((line0 n ++ "\n") :: done.map fun p => lineL p ++ "\n").map D.str) rfl rfl ?_, rfl⟩
      unfold fJoin
      simp only
      rw [toSs_map, Option.bind_some, join_lines, if_pos]
      refine decide_eq_true ?_
      have key : ∀ (l : List P3), (∀ p ∈ l, p.1 < 13 ∧ p.2.1 < 13) → ((l.map fun p => lineL p ++ "\n").map (·.length)).sum ≤ 11 * l.length := by
        intro l
        induction l with
        | nil => intro _; simp
        | cons p l ih =>
          intro h
          have := line_len (h p (by simp)).1 (h p (by simp)).2
          have := ih fun q hq => h q (List.mem_cons_of_mem _ hq)
          simp only [List.map_cons, List.sum_cons, len_app, List.length_cons]
          omega
      have k2 := key done p13
      have e0 : ("" : Str).length = 0 := by decide +kernel
      rw [e0, List.map_cons, List.sum_cons, len_app]
      unfold line0
      rw [len_app]
      omega
  · cases h
end Z

set_option maxRecDepth 100000
namespace Z
open PySem PySem.Spec PyProof.Rows L2 TL

/-! ### texts of nets read -/
def firstOk (z : Str) : Bool := match fIx (.str z) (.int 0) with
  | some (.str y) => !(decide (y = "0") && decide ((1 : Int) < z.length))
  | _ => false
theorem sN_more : ∀ k ∈ List.range 13, sN k ≠ ("" : Str) ∧ (sN k).cps.toList.all (fun c => decide (c ∈ ("0123456789" : Str).cps.toList)) = true ∧ firstOk (sN k) = true ∧ PySem.intText? (sN k) = some (k : Int) := by decide +kernel
theorem fLen_str {z : Str} (h : z.length ≤ 1000000) : fLen (.str z) = some (.int z.length) := if_pos (decide_eq_true h)
def F_number_of : FN
  | [.val (.str z)] => (decN z).map fun k : Nat => .inl (.val (.int (k : Int)))
  | _ => none
theorem F_numberOf {k : Nat} (h : k < 13) : F_number_of [.val (.str (sN k))] = some (.inl (.val (.int (k : Int)))) := by
  show (decN _).map _ = _
  rw [decN_all _ (List.mem_range.mpr h)]
  rfl
/-- number_of: 0 word 1 sign -/
def t_number_of : VT := (seqT (ifT (bOr (bV (v2 fEq (vVar 0) (vC (.str "")))) (bV (v2 fGt (v1 fLen (vVar 0)) (vC (.int 2))))) (seqT neverT skipT) skipT) (seqT (forT (lStr (vVar 0)) (gN 1) (seqT (ifT (bV (v2 (fInS true) (vVar 1) (vC (.str "0123456789")))) (seqT neverT skipT) skipT) skipT)) (seqT (ifT (bAnd (bV (v2 fEq (v2 fIx (vVar 0) (vC (.int 0))) (vC (.str "0")))) (bV (v2 fGt (v1 fLen (vVar 0)) (vC (.int 1))))) (seqT neverT skipT) skipT) (seqT (retV (v1 fIntS (vVar 0))) skipT))))
theorem v_number_of : ∀ ss r, ss.length = 1 → F_number_of ss = some r → t_number_of (postP r) (En0 ss 2) ∧ ∃ s, r = .inl s := by
  intro ss r hl h
  unfold F_number_of at h
  split at h
  · rename_i z
    obtain ⟨k, e1, rfl⟩ := Option.map_eq_some_iff.mp h
    clear h
    obtain ⟨rfl, hk⟩ := decN_some e1
    obtain ⟨f1, f2, f3, f4⟩ := sN_more _ (List.mem_range.mpr hk)
    have l1 := (sN_facts _ (List.mem_range.mpr hk)).1
    refine ⟨?_, _, rfl⟩
    refine if_f (dec_f (p := sN k = "" ∨ (2 : Int) < (sN k).length) (by intro z; rcases z with z | z; exact f1 z; omega) (bOr_d (bVe (v2e rfl rfl rfl)) fun _ => bVe (v2e (v1e rfl (fLen_str (by omega))) rfl rfl))) ?_
    refine ⟨(sN k).cps.toList.map fun c => .str ⟨#[c]⟩, rfl, ?_⟩
    refine loopT_inv (enc := fun c => .str ⟨#[c]⟩) (fun rest Γ => ∃ v1 : Option Sl, (∀ c ∈ rest, c ∈ (sN k).cps.toList) ∧ Γ = [some (.val (.str (sN k))), v1]) ?_ ?_ _ _ ⟨none, fun c h => h, rfl⟩
    · rintro c rest Γ kk ⟨v1, hr, rfl⟩ hk'
      refine ⟨_, rfl, ?_⟩
      have hc := of_decide_eq_true (List.all_eq_true.mp f2 c (hr c (by simp)))
      refine if_f (dec_f (p := ¬ (c ∈ ("0123456789" : Str).cps.toList)) (fun q => q hc) (bVe (v2e (x := .str ⟨#[c]⟩) (y := .str "0123456789") rfl rfl (by
        show some (D.bl (!decide (c ∈ ("0123456789" : Str).cps.toList))) = _
        simp)))) ?_
      exact hk' _ ⟨_, fun a ha => hr a (List.mem_cons_of_mem _ ha), rfl⟩
    · rintro Γ ⟨v1, _, rfl⟩
      obtain ⟨y, e2, e3⟩ : ∃ y, fIx (.str (sN k)) (.int 0) = some (.str y) ∧ ¬ (y = "0" ∧ (1 : Int) < (sN k).length) := by
        unfold firstOk at f3
        split at f3
        · rename_i y e
          refine ⟨y, e, fun q => ?_⟩
          rw [decide_eq_true q.1, decide_eq_true q.2] at f3
          cases f3
        · cases f3
      refine if_f (dec_f (p := y = "0" ∧ (1 : Int) < (sN k).length) e3 (bAnd_d (bVe (v2e (x := .str y) (y := .str "0") (v2e rfl rfl e2) rfl rfl)) fun _ => bVe (v2e (v1e rfl (fLen_str (by omega))) rfl rfl))) ?_
      refine ⟨.int (k : Int), v1e rfl ?_, rfl⟩
      show (if _ then _ else _) = _
      rw [if_pos (decide_eq_true (by omega)), f4]
      rfl
  · cases h
theorem fSplit_ok {z y : Str} (h : y.length ≠ 0) (hz : z.length ≤ 900000) : fSplit (.str z) (.str y) = some (.own .loc ((Txt.split z y).map .str)) := by
  refine if_pos ?_
  rw [decide_eq_true hz]
  simpa using h
def G_lay_line : FM
  | [.net .mut s ds, .val (.str z)] => (unNet s ds).bind fun x => (decL z).bind fun p => if okNet x.1 (x.2 ++ [p]) ∧ z.length ≤ 900000 then some (.inl (.val .non), [.net .mut s (dPs (x.2 ++ [p])), .val (.str z)]) else none
  | _ => none
theorem okNet.pre {n : Nat} {ps qs : List P3} (h : okNet n (ps ++ qs)) : okNet n ps := ⟨h.1, h.2.1, okPs_iff.mpr fun p hp => h.pip p (List.mem_append_left _ hp), by have := h.2.2.2; rw [List.length_append] at this; omega⟩
theorem G_layLine {n : Nat} {ps : List P3} {p : P3} {z : Str} (h : okNet n (ps ++ [p])) (e : decL z = some p) (hz : z.length ≤ 900000) : G_lay_line [.net .mut (n : Int) (dPs ps), .val (.str z)] = some (.inl (.val .non), [.net .mut (n : Int) (dPs (ps ++ [p])), .val (.str z)]) := by
  show (unNet _ _).bind _ = _
  rw [unNet_of h.pre, Option.bind_some, e, Option.bind_some]
  exact ite_some ⟨h, hz⟩
/-- lay_line: 0 net 1 line 2 words 3 numbers 4 pipe 5 word -/
def t_lay_line : VT := (seqT (asgV 2 (v1 slD (v2 fSplit (vVar 1) (vC (.str " "))))) (seqT (ifT (bOr (bV (v2 fNe (v1 fLenL (lVar 2)) (vC (.int 3)))) (bV (v2 (fInT true) (v2 fIx (vVar 2) (vC (.int 0))) (vTup (aCons (vC (.str "pipe")) (aCons (vC (.str "shut")) aNil)))))) (seqT neverT skipT) skipT) (seqT (asgV 3 (v1 slD (vLc [5] (v1 slL (vCut cutL (lVar 2) (pI (vC (.int 1))) pN)) (gN 5) bT (v1 slD (v1 inlO (xCall 1 F_number_of (rV (vVar 5) rNil))))))) (seqT (nmT (some 4) 3 G_lay 0 (rV (v2 fIx (vVar 3) (vC (.int 0))) (rV (v2 fIx (vVar 3) (vC (.int 1))) rNil))) (seqT (ifT (bV (v2 fEq (v2 fIx (vVar 2) (vC (.int 0))) (vC (.str "shut")))) (seqT (nmT none 2 G_shut 0 (rV (vVar 4) rNil)) skipT) skipT) skipT)))))
theorem v_lay_line : ∀ ss r ss', ss.length = 2 → G_lay_line ss = some (r, ss') → t_lay_line (postM r ss ss') (En0 ss 6) := by
  intro ss r ss' hl h
  unfold G_lay_line at h
  split at h
  · rename_i s ds z
    obtain ⟨x, e1, h1⟩ := Option.bind_eq_some_iff.mp h
    obtain ⟨p, e2, h2⟩ := Option.bind_eq_some_iff.mp h1
    clear h h1
    split at h2
    · rename_i hc
      have h3 := Option.some.inj h2
      clear h2
      obtain ⟨rfl, rfl, _⟩ := unNet_some e1
      obtain ⟨n, ps⟩ := x
      simp only at h3 hc ⊢
      cases h3
      obtain ⟨ok, hz⟩ := hc
      obtain ⟨es, _, _⟩ := decL_some e2
      have hp := ok.pip p (by simp)
      have h60 := ok.2.2.2
      rw [List.length_append] at h60
      have h60' : ps.length < 60 := by simp at h60; omega
      obtain ⟨n13, p13⟩ := ok.p13
      have p13 := p13 p (by simp)
      obtain ⟨a, b, o⟩ := p
      simp only at hp es p13
      refine ⟨.lst [.str (wd o), .str (sN a), .str (sN b)], v1e (v2e rfl rfl (fSplit_ok (by decide +kernel) hz)) (by rw [es]; rfl), ?_⟩
      refine if_f (dec_f (p := ((3 : Int) ≠ 3) ∨ False) (by simp) (bOr_d (bVe (v2e (x := .int 3) rfl rfl rfl)) fun _ => bVe (v2e (x := .str (wd o)) rfl rfl (by cases o <;> rfl)))) ?_
      refine ⟨.lst [dInt a, dInt b], v1e (vlc_map (enc := fun k => D.str (sN k)) (xs := [a, b]) (h := dInt) rfl (by simp) fun k hk => ?_) rfl, ?_⟩
      · have : k < 13 := by
          simp at hk
          rcases hk with rfl | rfl
          · exact p13.1
          · exact p13.2
        exact lcS1 rfl rfl (v1e (v1e (xc (rVe rfl rfl) ⟨rfl, rfl⟩ rfl (F_numberOf this)) rfl) rfl)
      refine ⟨rfl, _, _, _, _, rfl, ⟨rfl, rfl⟩, rfl, lay_ok hp.1 hp.2.1 hp.2.2 h60', ?_⟩
      refine if_b (b := !o) (bVe (v2e (x := .str (wd o)) (y := .str "shut") rfl rfl (by cases o <;> rfl))) (fun c => ?_) (fun c => ?_)
      · have c : o = false := by simpa using c
        subst c
        have eg : (ps ++ [(a, b, true)])[ps.length]? = some (a, b, true) := by simp
        refine ⟨rfl, _, _, _, _, rfl, ⟨rfl, rfl⟩, rfl, G_shutE eg, ?_⟩
        refine ⟨rfl, .inl ⟨rfl, ?_⟩, .inr ⟨rfl, rfl⟩, trivial⟩
        rw [show (ps ++ [(a, b, true)]).set ps.length (a, b, false) = ps ++ [(a, b, false)] by simp]
        rfl
      · have c : o = true := by simpa using c
        subst c
        exact ⟨rfl, .inl ⟨rfl, rfl⟩, .inr ⟨rfl, rfl⟩, trivial⟩
    · cases h2
  · cases h
theorem atI_last {α : Type} (xs : List α) (x : α) : atI (xs ++ [x]) (-1) = some x := by
  unfold atI ixN
  rw [if_neg (by omega), if_pos (by simp; omega)]
  have : ((-1 : Int) + ((xs ++ [x]).length : Int)).toNat = xs.length := by simp; omega
  rw [this]
  simp
theorem cut_mid {α : Type} (a b : α) (xs : List α) : cutD (a :: (xs ++ [b])) (some 1) (some (-1)) = xs := by
  unfold cutD
  have e1 : HT.sIx (a :: (xs ++ [b])).length 0 (some 1) = 1 := by
    rw [show (1 : Int) = ((1 : Nat) : Int) from rfl, HT.sIx_nat]
    simp
  have e2 : HT.sIx (a :: (xs ++ [b])).length (a :: (xs ++ [b])).length (some (-1)) = xs.length + 1 := by
    simp [HT.sIx]
    omega
  rw [e1, e2]
  simp
def F_read : FN
  | [.val (.str z)] => (unText z).bind fun x => if okNet x.1 x.2 ∧ z.length ≤ 900000 ∧ (∀ w ∈ Txt.split z "\n", w.length ≤ 900000) then some (.inl (.net .loc (x.1 : Int) (dPs x.2))) else none
  | _ => none
theorem F_readE {n : Nat} {ps : List P3} (h : okNet n ps) : F_read [.val (.str (lawText n ps))] = some (.inl (.net .loc (n : Int) (dPs ps))) := by
  obtain ⟨n13, p13⟩ := h.p13
  have hl := text_len n13 p13
  have h60 := h.2.2.2
  show (unText _).bind _ = _
  rw [unText_text n13 p13, Option.bind_some]
  refine ite_some ⟨h, by omega, fun w hw => ?_⟩
  rw [split_text n13 p13] at hw
  rcases List.mem_cons.mp hw with rfl | hw
  · have a2 := (sN_facts _ (List.mem_range.mpr n13)).1
    have a5 := lit_facts.2.2.2.2.2.2.2.2.1
    unfold line0
    rw [len_app]
    omega
  · rcases List.mem_append.mp hw with hw | hw
    · obtain ⟨p, hp, rfl⟩ := List.mem_map.mp hw
      have := line_len (p13 p hp).1 (p13 p hp).2
      omega
    · simp at hw
      subst hw
      decide +kernel
/-- read: 0 text 1 lines 2 words 3 net 4 line -/
def t_read : VT := (seqT (asgV 1 (v1 slD (v2 fSplit (vVar 0) (vC (.str "\n"))))) (seqT (ifT (bOr (bV (v2 fLt (v1 fLenL (lVar 1)) (vC (.int 2)))) (bV (v2 fNe (v2 fIx (vVar 1) (v1 fNeg (vC (.int 1)))) (vC (.str ""))))) (seqT neverT skipT) skipT) (seqT (asgV 2 (v1 slD (v2 fSplit (v2 fIx (vVar 1) (vC (.int 0))) (vC (.str " "))))) (seqT (ifT (bOr (bV (v2 fNe (v1 fLenL (lVar 2)) (vC (.int 2)))) (bV (v2 fNe (v2 fIx (vVar 2) (vC (.int 0))) (vC (.str "places"))))) (seqT neverT skipT) skipT) (seqT (tryNT (seqT (asgX 3 (newF (v1 slD (v1 inlO (xCall 1 F_number_of (rV (v2 fIx (vVar 2) (vC (.int 1))) rNil)))))) (seqT (forT (v1 dL (v1 slD (vCut cutL (lVar 1) (pI (vC (.int 1))) (pI (v1 fNeg (vC (.int 1))))))) (gN 4) (seqT (cmT none 2 G_lay_line (rS 3 (rV (vVar 4) rNil))) skipT)) skipT))) (seqT (retS 3) skipT))))))
theorem v_read : ∀ ss r, ss.length = 1 → F_read ss = some r → t_read (postP r) (En0 ss 5) ∧ ∃ s, r = .inl s := by
  intro ss r hl h
  unfold F_read at h
  split at h
  · rename_i z
    obtain ⟨x, e1, h1⟩ := Option.bind_eq_some_iff.mp h
    clear h
    split at h1
    · rename_i hc
      have h3 := Option.some.inj h1
      clear h1
      subst h3
      obtain ⟨n, ps⟩ := x
      simp only at hc ⊢
      obtain ⟨ok, hz, hw⟩ := hc
      refine ⟨?_, _, rfl⟩
      unfold unText at e1
      split at e1
      · rename_i l0 rest es
        obtain ⟨n', q1, e1⟩ := Option.bind_eq_some_iff.mp e1
        obtain ⟨ps', q2, e1⟩ := Option.map_eq_some_iff.mp e1
        cases e1
        obtain ⟨s1, n13⟩ := dec0_some q1
        obtain ⟨qs, rfl, rfl, hq⟩ := decLs_some q2
        rw [es] at hw
        have hw0 := hw l0 (by simp)
        have hws : ∀ q ∈ qs, q.1.length ≤ 900000 := fun q h => hw q.1 (List.mem_cons_of_mem _ (List.mem_append_left _ (List.mem_map_of_mem h)))
        clear hw q2 q1
        have eL : (l0 :: (qs.map (·.1) ++ [("" : Str)])).map D.str = .str l0 :: (qs.map (fun q => D.str q.1) ++ [D.str ""]) := by simp
        refine ⟨.lst (.str l0 :: (qs.map (fun q => D.str q.1) ++ [D.str ""])), v1e (v2e rfl rfl (fSplit_ok (by decide +kernel) hz)) (by rw [es, eL]; rfl), ?_⟩
        have hI0 : fIx (.lst (.str l0 :: (qs.map (fun q => D.str q.1) ++ [D.str ""]))) (.int 0) = some (.str l0) := atI_nat (j := 0) rfl
        have hI1 : fIx (.lst (.str l0 :: (qs.map (fun q => D.str q.1) ++ [D.str ""]))) (.int (-1)) = some (.str "") := atI_last (α := D) (D.str l0 :: qs.map (fun q : Str × P3 => D.str q.1)) (D.str "")
        have hIl : fLenL (.str l0 :: (qs.map (fun q => D.str q.1) ++ [D.str ""])) = some (.int ((qs.length : Int) + 2)) := by
          unfold fLenL
          simp
          omega
        have hIc : cutL (.str l0 :: (qs.map (fun q => D.str q.1) ++ [D.str ""])) (some 1) (some (-1)) = some (.own .loc (qs.map (fun q => D.str q.1))) := by
          unfold cutL
          rw [cut_mid]
        generalize (.str l0 :: (qs.map (fun q => D.str q.1) ++ [D.str ""]) : List D) = L at hI0 hI1 hIl hIc ⊢
        refine if_f (dec_f (p := ((qs.length : Int) + 2 < 2) ∨ False) (by rintro (z | z); omega; exact z) (bOr_d (bVe (v2e (x := .int ((qs.length : Int) + 2)) (v1e rfl hIl) rfl rfl)) fun _ => bVe (v2e (x := .str "") (y := .str "") (v2e rfl rfl hI1) rfl rfl))) ?_
        refine ⟨.lst [.str "places", .str (sN n)], v1e (v2e (x := .str l0) (v2e rfl rfl hI0) rfl (fSplit_ok (by decide +kernel) hw0)) (by rw [s1]; rfl), ?_⟩
        refine if_f (dec_f (p := ((2 : Int) ≠ 2) ∨ False) (by simp) (bOr_d (bVe (v2e (x := .int 2) rfl rfl rfl)) fun _ => bVe (v2e (x := .str "places") rfl rfl rfl))) ?_
        refine ⟨.inl (.net .loc (n : Int) []), ?_, ?_⟩
        · unfold newF
          rw [show v1 slD (v1 inlO (xCall 1 F_number_of (rV (v2 fIx (vVar 2) (vC (.int 1))) rNil))) _ = some (D.int (n : Int)) from v1e (v1e (xc (rVe (d := .str (sN n)) rfl rfl) ⟨rfl, rfl⟩ rfl (F_numberOf n13)) rfl) rfl]
          show some (if 1 ≤ (n : Int) ∧ (n : Int) ≤ 12 then _ else _) = _
          rw [if_pos (by have := ok.1; have := ok.2.1; omega)]
        refine ⟨qs.map fun q => D.str q.1, v1e (x := .lst (qs.map fun q => D.str q.1)) (v1e (x := .own .loc (qs.map fun q => D.str q.1)) (show cutL L (some 1) (some (-1)) = _ from hIc) rfl) rfl, ?_⟩
        refine loopT_inv (enc := fun q : Str × P3 => D.str q.1) (fun rest Γ => ∃ (done : List (Str × P3)) (v4 : Option Sl), done ++ rest = qs ∧ Γ = [some (.val (.str z)), some (.val (.lst L)), some (.val (.lst [.str "places", .str (sN n)])), some (.net .loc (n : Int) (dPs (done.map (·.2)))), v4]) ?_ ?_ qs _ ⟨[], none, rfl, rfl⟩
        · rintro ⟨w, p⟩ rest Γ kk ⟨done, v4, hd, rfl⟩ hk
          refine ⟨_, rfl, ?_⟩
          have hm : (w, p) ∈ qs := by rw [← hd]; simp
          have ok1 : okNet n (done.map (·.2) ++ [p]) := by
            have : okNet n ((done.map (·.2) ++ [p]) ++ rest.map (·.2)) := by
              have e : (done.map (·.2) ++ [p]) ++ rest.map (·.2) = qs.map (·.2) := by rw [← hd]; simp
              rw [e]
              exact ok
            exact this.pre
          refine ⟨_, _, _, _, rfl, ⟨rfl, rfl⟩, rfl, G_layLine (p := p) ok1 (hq _ hm) (hws _ hm), ?_⟩
          refine hk _ ⟨done ++ [(w, p)], some (.val (.str w)), by rw [← hd]; simp, ?_⟩
          rw [List.map_append]
          rfl
        · rintro Γ ⟨done, v4, hd, rfl⟩
          rw [List.append_nil] at hd
          subst hd
          exact ⟨_, rfl, rfl, rfl⟩
      · cases e1
    · cases h1
  · cases h
end Z

set_option maxRecDepth 100000
namespace Z
open PySem PySem.Spec PyProof.Rows L2

/-! ### an exception that leaves a comprehension -/
theorem upTo_at {h h' : Heap} (up : h.UpToSlots h') {b : Addr} {o : Obj} (e : h.get? b = some o) (nf : ∀ vs, o.data ≠ .fields vs) : ∃ sl, h'.get? b = some { o with slots := sl } := up b o e nf
theorem out_of_block {X : Cx} {pins pins' : List (Addr × Obj)} {σ σ' : L2.St} {H3 H : Hp} {s3 s s' : Shared} {scope : Scope} {ce : Env} {fp : List Addr} {xe' : Value → Shared → Prop} {W W' : WX} {u : Value}
    (I3 : Inv X pins σ H3 s3) (fpo : ∀ b ∈ fp, FpOk X pins H3 b) (hC : ce.locals = s3.heap.objs.size) (hce : ce.frame = X.env.frame) (hs : X.stack = X.env :: X.outer) (hf : X.env.frame = some X.env.locals)
    (IY : Inv ((X.blk s3 H3 scope ce fp).tr [] xe') pins' σ' H s) (tk : L2N.Takes X W) (hW : ∀ cls d H', W' cls d σ' H' → W cls d σ H') (c : L2N.CX X.prog X.w X.stack H s (WE W' σ') u s') :
    notedBy (model X.prog X.w) X.A ce (CompFails (model X.prog X.w) X.A X.xe ce) u s' := by
  obtain ⟨a, B, H', cls, d, rfl, fly, okB, ub, na, os, ag, wE⟩ := c
  have frames : X.A.frames = some (X.env :: X.outer) := by rw [I3.ok.frames, hs]
  have C3 : s3.heap.get? ce.locals = none := by
    cases q : s3.heap.get? ce.locals with
    | none => rfl
    | some o => exact absurd (Heap.lt_size q) (by rw [hC]; exact Nat.lt_irrefl _)
  have Cfr : ce.locals ∉ frs X.stack := fun z => by
    obtain ⟨_, o, e, _⟩ := I3.stack.mem z
    rw [C3] at e
    cases e
  have HC : H ce.locals = none := IY.free
  obtain ⟨m, ⟨oC, es, ep, eC, dC, rC⟩, _⟩ := IY.loc
  have eC : s.heap.get? ce.locals = some oC := eC
  have BC := ub.keep _ _ eC HC Cfr
  have HC' : H' ce.locals = none := ub.free _ _ eC HC
  show wpAny _ _ (noteFrame (.ref a) ce) _ _ s'
  rw [noteFrame_env _ hce]
  refine PXN.looks_onZ (L := X.env.locals) (outer := X.outer) L2N.Zn.steady frames hf (by rw [← hs]; exact fly) fun h1 held up1 => ?_
  refine ⟨m, ⟨oC, es, ep, held.1 _ _ BC, dC, rC⟩, fun h2 m2 n2 sb => ?_⟩
  obtain ⟨stay, Ba, ff, oe, vs, T, oT, ts, e1, z1, d1, i1, BT, Ta, eT, dT, i3⟩ := held
  have fields_ne : ∀ {b : Addr} {o : Obj} {ws : Array Value}, h1.get? b = some o → o.data = .fields ws → b ≠ ce.locals := fun {b o ws} e q z => by
    subst z
    rw [stay _ _ BC] at e
    cases e
    rw [dC] at q
    cases q
  -- the ground without the block
  obtain ⟨G0, p1, p2⟩ := restrict B fun b => decide (b ≠ ce.locals)
  have G0at : ∀ {b o}, B.get? b = some o → b ≠ ce.locals → G0.get? b = some o := fun {b o} e n => by rw [p1 b (decide_eq_true n)]; exact e
  have G0of : ∀ {b o}, G0.get? b = some o → B.get? b = some o ∧ b ≠ ce.locals := fun {b o} e => by
    by_cases n : b = ce.locals
    · rw [p2 b (by simp [n])] at e
      cases e
    · rw [p1 b (decide_eq_true n)] at e
      exact ⟨e, n⟩
  have G0no : ∀ {b}, B.get? b = none → G0.get? b = none := fun {b} e => by
    cases q : G0.get? b with
    | none => rfl
    | some o => rw [(G0of q).1] at e; cases e
  have held2 : HandSPX.HeldZ G0 (X.env :: X.outer) a (L2N.Zn cls d) X.env.locals h2 := by
    refine ⟨fun b o e => ?_, G0no Ba, funFrames_none (Heap.FunFrames.sameBut sb n2 ff) fun L hL => ?_, oe, vs, T, oT, ts, ?_, z1, d1, i1, G0no BT, Ta, ?_, dT, i3⟩
    · obtain ⟨q1, q2⟩ := G0of e
      exact (sb.2 b q2).trans (stay b o q1)
    · exact G0no (ff.mem hL).1
    · exact (sb.2 a (fields_ne e1 d1)).trans e1
    · exact (sb.2 T (fields_ne eT dT)).trans eT
  unfold PySem.passOn
  refine wpAny_bind (wpAny_field held2.2.2.2.choose_spec.choose_spec.choose_spec.choose_spec.choose_spec.1 held2.2.2.2.choose_spec.choose_spec.choose_spec.choose_spec.choose_spec.2.2.1 held2.2.2.2.choose_spec.choose_spec.choose_spec.choose_spec.choose_spec.2.2.2.1 ?_)
  rw [if_neg (by simp)]
  rw [hce, hf]
  refine wpAny_bind (HandSPX.setFlight_onZ held2 fun h3 held3 up3 => wpAny_throw (tk _ _ ?_))
  -- the state without the exception
  obtain ⟨G, g1, g2⟩ := restrict h3 fun b => (G0.get? b).isSome || decide (b ∈ frs X.stack)
  have GG0 : ∀ b o, G0.get? b = some o → G.get? b = some o := fun b o e => by
    rw [g1 b (by simp [e])]
    exact held3.1 b o e
  have Gfr : ∀ b, b ∈ frs X.stack → G.get? b = h3.get? b := fun b hb => g1 b (by simp [hb])
  have slot : ∀ b o, b ∈ frs X.stack → s.heap.get? b = some o → (∀ ws, o.data ≠ .fields ws) → ∃ sl, G.get? b = some { o with slots := sl } := fun b o hb e nf => by
    obtain ⟨l1, q1⟩ := ub.slot b o e hb
    obtain ⟨l2, q2⟩ := upTo_at up1 q1 nf
    have nb : b ≠ ce.locals := fun z => Cfr (z ▸ hb)
    have q3 : h2.get? b = some { o with slots := l2 } := (sb.2 b nb).trans q2
    obtain ⟨l3, q4⟩ := upTo_at up3 q3 nf
    exact ⟨l3, by rw [Gfr b hb]; exact q4⟩
  have notf : ∀ b o, b ∈ frs X.stack → s3.heap.get? b = some o → ∀ ws, o.data ≠ .fields ws := fun b o hb e => by
    obtain ⟨_, o', e', nf⟩ := I3.stack.mem hb
    rw [e] at e'
    cases e'
    exact nf
  have bas : Un (frs X.stack) fp H3 H s3.heap s.heap := IY.base
  have old : ∀ {b o}, s3.heap.get? b = some o → b ≠ ce.locals := fun {b o} e z => by rw [z, C3] at e; cases e
  have un : Un (frs X.stack) fp H3 H' s3.heap G := by
    refine ⟨fun b o e n hb hx => GG0 b o (G0at (ub.keep b o (bas.keep b o e n hb hx) (bas.free b o e n hx) hb) (old e)), fun b o e n hb hx => ?_, fun b o e n hx => ?_, fun b o e hx => ?_,
      fun b xs q => ub.tups b xs (bas.tups b xs q), fun b o w q => ub.frzs b o w (bas.frzs b o w q), fun b ps q => ?_⟩
    · obtain ⟨l, q⟩ := bas.slot b o e n hb hx
      obtain ⟨l2, q2⟩ := slot b { o with slots := l } hb q (notf b o hb e)
      exact ⟨l2, q2⟩
    · obtain ⟨l, q⟩ := bas.any e n hx
      exact ub.free b _ q (bas.free b o e n hx)
    · by_cases hb : b ∈ frs X.stack
      · obtain ⟨l, q⟩ := bas.slot b o e (I3.stkFree b hb) hb hx
        obtain ⟨l2, q2⟩ := slot b _ hb q (notf b o hb e)
        exact ⟨_, q2⟩
      · obtain ⟨o1, q1⟩ := bas.there b o e hx
        obtain ⟨o2, q2⟩ := ub.there b o1 q1 hb
        exact ⟨o2, GG0 b o2 (G0at q2 (old e))⟩
    · obtain ⟨more, q⟩ := bas.tbls b ps q
      obtain ⟨more2, q2⟩ := ub.tbls b _ q
      exact ⟨more ++ more2, by rw [q2, Array.append_assoc]⟩
  have okG0 : HOk X.prog X.w H' G0 := fun b o q => (okB b o q).stay (fun t v ht r => G0at r fun z => by
    rcases ht with ht | ht
    · rw [← ht, z, HC'] at q; cases q
    · rw [z, HC'] at ht; cases ht) (fun _ r => r) fun _ _ r => r
  refine ⟨a, G0, { s' with heap := G }, pins, σ, H', cls, d, rfl, ?_, fun b o e hb => ?_, Heap.UpToSlots.of_keeps fun b o e => ?_, .inr (.inr (by rw [hs]; exact held3)), na, rfl, ag, hW _ _ _ wE⟩
  · exact I3.call' (s' := { s' with heap := G }) (ch := fp) (os.trans IY.os) un (okG0.kept GG0) ag fun b hb => ⟨(fpo b hb).2.2.2.1, (fpo b hb).2.1, (fpo b hb).2.2.2.2.1, (fpo b hb).2.2.2.2.2⟩
  · cases q : ((G0.get? b).isSome || decide (b ∈ frs X.stack)) with
    | false =>
      have e : G.get? b = some o := e
      rw [g2 b q] at e
      cases e
    | true =>
      have q' : (G0.get? b).isSome = true := by simpa [hb] using q
      obtain ⟨o', q3⟩ := Option.isSome_iff_exists.mp q'
      have e : G.get? b = some o := e
      rw [GG0 b o' q3] at e
      cases e
      exact q3
  · cases q : ((G0.get? b).isSome || decide (b ∈ frs X.stack)) with
    | false =>
      have e : G.get? b = some o := e
      rw [g2 b q] at e
      cases e
    | true =>
      have e : G.get? b = some o := e
      rw [g1 b q] at e
      exact e
end Z

set_option maxRecDepth 100000
namespace Z
open PySem PySem.Spec PyProof.Rows L2

/-! ### y = [elt for target in iter], elt raising at times (errors without a context) -/
section
variable {X : Cx}
theorem trInv {Y : Cx} {p : List (Addr × Obj)} {ρ : L2.St} {J : Hp} {t : Shared} {xe' : Value → Shared → Prop} (hp : Y.pn = []) (I : Inv Y p ρ J t) : Inv (Y.tr [] xe') p ρ J t :=
  ⟨I.ok.toTry _ _, I.os, I.bare, I.base, I.loc, I.cell, I.free, I.freeC, fun q hq => I.pin q (by rw [hp]; exact hq), I.hok, I.len⟩
theorem trBack {Y : Cx} {p : List (Addr × Obj)} {ρ : L2.St} {J : Hp} {t : Shared} {xe' : Value → Shared → Prop} (hp : Y.pn = []) (ok : Y.Ok) (I : Inv (Y.tr [] xe') p ρ J t) : Inv Y p ρ J t :=
  ⟨ok, I.os, I.bare, I.base, I.loc, I.cell, I.free, I.freeC, fun q hq => I.pin q (by rw [hp] at hq; exact hq), I.hok, I.len⟩
/-- the block's context, raising as xe' says -/
abbrev bx (X : Cx) (t : Shared) (J : Hp) (scope : Scope) (cl : List (Str × Addr)) (C : Addr) (fp : List Addr) (xe' : Value → Shared → Prop) : Cx := (X.blk t J scope (compEnvC scope cl C X.env) fp).tr [] xe'
theorem lcx_core {pins : List (Addr × Obj)} {t0 : Shared} {ρ : L2.St} {J0 : Hp} {R : VK} {elt tg iter : Expr} {scope : Scope} {own : List (Str × Nat)} {pos pos' : Pos} {wi : TI} {g : TG} {te : TE} {use : Value → Sem Unit} {Qf : Value → Shared → Prop} {W : WX}
    (calm : X.calm = true) (nd : X.N.Nodup) (st : X.stack = X.env :: X.outer) (fr : X.env.frame = some X.env.locals) (tk : L2N.Takes X W) (blind : ∀ c d ρ1 ρ2 J, W c d ρ1 J → W c d ρ2 J)
    (I0 : Inv X pins ρ J0 t0) (walk : PI X tg iter wi) (blk : BlkOk X.N X.env.scope scope own) (goal : ∀ (t : Shared) (J : Hp) (C : Addr) (cl : List (Str × Addr)) (fp : List Addr), PG (X.blk t J scope (compEnvC scope cl C X.env) fp) tg g)
    (el : ∀ (t : Shared) (J : Hp) (C : Addr) (cl : List (Str × Addr)) (fp : List Addr) (xe' : Value → Shared → Prop), (∀ ρ', PassesAt (L2N.CX X.prog X.w) (bx X t J scope cl C fp xe') ρ' (WE W ρ')) → PE (bx X t J scope cl C fp xe') elt te)
    (fold : ∀ x, foldedSetIterable iter X.env x = pure x) (want : tLc wi g tYes te (own.map (·.2)) ρ J0 R)
    (fin : ∀ D C t m J, Inv X pins ρ J t → R (.ref D) J → t.heap.Ns C m → FpOk X pins J C → wpAny (model X.prog X.w) X.A (use (.ref D)) (fun _ t' => ∃ m, t'.heap.Ns C m ∧ ∀ h', Heap.SameBut C t'.heap h' → Qf .none { t' with heap := h' }) X.xe t) :
    wpAny (model X.prog X.w) X.A (comprehension (.ListComp elt [⟨tg, iter, [], 0⟩] scope pos) scope X.env pos' (newList []) false (eval iter X.env) (some use)) Qf X.xe t0 := by
  have cells : ∀ y ∈ scope.names, y.2 = .free → ∃ c, X.env.cells.lookup y.1 = some c := fun y hy e => (blk.free y hy e).elim (fun k => I0.ok.has _ (.inl k)) fun k => I0.ok.has _ (.inr k)
  refine comprehension_at (use := some use) rfl fold (closure_ok cells) blk.kind (fun y hy e => by rw [blk.uniq y hy, e]) (thn (walk.run pins t0 ρ J0 _ I0 want) fun xv t1 hx => thn hx fun itv t2 h2 => ?_)
  obtain ⟨it, fp, tn, K, J2, e, I2, T, st2, f2, q⟩ := h2
  subst e
  refine wpAny_newObj_type (newEnv_comp ?_) (by show 0 ≤ sizeLine; decide)
  generalize hD : t2.heap.objs.size = D
  have newD : J2 D = none := I2.hok.fresh (Nat.le_of_eq hD)
  obtain ⟨V, ⟨m0, v0⟩, turn⟩ := q D newD
  generalize ht3 : ({ t2 with heap := t2.heap.push { cls := .type "list", data := .seq ([] : List Value).toArray } } : Shared) = t3
  have hp3 : t3.heap = t2.heap.push { cls := .type "list", data := .seq ([] : List Value).toArray } := by rw [← ht3]
  have I3 : Inv X pins ρ (upd J2 D (.lst [])) t3 := by
    rw [← ht3]
    refine I2.laid (t' := t2.toks) (fun b o e => Heap.get?_push_of_some _ e) (Nat.le_of_eq hD) ⟨Nat.zero_le _, [], 0, .nil, ?_⟩
    rw [← hD]
    exact Heap.get?_push_size _ rfl
  have in2 : ∀ b ∈ fp, b < t2.heap.objs.size := fun b hb => by
    obtain ⟨o, e, _⟩ := T.obj _ _ st2 b hb
    exact Heap.lt_size e
  have f3 : ∀ b ∈ fp, FpOk X pins (upd J2 D (.lst [])) b ∧ b < t3.heap.objs.size := fun b hb =>
    ⟨⟨by rw [upd_ne (by rw [← hD]; exact Nat.ne_of_lt (in2 b hb))]; exact (f2 b hb).1, (f2 b hb).2⟩, by rw [hp3, Heap.size_push]; exact Nat.lt_succ_of_lt (in2 b hb)⟩
  have st3 : tn 0 t3.heap := T.keep _ _ _ st2 fun b _ o e => by rw [hp3]; exact Heap.get?_push_of_some _ e
  have I4 := block_start I3 blk nd f3
  generalize hcl : cellsFrom (t3.heap.objs.size + 1) scope.names (cloFrom X.env.cells scope.names []) = cl at I4
  have pg := goal t3 (upd J2 D (.lst [])) t3.heap.objs.size cl fp
  have pe : ∀ xe' : Value → Shared → Prop, (∀ ρ', PassesAt (L2N.CX X.prog X.w) ((X.blk t3 (upd J2 D (.lst [])) scope (compEnvC scope cl t3.heap.objs.size X.env) fp).tr [] xe') ρ' (WE W ρ')) →
      PE ((X.blk t3 (upd J2 D (.lst [])) scope (compEnvC scope cl t3.heap.objs.size X.env) fp).tr [] xe') elt te := fun xe' hx => el t3 (upd J2 D (.lst [])) t3.heap.objs.size cl fp xe' hx
  show codeAny _ _ (.compStart (.ListComp elt [⟨tg, iter, [], 0⟩] scope pos) 0 (.ref it) (.ref D) (compEnvC scope cl t3.heap.objs.size X.env))
    (compEnds (model X.prog X.w) X.A X.xe (some use) Qf (.ref D) (compEnvC scope cl t3.heap.objs.size X.env)) { t3 with heap := pushCells (t3.heap.push { cls := .type "dict", data := .dict #[] }) scope.names }
  have ceL : (compEnvC scope cl t3.heap.objs.size X.env).locals = t3.heap.objs.size := rfl
  have ceF : (compEnvC scope cl t3.heap.objs.size X.env).frame = X.env.frame := rfl
  generalize hce : compEnvC scope cl t3.heap.objs.size X.env = ce at I4 pg pe ceL ceF ⊢
  have none3 : ∀ b ∈ fp, (upd J2 D (.lst [])) b = none := fun b hb => (f3 b hb).1.1
  generalize hJ3 : upd J2 D (.lst []) = J3 at I3 I4 pg pe v0 none3 f3
  generalize ht4 : ({ t3 with heap := pushCells (t3.heap.push { cls := .type "dict", data := .dict #[] }) scope.names } : Shared) = t4 at I4 ⊢
  have st4 : tn 0 t4.heap := T.keep _ _ _ st3 fun b _ o e => by rw [← ht4]; exact pushCells_keeps _ _ _ _ (Heap.get?_push_of_some _ e)
  have fresh : ∀ {ρ' : L2.St} {J : Hp} {t : Shared}, Inv (X.blk t3 J3 scope ce fp) [] ρ' J t → (∀ b ∈ fp, J b = none) → ∀ b ∈ fp, FpOk (X.blk t3 J3 scope ce fp) [] J b := fun {ρ' J t} I n b hb =>
    ⟨n b hb, (I.ok.exf b hb).1, I.ok.exfs b hb, .inl hb, fun x c e => (I.ok.exf b hb).2 x c e, fun p hp => absurd (show p ∈ ([] : List (Addr × Obj)) ++ [] from hp) (by simp)⟩
  have pass : ∀ ρ', PassesAt (L2N.CX X.prog X.w) ((X.blk t3 J3 scope ce fp).tr [] (notedBy (model X.prog X.w) X.A ce (CompFails (model X.prog X.w) X.A X.xe ce))) ρ' (WE W ρ') := fun ρ' pins' J t u t' I c =>
    out_of_block (W' := W) I3 (fun b hb => (f3 b hb).1) ceL ceF st fr I tk (fun c d J' w => blind _ _ _ _ _ w) c
  have loop : codeAny (model X.prog X.w) X.A (.compLoop (.ListComp elt [⟨tg, iter, [], 0⟩] scope pos) 0 (.ref it) (.ref D) ce) (compEnds (model X.prog X.w) X.A X.xe (some use) Qf (.ref D) ce) t4 := by
    refine compLoop_any (fun n t => ∃ i J, Inv (X.blk t3 J3 scope ce fp) [] (wipe ρ (own.map (·.2))) J t ∧ tn i t.heap ∧ (∀ b ∈ fp, J b = none) ∧ V i n J) ?_ m0 ⟨0, J3, I4, st4, none3, v0⟩
    rintro n t5 ⟨i, J5, I5, st5, n5, v5⟩
    rcases turn i n J5 v5 with ⟨stop, qq⟩ | ⟨go, Nx, next, step⟩
    · refine thnF (T.done (X.blk t3 J3 scope ce fp) rfl rfl rfl calm i [] t5 _ J5 (fun _ _ => False) I5 (fresh I5 n5) st5 stop) fun r t6 ⟨hr, I6⟩ => ?_
      subst hr
      have I7 : Inv X pins ρ J5 t6 := I3.call' (ch := fp) I6.os I6.base I6.hok I6.bare fun b hb => ⟨(f3 b hb).1.2.2.2.1, (f3 b hb).1.2.1, (f3 b hb).1.2.2.2.2.1, (f3 b hb).1.2.2.2.2.2⟩
      have nC : J5 t3.heap.objs.size = none := by
        have z : J5 ce.locals = none := I6.free
        rw [ceL] at z
        exact z
      obtain ⟨m, hn, _⟩ := I6.loc
      have hn : t6.heap.Ns ce.locals m := hn
      rw [ceL] at hn
      have last := fin D t3.heap.objs.size t6 m J5 I7 qq hn (I3.fpOk (Nat.le_refl _) nC)
      rw [← ceL] at last
      exact last
    · refine thnF (T.item (X.blk t3 J3 scope ce fp) rfl rfl rfl calm i [] t5 _ J5 (fun _ _ => False) I5 (fresh I5 n5) st5 go) fun r t6 ⟨u, hr, h6⟩ => ?_
      subst hr
      refine thnF h6 fun _ t7 ⟨x, J7, I7, r7, y7, st7, n7⟩ => ?_
      refine thnF (pg.run _ t7 _ J7 x u _ (I7.pinned (fresh I7 n7) (T.obj _ _ st7)) r7 (step x J7 y7)) fun _ t8 ⟨ρ8, J8, I8, w8, q8⟩ => ?_
      have turned : ∀ {t' : Shared} {J' : Hp}, Inv (X.blk t3 J3 scope ce fp) ([] ++ pinsAt fp t7.heap) ρ8 J' t' → Nx J' → ∃ m, m < n ∧ ∃ i J, Inv (X.blk t3 J3 scope ce fp) [] (wipe ρ (own.map (·.2))) J t' ∧ tn i t'.heap ∧ (∀ b ∈ fp, J b = none) ∧ V i m J := fun {t' J'} I' nx => by
        obtain ⟨m', lt, v'⟩ := next J' nx
        have held : ∀ b ∈ fp, ∀ o, t7.heap.get? b = some o → t'.heap.get? b = some o ∧ J' b = none := fun b hb o e => by
          have z := I'.pin (b, o) (List.mem_append_right _ (List.mem_append_right _ (mem_pinsAt hb e)))
          exact ⟨z.1, z.2.1⟩
        have len : (wipe ρ (own.map (·.2))).length = ρ8.length := by rw [← w8, wipe_length]
        refine ⟨m', lt, i + 1, J', (I'.unpinned (pins := [])).weak len (fun j v e => ?_), T.keep _ _ _ st7 fun b hb o e => (held b hb o e).1, fun b hb => ?_, v'⟩
        · rw [← w8] at e
          exact (wipe_some e).1
        · obtain ⟨o, e, _⟩ := T.obj _ _ st7 b hb
          exact (held b hb o e).2
      refine thnF ((pts_nil (X := X.blk t3 J3 scope ce fp)).run _ t8 ρ8 J8 _ I8 q8) fun b t9 ⟨J9, I9, q9⟩ => ?_
      cases b with
      | false => exact turned I9 q9
      | true =>
        refine wpAny_mono ((pe _ pass).run _ t9 ρ8 J9 _ (trInv rfl I9) q9) (fun z t10 ⟨yv, J10, I10, r10, acc, hD10, hz10, nx⟩ => ?_) fun _ _ z => z
        refine thnF (app_ok (E := fun _ _ => False) (X := X.blk t3 J3 scope ce fp) (trBack rfl I9.ok I10) hD10 hz10 r10 fun t11 I11 => turned I11 nx) fun _ _ z => z
  exact codeAny_compStart_list loop (T.self X.A 0 _ _ _ st4 loop)
theorem ps_setLcX {i : Nat} {y : Str} {py : Pos} {elt tg iter : Expr} {scope : Scope} {own : List (Str × Nat)} {pos spos : Pos} {wi : TI} {g : TG} {te : TE} {W : WX} (calm : X.calm = true) (nd : X.N.Nodup) (st : X.stack = X.env :: X.outer) (fr : X.env.frame = some X.env.locals)
    (tk : L2N.Takes X W) (blind : ∀ c d ρ1 ρ2 J, W c d ρ1 J → W c d ρ2 J) (at_i : X.N[i]? = some y) (yl : X.env.scope.names.lookup y = some .local)
    (sw : swapsWith (.ListComp elt [⟨tg, iter, [], 0⟩] scope pos) (some (.Name y py)) spos.line X.env = pure true) (walk : PI X tg iter wi) (blk : BlkOk X.N X.env.scope scope own)
    (goal : ∀ (t : Shared) (J : Hp) (C : Addr) (cl : List (Str × Addr)) (fp : List Addr), PG (X.blk t J scope (compEnvC scope cl C X.env) fp) tg g)
    (el : ∀ (t : Shared) (J : Hp) (C : Addr) (cl : List (Str × Addr)) (fp : List Addr) (xe' : Value → Shared → Prop), (∀ ρ', PassesAt (L2N.CX X.prog X.w) (bx X t J scope cl C fp xe') ρ' (WE W ρ')) → PE (bx X t J scope cl C fp xe') elt te)
    (fold : ∀ x, foldedSetIterable iter X.env x = pure x := by intro _; rfl) :
    PS X (.Assign [.Name y py] (.ListComp elt [⟨tg, iter, [], 0⟩] scope pos) spos) (tAsg (tLc wi g tYes te (own.map (·.2))) (gName i)) := ⟨fun pins t ρ J De I want => by
  rw [exec_Assign_Name_used _ _ _ _ sw]
  refine wpAny_bind (wpAny_standAt (wpAny_bind ?_))
  have want : tLc wi g tYes te (own.map (·.2)) ρ J (fun x J1 => gName i x ρ J1 De.nx) := want
  refine wpAny_bind (thn (lcx_core (Qf := fun _ t' => SP X pins De .next t') calm nd st fr tk blind I walk blk goal el fold want fun D C t' m J' I' q hn f => ?_) fun _ t' q => wpAny_pure (wpAny_pure q))
  obtain ⟨a0, a1, a2, a3, a4, a5⟩ := f
  refine wpAny_assign_Name (store_ok2 (v := V.ref D) I' nd at_i (.inl yl) rfl (fun t2 I2 ⟨b, sb, hb⟩ => ?_) (.inr yl))
  have Cb : C ≠ b := by
    rcases hb with z | z
    · exact fun e => a1 (e.trans z)
    · exact fun e => a4 y b z e.symm
  exact ⟨m, hn.sameBut sb Cb, fun h3 sb3 => ⟨_, J', I2.turned (t' := t2.toks) (fun b' o n e => (sb3.2 b' n).trans e) a0 a1 a3 a4 a5, q⟩⟩⟩
end
end Z

set_option maxRecDepth 100000
namespace Z
open PySem PySem.Spec PyProof.Rows L2

/-! ### defs whose errors have no context -/
theorem okXN {P : Program} {w : World} {K : PySem.W.Frag} {mg : Str → Option Value} {base : Heap} {x qual : Str} {st : Stmt} {f : Addr} {fd : FuncData} {N ps : List Str} {k : Nat} {sp : Sp} (F : Fun K x qual st f fd) (S : FnScope N ps (defScope st))
    (len : ∀ vs H Q E, sp vs H Q E → vs.length = ps.length) (body : ∀ (cdv : Value) (A : Around) (outer : List Env) (s : Shared) (H : Hp) (vs : List V) (Q : VK) (E : XK), Room k (A.deeper (envOfC qual (defScope st) s.heap.objs.size f cdv)) → sp vs H Q E →
      ∃ t, PSs (cxOf (L2N.CX P w) P w K mg base N qual (defScope st) f cdv A outer s H E) (defBody st) t ∧ t { nx := fun _ H' => Q .non H', rt := Q } (L2.start N vs) H) : FnOk P w K mg base (L2N.CX P w) (k + 1) f fd ps sp := by
  obtain ⟨_, _, _, _, _, _, _, _, _, rfl, there, code⟩ := F.ex
  exact fn_of there code S len fun A outer s H vs Q E room q => body _ A outer s H vs Q E room q
section
variable {P : Program} {w : World} {g : Glo} {mg : Str → Option Value} {base : Heap}
theorem ok_fnXN {F : FN} {T : VT} {x qual : Str} {st : Stmt} {f : Addr} {fd : FuncData} {N ps : List Str} {k : Nat} (Fn : Fun g.K x qual st f fd) (S : FnScope N ps (defScope st)) (hN : ps.length ≤ N.length)
    (hb : ∀ (cdv : Value) (A : Around) (outer : List Env) (s : Shared) (H : Hp) (E : XK), Room k (A.deeper (envOfC qual (defScope st) s.heap.objs.size f cdv)) →
      PSs (cxOf (L2N.CX P w) P w g.K mg base N qual (defScope st) f cdv A outer s H E) (defBody st) (sV g (fun cls d _ H => E cls d H) T))
    (hv : ∀ ss r, ss.length = ps.length → F ss = some r → T (postP r) (En0 ss N.length)) : FnOk P w g.K mg base (L2N.CX P w) (k + 1) f fd ps (spP g ps.length F) :=
  okXN Fn S (fun vs H Q E h => spP_len h) fun cdv A outer s H vs Q E hr h => ⟨_, hb cdv A outer s H E hr, body_read hN hv h⟩
theorem ok_fnMN {F : FM} {T : VT} {x qual : Str} {st : Stmt} {f : Addr} {fd : FuncData} {N ps : List Str} {k : Nat} (Fn : Fun g.K x qual st f fd) (S : FnScope N ps (defScope st)) (hN : ps.length ≤ N.length)
    (hb : ∀ (cdv : Value) (A : Around) (outer : List Env) (s : Shared) (H : Hp) (E : XK), Room k (A.deeper (envOfC qual (defScope st) s.heap.objs.size f cdv)) →
      PSs (cxOf (L2N.CX P w) P w g.K mg base N qual (defScope st) f cdv A outer s H E) (defBody st) (sV g (fun cls d _ H => E cls d H) T))
    (hv : ∀ ss r ss', ss.length = ps.length → F ss = some (r, ss') → T (postM r ss ss') (En0 ss N.length)) : FnOk P w g.K mg base (L2N.CX P w) (k + 1) f fd ps (spM g ps.length F) :=
  okXN Fn S (fun vs H Q E h => h.1) fun cdv A outer s H vs Q E hr h => ⟨_, hb cdv A outer s H E hr, body_readM hN hv h⟩
end
section
variable {X : Cx} {g : Glo} {W : WX} {c e : Expr} {es : List Expr} {st : Stmt} {tg it : Expr}
theorem noPassN {σ : SS} : PassesAt (L2N.CX X.prog X.w) X σ (WE noW σ) := fun _ _ _ _ _ _ h => by
  obtain ⟨_, _, _, _, _, _, _, _, _, _, _, _, z⟩ := h
  exact z.elim
theorem s_raiseXN {x m : Str} {xx : Ex} {j : Nat} {p p2 pos pos2 : Pos} (E : ExT g X.mg x xx) (hK : X.K = g.K) (hc : X.calm = true) (tk : L2N.Takes X W) (hg : Gl X x) (hdb : (x == ("__debug__" : Str)) = false := by decide) :
    PS X (.Raise (some (.Call (.Name x p) [.Constant (.str m) j p2] [] pos)) none pos2) (sV g W (raiseT xx)) := by
  obtain ⟨h1, h2, h3, h4, h5⟩ := E
  rw [← hK] at h1 h3 h4 h5
  exact s_raise (L2N.ps_raise hc tk (L2N.pmk_own PySem.F.excBase_ValueError h1 h2 h3 (raises_own h4 h5) hg hdb))
/-- a raise while an error is handled -/
theorem s_raiseXH {x m : Str} {xx : Ex} {j : Nat} {p p2 pos pos2 : Pos} (E : ExT g X.mg x xx) (hK : X.K = g.K) (hot : L2H.HotC X) (tk : L2.Takes X W) (hg : Gl X x) (hdb : (x == ("__debug__" : Str)) = false := by decide) :
    PS X (.Raise (some (.Call (.Name x p) [.Constant (.str m) j p2] [] pos)) none pos2) (sV g W (raiseT xx)) := by
  obtain ⟨h1, h2, h3, h4, h5⟩ := E
  rw [← hK] at h1 h3 h4 h5
  exact s_raise (L2H.ps_raiseH hot tk (L2N.pmk_own PySem.F.excBase_ValueError h1 h2 h3 (raises_own h4 h5) hg hdb))

/-! ### try .. except x: suite, the suite raising -/
theorem s_tryX {x : Str} {cg : Ex → Option Bool} {Tb Ts : VT} {body suite : List Stmt} {b₀ : Stmt} {np pos pos' : Pos} (Ct : CtT g X.mg x cg) (hK : X.K = g.K) (hg : Gl X x) (hs : X.stack = X.env :: X.outer) (hf : X.env.frame = some X.env.locals) (tk : L2.Takes X W)
    (hpa : ∀ hd : Option Value, PassesOwnAt (model X.prog X.w) (X.A.mark hd) X.A X.env X.xe)
    (hb : ∀ (W' : WX) (pn : List (Addr × Obj)) (xe : Value → Shared → Prop), L2N.Takes (X.tr pn xe) W' → PassesOwn (model X.prog X.w) X.A X.env xe → PSs (X.tr pn xe) body (sV g W' Tb))
    (hsu : ∀ (a : Addr) (oe : Obj) (pn : List (Addr × Obj)), L2.Takes (L2H.suiteX X a ((a, oe) :: pn)) W → L2H.HotC (L2H.suiteX X a ((a, oe) :: pn)) → PSs (L2H.suiteX X a ((a, oe) :: pn)) (b₀ :: suite) (sV g W Ts)) (hdb : (x == ("__debug__" : Str)) = false := by decide) :
    PS X (.Try body [.ExceptHandler (some (.Name x np)) none (b₀ :: suite) pos'] [] [] pos) (sV g W (tryT cg Tb Ts)) := by
  obtain ⟨C, h1, h2⟩ := Ct.ex
  refine PS_mono (L2H.ps_try_onlyX (c := .ref C) (tb := fun W' => sV g W' Tb) (ts := fun _ _ _ => sV g W Ts) hs hf ⟨hg, hdb, .inl h1⟩ hpa tk (fun W' pn xe tkN _ po => hb W' pn xe tkN po) fun a oe cls d pn _ _ tkS hot => hsu a oe pn tkS hot) fun De σ H ⟨c, Q, Γ, Hb, ow, t, S, F, L⟩ =>
    ⟨c, tryQ cg Ts Q, Γ, Hb, ow, t, S, F, ⟨L.nx, L.bk, L.ct, L.rt, fun xx Γ1 σ1 Hb1 H1 ow1 q S1 F1 => ?_⟩⟩
  unfold tryQ at q
  simp only at q
  split at q
  · rename_i e
    exact ⟨true, by rw [hK]; exact h2 _ _ e, fun _ a _ => ⟨c, Q, Γ1, Hb1, ow1, q, S1, F1, L⟩, fun z => (nomatch z)⟩
  · rename_i e
    exact ⟨false, by rw [hK]; exact h2 _ _ e, fun z => (nomatch z), fun _ => L.ex _ _ _ _ _ _ q S1 F1⟩
  · exact q.elim

/-! ### Net(f(..)), f raising at times -/
def newX (f : En → Option Rs) : En → Option Rs := fun Γ => (f Γ).bind fun r => match r with
  | .inr x => some (.inr x)
  | .inl (.val (.int s)) => some (if 1 ≤ s ∧ s ≤ 12 then .inl (.net .loc s []) else .inr .much)
  | .inl _ => none
theorem ex_newX {f : En → Option Rs} (h : PE X c (tMakeE g.C (spInit g) (WE W) (tCons (eX g W f) tNil))) : PE X c (eX g W (newX f)) := PE_mono h fun σ H Q ⟨Γ, Hb, ow, r, ef, S, k⟩ => by
  obtain ⟨r0, e1, ef⟩ := Option.bind_eq_some_iff.mp ef
  refine ⟨Γ, Hb, ow, r0, e1, S, ?_⟩
  cases r0 with
  | inr x =>
    cases ef
    exact fun Hb1 H1 g1 => k Hb1 H1 g1
  | inl s0 =>
    obtain ⟨s, rfl⟩ : ∃ s : Int, s0 = .val (.int s) := by
      cases s0 with
      | val d =>
        cases d with
        | int s => exact ⟨s, rfl⟩
        | _ => cases ef
      | _ => cases ef
    have ef : (some (if 1 ≤ s ∧ s ≤ 12 then Sum.inl (Sl.net .loc s []) else Sum.inr Ex.much) : Option Rs) = some r := ef
    have ef := Option.some.inj ef
    subst ef
    intro v Hb1 H1 g1 r1 y dx hy hdx ne
    have r1 : Rep g.K Hb1 v (.int s) := r1
    have g2 : Grow Hb1 H1 Hb1 (upd (upd H1 dx (.own y)) y (.ins g.C dx [])) := (Grow.own g1.same hdx).trans (Grow.own (Grow.own g1.same hdx).same (by rw [upd_ne (Ne.symm ne)]; exact hy))
    refine ⟨y, dx, s, by rw [rep_int.mp r1], upd_same, fun hs => ?_, fun hs H' l hl hk hp hq => ⟨rfl, ?_⟩⟩
    · rw [if_neg hs] at k
      exact k Hb1 _ (g1.trans g2)
    · rw [if_pos hs] at k
      have ly : l ≠ y := fun z => by subst z; rw [upd_same] at hl; cases hl
      have ldx : l ≠ dx := fun z => by subst z; rw [upd_ne ne, upd_same] at hl; cases hl
      have hl1 : H1 l = none := by rw [upd_ne ly, upd_ne ldx] at hl; exact hl
      have old : ∀ b, H1 b ≠ none → H' b = H1 b := fun b hb => by
        have b1 : b ≠ y := fun z => by subst z; exact hb hy
        have b2 : b ≠ l := fun z => by subst z; exact hb hl1
        have b3 : b ≠ dx := fun z => by subst z; exact hb hdx
        rw [hk b b1 b2, upd_ne b1, upd_ne b3]
      have g3 : Grow Hb1 H1 Hb1 H' := ⟨Same.refl _, fun b o e => by rw [old b (some_ne e)]; exact e, fun b o e => by
        have := g1.same _ _ e
        rw [old b (some_ne this)]
        exact this, fun a e => .inl e⟩
      exact k _ Hb1 H' (g1.trans g3) ⟨y, dx, l, [], rfl, g1.h.free hy, g1.same.free hy, g1.h.free hl1, g1.same.free hl1, hp, hq, Reps.nil⟩

/-! ### y = [e for x in xs], e raising at times -/
def onL (a : List D) : List D ⊕ Ex → List D ⊕ Ex
  | .inl l => .inl (a ++ l)
  | .inr x => .inr x
def lcGoX (step : D → Option Rs) : List D → Option (List D ⊕ Ex)
  | [] => some (.inl [])
  | d :: ds => (step d).bind fun r => match r with
    | .inr x => some (.inr x)
    | .inl (.val y) => (lcGoX step ds).map (onL [y])
    | .inl _ => none
def lcR : List D ⊕ Ex → Rs
  | .inl l => .inl (.own .loc l)
  | .inr x => .inr x
def vLcX (vs : List Nat) (f : VL) (gt : TgF) (e : En → Option Rs) : En → Option Rs := fun Γ => (f Γ).bind fun ds => if fewD ds = true then (lcGoX (fun d => (gt d (wipeE Γ vs)).bind e) ds).map lcR else none
theorem lcx_read {vs : List Nat} {f : VL} {tgt : TG} {gt : TgF} {e : En → Option Rs} {σ : SS} {H : Hp} {Q : VK} (blind : ∀ c d σ1 σ2 J, W c d σ1 J → W c d σ2 J) (ht : TgOk g tgt gt vs) (tgLen : ∀ {d Γ Γ1}, gt d Γ = some Γ1 → Γ1.length = Γ.length) (h : eX g W (vLcX vs f gt e) σ H Q) :
    tLc (eI g KpG f) tgt tYes (eX g W e) vs σ H Q := by
  obtain ⟨Γ, Hb, ow, r, ef, S, k⟩ := h
  obtain ⟨ds, e1, ef⟩ := Option.bind_eq_some_iff.mp ef
  split at ef
  · rename_i hf
    have hf := of_decide_eq_true hf
    obtain ⟨out, e2, rfl⟩ := Option.map_eq_some_iff.mp ef
    refine ⟨Γ, Hb, ow, ds, e1, S, fun J Hb1 H1 St g1 wk st kp D hD => ?_⟩
    refine ⟨fun i m H' => m = ds.length - i ∧ i ≤ ds.length ∧ ∃ Hb' acc oacc rest, Grow Hb1 H1 Hb' H' ∧ Hb' D = none ∧ H' D = some (.lst acc) ∧ Reps g.K Hb' acc oacc ∧ acc.length ≤ i ∧ lcGoX (fun d => (gt d (wipeE Γ vs)).bind e) (ds.drop i) = some rest ∧ out = onL oacc rest,
      ⟨_, rfl, Nat.zero_le _, Hb1, [], [], out, (Grow.refl g1.same).setD hD (g1.same.free hD), g1.same.free hD, upd_same, Reps.nil, Nat.le_refl _, e2, by cases out <;> rfl⟩, ?_⟩
    rintro i m H' ⟨rfl, hi, Hb', acc, oacc, rest, gr, hbD, hHD, ra, hla, er, eo⟩
    have st' : St Hb' H' := kp _ _ _ _ st gr
    obtain ⟨w1, w2⟩ := wk i Hb' H' gr.same st'
    by_cases hlt : i < ds.length
    · obtain ⟨go, yl⟩ := w1 (ds[i]) (by simp [hlt])
      rw [List.drop_eq_getElem_cons hlt] at er
      obtain ⟨o, e3, er⟩ := Option.bind_eq_some_iff.mp er
      obtain ⟨Γ1, e5, e7⟩ := Option.bind_eq_some_iff.mp e3
      refine .inr ⟨go, fun H'' => ∃ Hb'' acc' oacc' rest', Grow Hb1 H1 Hb'' H'' ∧ Hb'' D = none ∧ H'' D = some (.lst acc') ∧ Reps g.K Hb'' acc' oacc' ∧ acc'.length ≤ i + 1 ∧ lcGoX (fun d => (gt d (wipeE Γ vs)).bind e) (ds.drop (i + 1)) = some rest' ∧ out = onL oacc' rest',
        fun H'' q => ⟨ds.length - (i + 1), by omega, rfl, hlt, q⟩, fun x Hx y => ?_⟩
      obtain ⟨Hb2, g2, r2⟩ := yl x Hx y
      have S2 := ((S.grow g1).grow (gr.trans g2)).wiped vs
      refine ht _ _ Γ1 x _ Hb2 Hx ow _ e5 S2 r2 fun σ1 ow1 S3 same1 _ _ => ⟨?_, ?_⟩
      · refine Eq.trans (wipe_ext (σ := wipe σ vs) (by rw [← S3.len, ← S2.len]; exact tgLen e5) fun j hj => (same1 j hj).1) ?_
        exact wipe_ext (by rw [wipe_length]) fun j hj => wipe_get hj
      · unfold tYes
        refine iteT ⟨Γ1, Hb2, ow1, o, e7, S3, ?_⟩
        have HD2 : Hx D = some (.lst acc) := g2.h _ _ hHD
        have hbD2 : Hb2 D = none := g2.keepNone hbD (some_ne hHD)
        cases o with
        | inr xx =>
          cases er
          subst eo
          exact fun Hb4 H4 g4 => blind _ _ _ _ _ (k Hb4 H4 ((g1.trans (gr.trans g2)).trans g4))
        | inl sl =>
          obtain ⟨y', rfl⟩ : ∃ y' : Z.D, sl = .val y' := by
            cases sl with
            | val d => exact ⟨d, rfl⟩
            | _ => cases er
          obtain ⟨r', e8, er⟩ := Option.map_eq_some_iff.mp (show (lcGoX (fun d => (gt d (wipeE Γ vs)).bind e) (ds.drop (i + 1))).map (onL [y']) = some rest by rw [← er])
          intro v Hb4 H4 g4 r4
          have r4 : Rep g.K Hb4 v y' := r4
          have HD4 := g4.h _ _ HD2
          have hbD4 := g4.keepNone hbD2 (some_ne HD2)
          refine ⟨acc, HD4, lt_line (by omega), Hb4, acc ++ [v], oacc ++ [y'], r', ((gr.trans g2).trans g4).setD hD hbD4, hbD4, upd_same, ((ra.same g2.hb).same g4.hb).append (Reps.one r4), by rw [List.length_append, List.length_singleton]; omega, e8, ?_⟩
          rw [eo, ← er]
          cases r' with
          | inl l => show Sum.inl _ = Sum.inl _; simp
          | inr x => rfl
    · have : i = ds.length := by omega
      subst this
      rw [List.drop_length] at er
      cases er
      refine .inl ⟨w2 (by simp), ?_⟩
      have eo : out = .inl (oacc ++ []) := eo
      rw [List.append_nil] at eo
      subst eo
      exact k _ Hb' H' (g1.trans gr) ⟨D, acc, rfl, g1.h.free hD, hbD, hHD, ra⟩
  · cases ef
theorem s_asgLcX {i : Nat} {vs : List Nat} {f : VL} {tgt : TG} {gt : TgF} {e : En → Option Rs} (blind : ∀ c d σ1 σ2 J, W c d σ1 J → W c d σ2 J) (ht : TgOk g tgt gt vs) (tl : ∀ {d Γ Γ1}, gt d Γ = some Γ1 → Γ1.length = Γ.length) (h : PS X st (tAsg (tLc (eI g KpG f) tgt tYes (eX g W e) vs) (gName i))) :
    PS X st (sV g W (asgX i (vLcX vs f gt e))) := s_asgX (PS_mono h fun De σ H q => lcx_read blind ht tl q)
/-! ### slices of texts -/
def vCutS (f : VF) (a b : En → Option (Option Int)) : VF := fun Γ => (f Γ).bind fun d => (a Γ).bind fun i => (b Γ).bind fun j => match d with
  | .str z => if decide (z.length ≤ 1000000) = true then some (.str (cutS z i j)) else none
  | _ => none
theorem ev_cutS {f : VF} {a b : En → Option (Option Int)} (h : PE X c (tSl rSlS (eV g f) (oN g a) (oN g b))) : PE X c (eV g (vCutS f a b)) := PE_mono h fun σ H Q ⟨Γ, Hb, ow, x, ef, S, k⟩ => by
  obtain ⟨d, e1, ef⟩ := Option.bind_eq_some_iff.mp ef
  obtain ⟨i, e2, ef⟩ := Option.bind_eq_some_iff.mp ef
  obtain ⟨j, e3, ef⟩ := Option.bind_eq_some_iff.mp ef
  refine ⟨Γ, Hb, ow, d, e1, S, fun v Hb1 H1 g1 q1 => ⟨Γ, Hb1, ow, i, e2, S.grow g1, fun Hb2 H2 g2 => ⟨Γ, Hb2, ow, j, e3, (S.grow g1).grow g2, fun Hb3 H3 g3 => ?_⟩⟩⟩
  cases d with
  | str z =>
    simp only at ef
    split at ef
    · rename_i hz
      cases ef
      exact ⟨z, rep_str.mp q1, le_line (of_decide_eq_true hz), k _ Hb3 H3 ((g1.trans g2).trans g3) (rep_str.mpr rfl)⟩
    · cases ef
  | _ => cases ef
end
end Z

set_option maxRecDepth 100000
namespace Z
open PySem PySem.Spec PyProof.Rows L2 TL

/-! ### numbers read or refused -/
abbrev FIG : Str := "0123456789"
def digs (z : Str) : Bool := z.cps.toList.all fun c => decide (c ∈ FIG.cps.toList)
def numOf (z : Str) : Option Nat := if z ≠ "" ∧ z.length ≤ 2 ∧ digs z = true ∧ firstOk z = true then (PySem.intText? z).map Int.toNat else none
def intOk (z : Str) : Bool := match PySem.intText? z with
  | some n => decide (0 ≤ n)
  | none => false
def headOk (z : Str) : Bool := match fIx (.str z) (.int 0) with
  | some (.str _) => true
  | _ => false
theorem one_ok : ∀ c ∈ FIG.cps.toList, intOk ⟨#[c]⟩ = true ∧ headOk ⟨#[c]⟩ = true := by decide +kernel
theorem two_ok : ∀ c ∈ FIG.cps.toList, ∀ d ∈ FIG.cps.toList, intOk ⟨#[c, d]⟩ = true ∧ headOk ⟨#[c, d]⟩ = true := by decide +kernel
theorem nil_str {z : Str} (h : z.cps.toList = []) : z = "" := ext_tl (by show z.cps.toList = _; rw [h, lit_facts.2.2.1])
theorem digs_ok {z : Str} (h0 : z ≠ "") (h2 : z.length ≤ 2) (hd : digs z = true) : intOk z = true ∧ headOk z = true := by
  obtain ⟨⟨l⟩⟩ := z
  have hd : ∀ c ∈ l, c ∈ FIG.cps.toList := fun c hc => of_decide_eq_true (List.all_eq_true.mp hd c hc)
  have h2 : l.length ≤ 2 := h2
  match l, h0, h2, hd with
  | [], h0, _, _ => exact absurd (nil_str rfl) h0
  | [c], _, _, hd => exact one_ok c (hd c (by simp))
  | [c, d], _, _, hd => exact two_ok c (hd c (by simp)) d (hd d (by simp))
  | _ :: _ :: _ :: _, _, h2, _ => simp at h2
theorem num_some {z : Str} {k : Nat} (h : numOf z = some k) : (z ≠ "" ∧ z.length ≤ 2 ∧ digs z = true ∧ firstOk z = true) ∧ PySem.intText? z = some (k : Int) := by
  unfold numOf at h
  split at h
  · rename_i hc
    refine ⟨hc, ?_⟩
    obtain ⟨n, e, rfl⟩ := Option.map_eq_some_iff.mp h
    have := (digs_ok hc.1 hc.2.1 hc.2.2.1).1
    unfold intOk at this
    rw [e] at this ⊢
    have := of_decide_eq_true this
    rw [Int.toNat_of_nonneg this]
  · cases h
theorem num_none {z : Str} (h0 : z ≠ "") (h2 : z.length ≤ 2) (hd : digs z = true) (hf : firstOk z = true) : ∃ k, numOf z = some k := by
  have := (digs_ok h0 h2 hd).1
  unfold intOk at this
  unfold numOf
  rw [if_pos ⟨h0, h2, hd, hf⟩]
  split at this
  · rename_i n e
    rw [e]
    exact ⟨_, rfl⟩
  · cases this
theorem first_at {z : Str} (h0 : z ≠ "") (h2 : z.length ≤ 2) (hd : digs z = true) : ∃ y, fIx (.str z) (.int 0) = some (.str y) ∧ firstOk z = !(decide (y = "0") && decide ((1 : Int) < z.length)) := by
  have h1 := (digs_ok h0 h2 hd).2
  unfold headOk at h1
  split at h1
  · rename_i y e
    refine ⟨y, e, ?_⟩
    unfold firstOk
    rw [e]
  · cases h1
/-- the common walk of number_of and _law_number -/
theorem sign_in {c : Nat} : v2 (fInS true) (vVar 1) (vC (.str "0123456789")) = v2 (fInS true) (vVar 1) (vC (.str FIG)) := rfl
def numR (z : Str) : Rs := match numOf z with
  | some k => .inl (.val (.int (k : Int)))
  | none => .inr .net
def F_number_of_k14 : FN
  | [.val (.str z)] => if z.length ≤ 900000 then some (numR z) else none
  | _ => none
theorem F_numOf {z : Str} (h : z.length ≤ 900000) : F_number_of_k14 [.val (.str z)] = some (numR z) := if_pos h
/-- number_of: 0 word 1 sign -/
def t_number_of_k14 : VT := (seqT (ifT (bOr (bV (v2 fEq (vVar 0) (vC (.str "")))) (bV (v2 fGt (v1 fLen (vVar 0)) (vC (.int 2))))) (seqT (raiseT .net) skipT) skipT) (seqT (forT (lStr (vVar 0)) (gN 1) (seqT (ifT (bV (v2 (fInS true) (vVar 1) (vC (.str "0123456789")))) (seqT (raiseT .net) skipT) skipT) skipT)) (seqT (ifT (bAnd (bV (v2 fEq (v2 fIx (vVar 0) (vC (.int 0))) (vC (.str "0")))) (bV (v2 fGt (v1 fLen (vVar 0)) (vC (.int 1))))) (seqT (raiseT .net) skipT) skipT) (seqT (retV (v1 fIntS (vVar 0))) skipT))))
theorem v_number_of_k14 : ∀ ss r, ss.length = 1 → F_number_of_k14 ss = some r → t_number_of_k14 (postP r) (En0 ss 2) := by
  intro ss r hl h
  unfold F_number_of_k14 at h
  split at h
  · rename_i z
    split at h
    · rename_i hz
      have h1 := Option.some.inj h
      clear h
      subst h1
      refine if_d (p := z = "" ∨ (2 : Int) < z.length) (bOr_d (bVe (v2e rfl rfl rfl)) fun _ => bVe (v2e (v1e rfl (fLen_str (by omega))) rfl rfl)) (fun c => ?_) (fun c => ?_)
      · have : numR z = .inr .net := by
          unfold numR numOf
          rw [if_neg (fun q => by rcases c with c | c; exact q.1 c; have := q.2.1; omega)]
        rw [this]
        exact rfl
      have h0 : z ≠ "" := fun q => c (.inl q)
      have h2 : z.length ≤ 2 := Decidable.byContradiction fun q => c (.inr (by omega))
      refine ⟨z.cps.toList.map fun c => .str ⟨#[c]⟩, rfl, ?_⟩
      have test : ∀ {c : Nat}, bV (v2 (fInS true) (vVar 1) (vC (.str "0123456789"))) [some (.val (.str z)), some (.val (.str ⟨#[c]⟩))] = some (decide (¬ (c ∈ FIG.cps.toList))) := fun {c} => bVe (v2e (x := .str ⟨#[c]⟩) (y := .str "0123456789") rfl rfl (by
        show some (D.bl (!decide (c ∈ ("0123456789" : Str).cps.toList))) = _
        simp))
      by_cases hd : digs z = true
      · refine loopT_inv (enc := fun c => .str ⟨#[c]⟩) (fun rest Γ => ∃ v1 : Option Sl, (∀ c ∈ rest, c ∈ z.cps.toList) ∧ Γ = [some (.val (.str z)), v1]) ?_ ?_ _ _ ⟨none, fun c h => h, rfl⟩
        · rintro c rest Γ kk ⟨v1, hr, rfl⟩ hk'
          refine ⟨_, rfl, ?_⟩
          have hc := of_decide_eq_true (List.all_eq_true.mp hd c (hr c (by simp)))
          refine if_f (dec_f (fun q => q hc) test) ?_
          exact hk' _ ⟨_, fun a ha => hr a (List.mem_cons_of_mem _ ha), rfl⟩
        · rintro Γ ⟨v1, _, rfl⟩
          obtain ⟨y, e2, e3⟩ := first_at h0 h2 hd
          refine if_d (p := y = "0" ∧ (1 : Int) < z.length) (bAnd_d (bVe (v2e (x := .str y) (y := .str "0") (v2e rfl rfl e2) rfl rfl)) fun _ => bVe (v2e (v1e rfl (fLen_str (by omega))) rfl rfl)) (fun c => ?_) (fun c => ?_)
          · have : numR z = .inr .net := by
              unfold numR numOf
              rw [if_neg (fun q => by
                have q4 := q.2.2.2
                rw [e3, decide_eq_true c.1, decide_eq_true c.2] at q4
                cases q4)]
            rw [this]
            exact rfl
          · have hf : firstOk z = true := by
              rw [e3]
              by_cases c1 : y = "0"
              · have c2 : ¬ ((1 : Int) < z.length) := fun q => c ⟨c1, q⟩
                rw [decide_eq_false c2]
                simp
              · rw [decide_eq_false c1]
                simp
            obtain ⟨k, ek⟩ := num_none h0 h2 hd hf
            have e4 := (num_some ek).2
            refine ⟨.int (k : Int), v1e rfl ?_, ?_⟩
            · show (if _ then _ else _) = _
              rw [if_pos (decide_eq_true (by omega)), e4]
              rfl
            · show numR z = _
              unfold numR
              rw [ek]
      · have : numR z = .inr .net := by
          unfold numR numOf
          rw [if_neg (fun q => hd q.2.2.1)]
        rw [this]
        have hex : ∃ c ∈ z.cps.toList, ¬ c ∈ FIG.cps.toList := by
          refine Decidable.byContradiction fun q => hd (List.all_eq_true.mpr fun c hc => decide_eq_true (Decidable.byContradiction fun q2 => q ⟨c, hc, q2⟩))
        refine loopT_inv (enc := fun c => .str ⟨#[c]⟩) (fun rest Γ => ∃ v1 : Option Sl, (∃ c ∈ rest, ¬ c ∈ FIG.cps.toList) ∧ Γ = [some (.val (.str z)), v1]) ?_ ?_ _ _ ⟨none, hex, rfl⟩
        · rintro c rest Γ kk ⟨v1, hr, rfl⟩ hk'
          refine ⟨_, rfl, ?_⟩
          refine if_d test (fun _ => rfl) (fun q => hk' _ ⟨_, ?_, rfl⟩)
          obtain ⟨d, hd1, hd2⟩ := hr
          rcases List.mem_cons.mp hd1 with rfl | hd1
          · exact absurd hd2 q
          · exact ⟨d, hd1, hd2⟩
        · rintro Γ ⟨v1, ⟨c, hc, _⟩, rfl⟩
          cases hc
    · cases h
  · cases h
end Z

set_option maxRecDepth 100000
namespace Z
open PySem PySem.Spec PyProof.Rows L2 TL

/-! ### parts of a text -/
theorem spl_part (c : Nat) : ∀ (l acc : List Nat), ∀ w ∈ spl [c] 0 acc l, w.length ≤ acc.length + l.length
  | [], acc, w, h => by
    rw [spl_nil] at h
    simp at h
    subst h
    simp
  | d :: l, acc, w, h => by
    cases hp : pre [c] (d :: l) with
    | true =>
      rw [spl_hit hp] at h
      rcases List.mem_cons.mp h with rfl | h
      · omega
      · have := spl_part c l [] w h
        simp only [List.length_nil, List.length_cons] at this ⊢
        omega
    | false =>
      rw [spl_miss hp] at h
      have := spl_part c l (acc ++ [d]) w h
      simp only [List.length_append, List.length_cons, List.length_nil] at this ⊢
      omega
theorem split_part {z y w : Str} {c : Nat} (hy : tl y = [c]) (hk : y.cps.all (· < 256) = true) (h : w ∈ Txt.split z y) : w.length ≤ z.length := by
  have e := split_spl z y (by rw [hy]; simp) (kind_ok hk)
  rw [hy] at e
  have hm : tl w ∈ spl [c] 0 [] (tl z) := by rw [← e]; exact List.mem_map.mpr ⟨w, h, rfl⟩
  have := spl_part c (tl z) [] (tl w) hm
  rw [len_tl, len_tl z]
  simpa using this
theorem split_sp {z w : Str} (h : w ∈ Txt.split z " ") : w.length ≤ z.length := split_part lit_facts.2.1 lit_facts.2.2.2.2.1 h
theorem split_nl {z w : Str} (h : w ∈ Txt.split z "\n") : w.length ≤ z.length := split_part lit_facts.1 lit_facts.2.2.2.1 h

/-! ### the law's own number -/
def numI (z : Str) : Int := match numOf z with
  | some k => (k : Int)
  | none => -1
theorem numI_some {z : Str} {k : Nat} (h : numOf z = some k) : numI z = (k : Int) := by unfold numI; rw [h]
theorem numI_none {z : Str} (h : numOf z = none) : numI z = -1 := by unfold numI; rw [h]
def F_law_number : FN
  | [.val (.str z)] => if z.length ≤ 900000 then some (.inl (.val (.int (numI z)))) else none
  | _ => none
theorem F_lawNumber {z : Str} (h : z.length ≤ 900000) : F_law_number [.val (.str z)] = some (.inl (.val (.int (numI z)))) := if_pos h
/-- _law_number: 0 word 1 sign -/
def t_law_number : VT := (seqT (ifT (bOr (bV (v2 fLt (v1 fLen (vVar 0)) (vC (.int 1)))) (bV (v2 fGt (v1 fLen (vVar 0)) (vC (.int 2))))) (seqT (retV (v1 fNeg (vC (.int 1)))) skipT) skipT) (seqT (forT (lStr (vVar 0)) (gN 1) (seqT (ifT (bV (v2 (fInS true) (vVar 1) (vC (.str "0123456789")))) (seqT (retV (v1 fNeg (vC (.int 1)))) skipT) skipT) skipT)) (seqT (ifT (bAnd (bV (v2 fEq (v2 fIx (vVar 0) (vC (.int 0))) (vC (.str "0")))) (bV (v2 fGt (v1 fLen (vVar 0)) (vC (.int 1))))) (seqT (retV (v1 fNeg (vC (.int 1)))) skipT) skipT) (seqT (retV (v1 fIntS (vVar 0))) skipT))))
theorem v_law_number : ∀ ss r, ss.length = 1 → F_law_number ss = some r → t_law_number (postP r) (En0 ss 2) ∧ ∃ s, r = .inl s := by
  intro ss r hl h
  unfold F_law_number at h
  split at h
  · rename_i z
    split at h
    · rename_i hz
      have h1 := Option.some.inj h
      clear h
      subst h1
      refine ⟨?_, _, rfl⟩
      have no : ∀ {Q : Out → Prop} {Γ : En}, numOf z = none → Q (.rt (.val (.int (numI z))) Γ) → Q (.rt (.val (.int (-1))) Γ) := fun {Q Γ} e q => by rw [numI_none e] at q; exact q
      refine if_d (p := (z.length : Int) < 1 ∨ (2 : Int) < z.length) (bOr_d (bVe (v2e (v1e rfl (fLen_str (by omega))) rfl rfl)) fun _ => bVe (v2e (v1e rfl (fLen_str (by omega))) rfl rfl)) (fun c => ?_) (fun c => ?_)
      · refine ⟨_, rfl, no ?_ rfl⟩
        unfold numOf
        rw [if_neg (fun q => ?_)]
        rcases c with c | c
        · refine q.1 (nil_str ?_)
          have : z.cps.toList.length = 0 := by rw [← show z.length = z.cps.toList.length from len_tl z]; omega
          exact List.length_eq_zero_iff.mp this
        · have := q.2.1
          omega
      have h0 : z ≠ "" := fun q => by
        have e := lit_facts.2.2.1
        rw [← q] at e
        have e2 := len_tl z
        rw [e] at e2
        have : z.length = 0 := e2
        exact c (.inl (by omega))
      have h2 : z.length ≤ 2 := Decidable.byContradiction fun q => c (.inr (by omega))
      refine ⟨z.cps.toList.map fun c => .str ⟨#[c]⟩, rfl, ?_⟩
      have test : ∀ {c : Nat}, bV (v2 (fInS true) (vVar 1) (vC (.str "0123456789"))) [some (.val (.str z)), some (.val (.str ⟨#[c]⟩))] = some (decide (¬ (c ∈ FIG.cps.toList))) := fun {c} => bVe (v2e (x := .str ⟨#[c]⟩) (y := .str "0123456789") rfl rfl (by
        show some (D.bl (!decide (c ∈ ("0123456789" : Str).cps.toList))) = _
        simp))
      by_cases hd : digs z = true
      · refine loopT_inv (enc := fun c => .str ⟨#[c]⟩) (fun rest Γ => ∃ v1 : Option Sl, (∀ c ∈ rest, c ∈ z.cps.toList) ∧ Γ = [some (.val (.str z)), v1]) ?_ ?_ _ _ ⟨none, fun c h => h, rfl⟩
        · rintro c rest Γ kk ⟨v1, hr, rfl⟩ hk'
          refine ⟨_, rfl, ?_⟩
          have hc := of_decide_eq_true (List.all_eq_true.mp hd c (hr c (by simp)))
          refine if_f (dec_f (fun q => q hc) test) ?_
          exact hk' _ ⟨_, fun a ha => hr a (List.mem_cons_of_mem _ ha), rfl⟩
        · rintro Γ ⟨v1, _, rfl⟩
          obtain ⟨y, e2, e3⟩ := first_at h0 h2 hd
          refine if_d (p := y = "0" ∧ (1 : Int) < z.length) (bAnd_d (bVe (v2e (x := .str y) (y := .str "0") (v2e rfl rfl e2) rfl rfl)) fun _ => bVe (v2e (v1e rfl (fLen_str (by omega))) rfl rfl)) (fun c => ?_) (fun c => ?_)
          · refine ⟨_, rfl, no ?_ rfl⟩
            unfold numOf
            rw [if_neg (fun q => by
              have q4 := q.2.2.2
              rw [e3, decide_eq_true c.1, decide_eq_true c.2] at q4
              cases q4)]
          · have hf : firstOk z = true := by
              rw [e3]
              by_cases c1 : y = "0"
              · have c2 : ¬ ((1 : Int) < z.length) := fun q => c ⟨c1, q⟩
                rw [decide_eq_false c2]
                simp
              · rw [decide_eq_false c1]
                simp
            obtain ⟨k, ek⟩ := num_none h0 h2 hd hf
            have e4 := (num_some ek).2
            refine ⟨.int (k : Int), v1e rfl ?_, ?_⟩
            · show (if _ then _ else _) = _
              rw [if_pos (decide_eq_true (by omega)), e4]
              rfl
            · show Sum.inl (Sl.val (.int (numI z))) = _
              rw [numI_some ek]
      · have hn : numOf z = none := by
          unfold numOf
          rw [if_neg (fun q => hd q.2.2.1)]
        have hex : ∃ c ∈ z.cps.toList, ¬ c ∈ FIG.cps.toList := by
          refine Decidable.byContradiction fun q => hd (List.all_eq_true.mpr fun c hc => decide_eq_true (Decidable.byContradiction fun q2 => q ⟨c, hc, q2⟩))
        refine loopT_inv (enc := fun c => .str ⟨#[c]⟩) (fun rest Γ => ∃ v1 : Option Sl, (∃ c ∈ rest, ¬ c ∈ FIG.cps.toList) ∧ Γ = [some (.val (.str z)), v1]) ?_ ?_ _ _ ⟨none, hex, rfl⟩
        · rintro c rest Γ kk ⟨v1, hr, rfl⟩ hk'
          refine ⟨_, rfl, ?_⟩
          refine if_d test (fun _ => ⟨_, rfl, no hn rfl⟩) (fun q => hk' _ ⟨_, ?_, rfl⟩)
          obtain ⟨d, hd1, hd2⟩ := hr
          rcases List.mem_cons.mp hd1 with rfl | hd1
          · exact absurd hd2 q
          · exact ⟨d, hd1, hd2⟩
        · rintro Γ ⟨v1, ⟨c, hc, _⟩, rfl⟩
          cases hc
    · cases h
  · cases h

/-! ### a line -/
def parseL (z : Str) : Option P3 := match Txt.split z " " with
  | [w, a, b] => if w = "pipe" ∨ w = "shut" then (numOf a).bind fun i => (numOf b).map fun j => (i, j, decide (w = "pipe")) else none
  | _ => none
theorem parse_len {z : Str} (h : (Txt.split z " ").length ≠ 3) : parseL z = none := by
  unfold parseL
  split
  · rename_i e
    rw [e] at h
    exact absurd rfl h
  · rfl
theorem parse3 {z w a b : Str} (h : Txt.split z " " = [w, a, b]) : parseL z = if w = "pipe" ∨ w = "shut" then (numOf a).bind fun i => (numOf b).map fun j => (i, j, decide (w = "pipe")) else none := by
  unfold parseL
  rw [h]
def layX (n : Nat) (ps : List P3) (p : P3) : Option Ex := if n ≤ p.1 then some .place else if n ≤ p.2.1 then some .place else if p.1 = p.2.1 then some .same else if 60 ≤ ps.length then some .much else none
theorem layX_none {n : Nat} {ps : List P3} {p : P3} (h : layX n ps p = none) : okP n p ∧ ps.length < 60 := by
  unfold layX at h
  split at h
  · cases h
  · split at h
    · cases h
    · split at h
      · cases h
      · split at h
        · cases h
        · exact ⟨⟨by omega, by omega, by assumption⟩, by omega⟩
theorem layX_of {n : Nat} {ps : List P3} {p : P3} (h : okP n p) (h2 : ps.length < 60) : layX n ps p = none := by
  obtain ⟨a, b, c⟩ := h
  unfold layX
  rw [if_neg (by omega), if_neg (by omega), if_neg c, if_neg (by omega)]
theorem lay_no {n : Nat} {ps : List P3} {p : P3} {x : Ex} (h : layX n ps p = some x) : G_lay [.net .mut (n : Int) (dPs ps), .val (.int (p.1 : Int)), .val (.int (p.2.1 : Int))] = some (.inr x, [.net .mut (n : Int) (dPs ps), .val (.int (p.1 : Int)), .val (.int (p.2.1 : Int))]) := by
  have e : layPs (n : Int) (dPs ps) (p.1 : Int) (p.2.1 : Int) = .inl x := by
    unfold layX at h
    unfold layPs
    split at h
    · cases h
      rw [if_pos (by omega)]
    · rw [if_neg (by omega)]
      split at h
      · cases h
        rw [if_pos (by omega)]
      · rw [if_neg (by omega)]
        split at h
        · cases h
          rw [if_pos (by omega)]
        · rw [if_neg (by omega)]
          split at h
          · cases h
            rw [if_pos (by rw [dPs_len]; omega)]
          · cases h
  unfold G_lay
  simp only [e]
def lineR (n : Nat) (ps : List P3) (z : Str) : Rs × List P3 := match parseL z with
  | none => (.inr .net, ps)
  | some p => match layX n ps p with
    | some x => (.inr x, ps)
    | none => (.inl (.val .non), ps ++ [p])
theorem okNet_snoc {n : Nat} {ps : List P3} {p : P3} (h : okNet n ps) (hp : okP n p) (hl : ps.length < 60) : okNet n (ps ++ [p]) := ⟨h.1, h.2.1, okPs_iff.mpr fun q hq => by
  rcases List.mem_append.mp hq with z | z
  · exact h.pip q z
  · simp at z
    subst z
    exact hp, by rw [List.length_append, List.length_singleton]; omega⟩
theorem lineR_ok {n : Nat} {ps : List P3} {z : Str} (h : okNet n ps) : okNet n (lineR n ps z).2 := by
  unfold lineR
  split
  · exact h
  · rename_i p _
    split
    · exact h
    · rename_i e
      obtain ⟨a, b⟩ := layX_none e
      exact okNet_snoc h a b
def G_lay_line_k14 : FM
  | [.net .mut s ds, .val (.str z)] => (unNet s ds).bind fun x => if z.length ≤ 900000 then some ((lineR x.1 x.2 z).1, [.net .mut s (dPs (lineR x.1 x.2 z).2), .val (.str z)]) else none
  | _ => none
theorem G_layLine14 {n : Nat} {ps : List P3} {z : Str} (h : okNet n ps) (hz : z.length ≤ 900000) : G_lay_line_k14 [.net .mut (n : Int) (dPs ps), .val (.str z)] = some ((lineR n ps z).1, [.net .mut (n : Int) (dPs (lineR n ps z).2), .val (.str z)]) := by
  show (unNet _ _).bind _ = _
  rw [unNet_of h, Option.bind_some]
  exact ite_some hz
theorem fInT_ps (w : Str) : fInT true (.str w) (.tup [.str "pipe", .str "shut"]) = some (.bl (decide (¬ (w = "pipe" ∨ w = "shut")))) := by
  have h1 : ∀ y : Str, eqF (.str y) (.str w) = decide (w = y) := fun y => by
    show (y == w) = _
    by_cases c : w = y
    · subst c; simp
    · rw [decide_eq_false c, beq_eq_false_iff_ne]
      exact fun q => c q.symm
  show (some [D.str "pipe", .str "shut"]).bind (fIn true (.str w)) = _
  rw [Option.bind_some]
  show some (D.bl (!(eqF (.str "pipe") (.str w) || (eqF (.str "shut") (.str w) || false)))) = _
  rw [h1, h1]
  by_cases c1 : w = "pipe"
  · simp [c1]
  · by_cases c2 : w = "shut"
    · simp [c2]
    · simp [c1, c2]
theorem goX1 {step : D → Option Rs} {x y : D} {q : Ex} (e : step x = some (.inr q)) : lcGoX step [x, y] = some (.inr q) := by
  unfold lcGoX
  rw [e]
  rfl
theorem goX2 {step : D → Option Rs} {x y u : D} {q : Ex} (e : step x = some (.inl (.val u))) (e2 : step y = some (.inr q)) : lcGoX step [x, y] = some (.inr q) := by
  unfold lcGoX
  rw [e]
  show (lcGoX step [y]).map (onL [u]) = _
  unfold lcGoX
  rw [e2]
  rfl
theorem goX3 {step : D → Option Rs} {x y u v : D} (e : step x = some (.inl (.val u))) (e2 : step y = some (.inl (.val v))) : lcGoX step [x, y] = some (.inl [u, v]) := by
  unfold lcGoX
  rw [e]
  show (lcGoX step [y]).map (onL [u]) = _
  unfold lcGoX
  rw [e2]
  rfl
theorem vlcx {vs : List Nat} {f : VL} {gt : TgF} {e : En → Option Rs} {Γ : En} {ds : List D} {o : List D ⊕ Ex} (h1 : f Γ = some ds) (hl : fewD ds = true) (h2 : lcGoX (fun d => (gt d (wipeE Γ vs)).bind e) ds = some o) : vLcX vs f gt e Γ = some (lcR o) := by
  unfold vLcX
  rw [h1, Option.bind_some, if_pos hl, h2]
  rfl
theorem bOr_t {f h : VB} {Γ : En} (e : f Γ = some true) : bOr f h Γ = some true := by unfold bOr; rw [e]; rfl
/-- lay_line: 0 net 1 line 2 words 3 numbers 4 pipe 5 word -/
def t_lay_line_k14 : VT := (seqT (asgV 2 (v1 slD (v2 fSplit (vVar 1) (vC (.str " "))))) (seqT (ifT (bOr (bV (v2 fNe (v1 fLenL (lVar 2)) (vC (.int 3)))) (bV (v2 (fInT true) (v2 fIx (vVar 2) (vC (.int 0))) (vTup (aCons (vC (.str "pipe")) (aCons (vC (.str "shut")) aNil)))))) (seqT (raiseT .net) skipT) skipT) (seqT (asgX 3 (vLcX [5] (v1 slL (vCut cutL (lVar 2) (pI (vC (.int 1))) pN)) (gN 5) (xCall 1 F_number_of_k14 (rV (vVar 5) rNil)))) (seqT (nmT (some 4) 3 G_lay 0 (rV (v2 fIxL (lVar 3) (vC (.int 0))) (rV (v2 fIxL (lVar 3) (vC (.int 1))) rNil))) (seqT (ifT (bV (v2 fEq (v2 fIx (vVar 2) (vC (.int 0))) (vC (.str "shut")))) (seqT (nmT none 2 G_shut 0 (rV (vVar 4) rNil)) skipT) skipT) skipT)))))
theorem v_lay_line_k14 : ∀ ss r ss', ss.length = 2 → G_lay_line_k14 ss = some (r, ss') → t_lay_line_k14 (postM r ss ss') (En0 ss 6) := by
  intro ss r ss' hl h
  unfold G_lay_line_k14 at h
  split at h
  · rename_i s ds z
    obtain ⟨x, e1, h1⟩ := Option.bind_eq_some_iff.mp h
    clear h
    split at h1
    · rename_i hz
      have h2 := Option.some.inj h1
      clear h1
      obtain ⟨rfl, rfl, hn⟩ := unNet_some e1
      clear e1
      obtain ⟨n, ps⟩ := x
      simp only at h2 hn ⊢
      obtain ⟨h3, h4⟩ := Prod.mk.inj h2
      clear h2
      subst h3 h4
      refine ⟨.lst ((Txt.split z " ").map .str), v1e (v2e rfl rfl (fSplit_ok (by decide +kernel) hz)) rfl, ?_⟩
      have lenE : ∀ {Γ : En}, Γ[2]? = some (some (.val (.lst ((Txt.split z " ").map .str)))) → v1 fLenL (lVar 2) Γ = some (.int ((Txt.split z " ").length : Int)) := fun {Γ} e => by
        refine v1e (x := (Txt.split z " ").map D.str) (by unfold lVar; rw [e]) ?_
        unfold fLenL
        rw [List.length_map]
      by_cases hw : (Txt.split z " ").length = 3
      · obtain ⟨w, a, b, hs⟩ : ∃ w a b, Txt.split z " " = [w, a, b] := by
          match hm : Txt.split z " ", hw with
          | [w, a, b], _ => exact ⟨w, a, b, rfl⟩
        have la : a.length ≤ 900000 := Nat.le_trans (split_sp (z := z) (by rw [hs]; simp)) hz
        have lb : b.length ≤ 900000 := Nat.le_trans (split_sp (z := z) (by rw [hs]; simp)) hz
        have hpar := parse3 hs
        clear lenE
        rw [hs]
        refine if_d (p := ((3 : Int) ≠ 3) ∨ ¬ (w = "pipe" ∨ w = "shut")) (bOr_d (bVe (v2e (x := .int 3) rfl rfl rfl)) fun _ => bVe (v2e (x := .str w) rfl rfl (fInT_ps w))) (fun c => ?_) (fun c => ?_)
        · have c2 : ¬ (w = "pipe" ∨ w = "shut") := by rcases c with c | c; exact absurd rfl c; exact c
          have e : lineR n ps z = (.inr .net, ps) := by
            unfold lineR
            rw [hpar, if_neg c2]
          rw [e]
          exact ⟨rfl, .inl ⟨rfl, rfl⟩, .inr ⟨rfl, rfl⟩, trivial⟩
        have c2 : w = "pipe" ∨ w = "shut" := Decidable.byContradiction fun q => c (.inr q)
        rw [if_pos c2] at hpar
        have step : ∀ {y : Str}, y.length ≤ 900000 → (fun d => (gN 5 d (wipeE [some (.net .mut (n : Int) (dPs ps)), some (.val (.str z)), some (.val (.lst [.str w, .str a, .str b])), none, none, none] [5])).bind (xCall 1 F_number_of_k14 (rV (vVar 5) rNil))) (D.str y) = some (numR y) := fun {y} hy => by
          show xCall 1 F_number_of_k14 (rV (vVar 5) rNil) [some (.net .mut (n : Int) (dPs ps)), some (.val (.str z)), some (.val (.lst [.str w, .str a, .str b])), none, none, some (.val (.str y))] = _
          exact xc (rVe (d := .str y) rfl rfl) ⟨rfl, rfl⟩ rfl (F_numOf hy)
        cases ea : numOf a with
        | none =>
          have e : lineR n ps z = (.inr .net, ps) := by
            unfold lineR
            rw [hpar, ea]
            rfl
          rw [e]
          refine ⟨.inr .net, ?_, rfl, .inl ⟨rfl, rfl⟩, .inr ⟨rfl, rfl⟩, trivial⟩
          have s1 := step la
          have : numR a = .inr .net := by unfold numR; rw [ea]
          rw [this] at s1
          exact vlcx (ds := [D.str a, D.str b]) (o := .inr .net) rfl rfl (goX1 s1)
        | some i =>
          have r1 : numR a = .inl (.val (.int (i : Int))) := by unfold numR; rw [ea]
          have s1 := step la
          rw [r1] at s1
          cases eb : numOf b with
          | none =>
            have e : lineR n ps z = (.inr .net, ps) := by
              unfold lineR
              rw [hpar, ea, eb]
              rfl
            rw [e]
            refine ⟨.inr .net, ?_, rfl, .inl ⟨rfl, rfl⟩, .inr ⟨rfl, rfl⟩, trivial⟩
            have s2 := step lb
            have : numR b = .inr .net := by unfold numR; rw [eb]
            rw [this] at s2
            exact vlcx (ds := [D.str a, D.str b]) (o := .inr .net) rfl rfl (goX2 s1 s2)
          | some j =>
            have r2 : numR b = .inl (.val (.int (j : Int))) := by unfold numR; rw [eb]
            have s2 := step lb
            rw [r2] at s2
            refine ⟨.inl (.own .loc [dInt i, dInt j]), ?_, ?_⟩
            · exact vlcx (ds := [D.str a, D.str b]) (o := .inl [dInt i, dInt j]) rfl rfl (goX3 s1 s2)
            have hp : parseL z = some (i, j, decide (w = "pipe")) := by rw [hpar, ea, eb]; rfl
            cases ex : layX n ps (i, j, decide (w = "pipe")) with
            | some x =>
              have e : lineR n ps z = (.inr x, ps) := by
                unfold lineR
                rw [hp]
                simp only
                rw [ex]
              rw [e]
              refine ⟨rfl, _, _, _, _, rfl, ⟨rfl, rfl⟩, rfl, lay_no ex, ?_⟩
              exact ⟨rfl, .inl ⟨rfl, rfl⟩, .inr ⟨rfl, rfl⟩, trivial⟩
            | none =>
              obtain ⟨okp, h60⟩ := layX_none ex
              have e : lineR n ps z = (.inl (.val .non), ps ++ [(i, j, decide (w = "pipe"))]) := by
                unfold lineR
                rw [hp]
                simp only
                rw [ex]
              rw [e]
              refine ⟨rfl, _, _, _, _, rfl, ⟨rfl, rfl⟩, rfl, lay_ok okp.1 okp.2.1 okp.2.2 h60, ?_⟩
              refine if_d (p := w = "shut") (bVe (v2e (x := .str w) (y := .str "shut") rfl rfl rfl)) (fun c3 => ?_) (fun c3 => ?_)
              · have c4 : ¬ w = "pipe" := fun q => by rw [q] at c3; exact absurd c3 (by decide +kernel)
                rw [decide_eq_false c4]
                have eg : (ps ++ [(i, j, true)])[ps.length]? = some (i, j, true) := by simp
                refine ⟨rfl, _, _, _, _, rfl, ⟨rfl, rfl⟩, rfl, G_shutE eg, ?_⟩
                refine ⟨rfl, .inl ⟨rfl, ?_⟩, .inr ⟨rfl, rfl⟩, trivial⟩
                rw [show (ps ++ [(i, j, true)]).set ps.length (i, j, false) = ps ++ [(i, j, false)] by simp]
                rfl
              · have c4 : w = "pipe" := by rcases c2 with c2 | c2; exact c2; exact absurd c2 c3
                rw [decide_eq_true c4]
                exact ⟨rfl, .inl ⟨rfl, rfl⟩, .inr ⟨rfl, rfl⟩, trivial⟩
      · have e : lineR n ps z = (.inr .net, ps) := by
          unfold lineR
          rw [parse_len hw]
        rw [e]
        refine if_t (bOr_t (bVe (v2e (x := D.int ((Txt.split z " ").length : Int)) (y := D.int 3) (lenE rfl) rfl (by rw [fNe_int, decide_eq_true (show ((Txt.split z " ").length : Int) ≠ 3 by omega)])))) ⟨rfl, .inl ⟨rfl, rfl⟩, .inr ⟨rfl, rfl⟩, trivial⟩
    · cases h1
  · cases h
end Z

set_option maxRecDepth 100000
namespace Z
open PySem PySem.Spec PyProof.Rows L2 TL

/-! ### a text read or refused -/
def goLines (n : Nat) : List P3 → List Str → Option (List P3)
  | ps, [] => some ps
  | ps, z :: zs => match (lineR n ps z).1 with
    | .inr _ => none
    | .inl _ => goLines n (lineR n ps z).2 zs
def headN (l0 : Str) : Option Nat := match Txt.split l0 " " with
  | [w, a] => if w = "places" then numOf a else none
  | _ => none
theorem head_len {z : Str} (h : (Txt.split z " ").length ≠ 2) : headN z = none := by
  unfold headN
  split
  · rename_i e
    rw [e] at h
    exact absurd rfl h
  · rfl
theorem head2 {z w a : Str} (h : Txt.split z " " = [w, a]) : headN z = if w = "places" then numOf a else none := by
  unfold headN
  rw [h]
def readN (z : Str) : Option (Nat × List P3) := match Txt.split z "\n" with
  | l0 :: rest => if rest.getLast? = some ("" : Str) then (headN l0).bind fun k => if 1 ≤ k ∧ k ≤ 12 then (goLines k [] rest.dropLast).map fun ps => (k, ps) else none else none
  | [] => none
theorem read_few {z : Str} (h : (Txt.split z "\n").length < 2) : readN z = none := by
  unfold readN
  split
  · rename_i l0 rest e
    rw [e] at h
    have : rest = [] := List.length_eq_zero_iff.mp (by simp at h; omega)
    subst this
    rfl
  · rfl
theorem read_last {z l0 lst : Str} {mid : List Str} (h : Txt.split z "\n" = l0 :: (mid ++ [lst])) : readN z = if lst = "" then (headN l0).bind fun k => if 1 ≤ k ∧ k ≤ 12 then (goLines k [] mid).map fun ps => (k, ps) else none else none := by
  unfold readN
  rw [h]
  simp only [List.getLast?_concat, List.dropLast_concat, Option.some.injEq]
def readR (z : Str) : Rs := match readN z with
  | some x => .inl (.net .loc (x.1 : Int) (dPs x.2))
  | none => .inr .net
theorem readR_none {z : Str} (h : readN z = none) : readR z = .inr .net := by unfold readR; rw [h]
theorem readR_some {z : Str} {n : Nat} {ps : List P3} (h : readN z = some (n, ps)) : readR z = .inl (.net .loc (n : Int) (dPs ps)) := by unfold readR; rw [h]
def F_read_k14 : FN
  | [.val (.str z)] => if z.length ≤ 900000 then some (readR z) else none
  | _ => none
theorem F_read14 {z : Str} (h : z.length ≤ 900000) : F_read_k14 [.val (.str z)] = some (readR z) := if_pos h
theorem tryAll {Ts : VT} {Q : Out → Prop} {Γ : En} {x : Ex} (h : Ts Q Γ) : tryQ (ctL [.much, .place, .pipe, .same, .net]) Ts Q (.ex x Γ) := by cases x <;> exact h
theorem fNe_strs (a b : Str) : fNe (.str a) (.str b) = some (.bl (decide (a ≠ b))) := by
  show some (D.bl (!decide (a = b))) = _
  simp
/-- read: 0 text 1 lines 2 words 3 net 4 line -/
def t_read_k14 : VT := (seqT (asgV 1 (v1 slD (v2 fSplit (vVar 0) (vC (.str "\n"))))) (seqT (ifT (bOr (bV (v2 fLt (v1 fLenL (lVar 1)) (vC (.int 2)))) (bV (v2 fNe (v2 fIx (vVar 1) (v1 fNeg (vC (.int 1)))) (vC (.str ""))))) (seqT (raiseT .net) skipT) skipT) (seqT (asgV 2 (v1 slD (v2 fSplit (v2 fIx (vVar 1) (vC (.int 0))) (vC (.str " "))))) (seqT (ifT (bOr (bV (v2 fNe (v1 fLenL (lVar 2)) (vC (.int 2)))) (bV (v2 fNe (v2 fIx (vVar 2) (vC (.int 0))) (vC (.str "places"))))) (seqT (raiseT .net) skipT) skipT) (seqT (tryT (ctL [.much, .place, .pipe, .same, .net]) (seqT (asgX 3 (newX (xCall 1 F_number_of_k14 (rV (v2 fIx (vVar 2) (vC (.int 1))) rNil)))) (seqT (forT (v1 dL (v1 slD (vCut cutL (lVar 1) (pI (vC (.int 1))) (pI (v1 fNeg (vC (.int 1))))))) (gN 4) (seqT (cmT none 2 G_lay_line_k14 (rS 3 (rV (vVar 4) rNil))) skipT)) skipT)) (seqT (raiseT .net) skipT)) (seqT (retS 3) skipT))))))
theorem v_read_k14 : ∀ ss r, ss.length = 1 → F_read_k14 ss = some r → t_read_k14 (postP r) (En0 ss 5) := by
  intro ss r hl h
  unfold F_read_k14 at h
  split at h
  · rename_i z
    split at h
    · rename_i hz
      have h1 := Option.some.inj h
      clear h
      subst h1
      refine ⟨.lst ((Txt.split z "\n").map .str), v1e (v2e rfl rfl (fSplit_ok (by decide +kernel) hz)) rfl, ?_⟩
      have lenE : ∀ {ls : List Str} {Γ : En} {i : Nat}, Γ[i]? = some (some (.val (.lst (ls.map .str)))) → v1 fLenL (lVar i) Γ = some (.int (ls.length : Int)) := fun {ls Γ i} e => by
        refine v1e (x := ls.map D.str) (by unfold lVar; rw [e]) ?_
        unfold fLenL
        rw [List.length_map]
      by_cases hfew : (Txt.split z "\n").length < 2
      · rw [readR_none (read_few hfew)]
        exact if_t (bOr_t (bVe (v2e (x := D.int ((Txt.split z "\n").length : Int)) (y := D.int 2) (lenE rfl) rfl (by show some (D.bl (decide (((Txt.split z "\n").length : Int) < 2))) = _; rw [decide_eq_true (by omega)])))) rfl
      obtain ⟨l0, mid, lst, hs⟩ : ∃ l0 mid lst, Txt.split z "\n" = l0 :: (mid ++ [lst]) := by
        match hm : Txt.split z "\n", hfew with
        | [], q => simp at q
        | [_], q => simp at q
        | l0 :: a :: r, _ => exact ⟨l0, (a :: r).dropLast, (a :: r).getLast (by simp), by rw [List.dropLast_concat_getLast]⟩
      have hw : ∀ w ∈ l0 :: (mid ++ [lst]), w.length ≤ 900000 := fun w hw => Nat.le_trans (split_nl (z := z) (by rw [hs]; exact hw)) hz
      have hw0 := hw l0 (by simp)
      have hws : ∀ w ∈ mid, w.length ≤ 900000 := fun w h => hw w (List.mem_cons_of_mem _ (List.mem_append_left _ h))
      have hrd := read_last hs
      rw [hs]
      clear hw hfew
      have eL : (l0 :: (mid ++ [lst])).map D.str = .str l0 :: (mid.map (fun q => D.str q) ++ [D.str lst]) := by simp
      have hIl := @lenE (l0 :: (mid ++ [lst]))
      rw [eL] at hIl ⊢
      have hI0 : fIx (.lst (.str l0 :: (mid.map (fun q => D.str q) ++ [D.str lst]))) (.int 0) = some (.str l0) := atI_nat (j := 0) rfl
      have hI1 : fIx (.lst (.str l0 :: (mid.map (fun q => D.str q) ++ [D.str lst]))) (.int (-1)) = some (.str lst) := atI_last (α := D) (D.str l0 :: mid.map (fun q : Str => D.str q)) (D.str lst)
      have hIc : cutL (.str l0 :: (mid.map (fun q => D.str q) ++ [D.str lst])) (some 1) (some (-1)) = some (.own .loc (mid.map (fun q => D.str q))) := by
        unfold cutL
        rw [cut_mid]
      generalize (.str l0 :: (mid.map (fun q => D.str q) ++ [D.str lst]) : List D) = L at hI0 hI1 hIl hIc ⊢
      refine if_d (p := (((l0 :: (mid ++ [lst])).length : Int) < 2) ∨ lst ≠ "") (bOr_d (bVe (v2e (x := D.int ((l0 :: (mid ++ [lst])).length : Int)) (y := D.int 2) (hIl rfl) rfl rfl)) fun _ => bVe (v2e (x := .str lst) (y := .str "") (v2e rfl rfl hI1) rfl (fNe_strs _ _))) (fun c => ?_) (fun c => ?_)
      · have c2 : lst ≠ "" := by
          rcases c with c | c
          · simp at c
            omega
          · exact c
        rw [readR_none (by rw [hrd, if_neg c2])]
        exact rfl
      have c2 : lst = "" := Decidable.byContradiction fun q => c (.inr q)
      rw [if_pos c2] at hrd
      clear c hIl hI1
      refine ⟨.lst ((Txt.split l0 " ").map .str), v1e (v2e (x := .str l0) (v2e rfl rfl hI0) rfl (fSplit_ok (by decide +kernel) hw0)) rfl, ?_⟩
      by_cases h2 : (Txt.split l0 " ").length = 2
      · obtain ⟨w, a, hs2⟩ : ∃ w a, Txt.split l0 " " = [w, a] := by
          match hm : Txt.split l0 " ", h2 with
          | [w, a], _ => exact ⟨w, a, rfl⟩
        have la : a.length ≤ 900000 := Nat.le_trans (split_sp (z := l0) (by rw [hs2]; simp)) hw0
        rw [head2 hs2] at hrd
        rw [hs2]
        refine if_d (p := ((2 : Int) ≠ 2) ∨ w ≠ "places") (bOr_d (bVe (v2e (x := .int 2) rfl rfl rfl)) fun _ => bVe (v2e (x := .str w) rfl rfl (fNe_strs _ _))) (fun c => ?_) (fun c => ?_)
        · have c3 : w ≠ "places" := by rcases c with c | c; exact absurd rfl c; exact c
          rw [readR_none (by rw [hrd, if_neg c3]; rfl)]
          exact rfl
        have c3 : w = "places" := Decidable.byContradiction fun q => c (.inr q)
        rw [if_pos c3] at hrd
        have num : xCall 1 F_number_of_k14 (rV (v2 fIx (vVar 2) (vC (.int 1))) rNil) [some (.val (.str z)), some (.val (.lst L)), some (.val (.lst [.str w, .str a])), none, none] = some (numR a) := xc (rVe (d := .str a) rfl rfl) ⟨rfl, rfl⟩ rfl (F_numOf la)
        cases ea : numOf a with
        | none =>
          rw [readR_none (by rw [hrd, ea]; rfl)]
          refine ⟨.inr .net, ?_, rfl⟩
          have r1 : numR a = .inr .net := by unfold numR; rw [ea]
          rw [r1] at num
          exact Option.bind_eq_some_iff.mpr ⟨_, num, rfl⟩
        | some k =>
          have r1 : numR a = .inl (.val (.int (k : Int))) := by unfold numR; rw [ea]
          rw [r1] at num
          rw [ea, Option.bind_some] at hrd
          refine ⟨if 1 ≤ (k : Int) ∧ (k : Int) ≤ 12 then .inl (.net .loc (k : Int) []) else .inr .much, Option.bind_eq_some_iff.mpr ⟨_, num, rfl⟩, ?_⟩
          by_cases hk : 1 ≤ k ∧ k ≤ 12
          · rw [if_pos (show 1 ≤ (k : Int) ∧ (k : Int) ≤ 12 by omega)]
            rw [if_pos hk] at hrd
            refine ⟨mid.map fun q => D.str q, v1e (x := .lst (mid.map fun q => D.str q)) (v1e (x := .own .loc (mid.map fun q => D.str q)) (show cutL L (some 1) (some (-1)) = _ from hIc) rfl) rfl, ?_⟩
            refine loopT_inv (enc := fun q : Str => D.str q) (fun rest Γ => ∃ (ps : List P3) (v4 : Option Sl), (∀ q ∈ rest, q ∈ mid) ∧ okNet k ps ∧ goLines k ps rest = goLines k [] mid ∧
              Γ = [some (.val (.str z)), some (.val (.lst L)), some (.val (.lst [.str w, .str a])), some (.net .loc (k : Int) (dPs ps)), v4]) ?_ ?_ mid _ ⟨[], none, fun _ h => h, ⟨hk.1, hk.2, rfl, by simp⟩, rfl, rfl⟩
            · rintro y rest Γ kk ⟨ps, v4, hr, ok, hgo, rfl⟩ hkk
              refine ⟨_, rfl, ?_⟩
              have hy := hws y (hr y (by simp))
              refine ⟨_, _, _, _, rfl, ⟨rfl, rfl⟩, rfl, G_layLine14 ok hy, ?_⟩
              have e : goLines k ps (y :: rest) = (match (lineR k ps y).1 with
                | .inr _ => none
                | .inl _ => goLines k (lineR k ps y).2 rest) := rfl
              rw [e] at hgo
              cases hr1 : (lineR k ps y).1 with
              | inr x =>
                rw [hr1] at hgo
                rw [readR_none (by rw [hrd, ← hgo]; rfl)]
                exact tryAll rfl
              | inl s =>
                rw [hr1] at hgo
                exact hkk _ ⟨(lineR k ps y).2, some (.val (.str y)), fun q hq => hr q (List.mem_cons_of_mem _ hq), lineR_ok ok, hgo, rfl⟩
            · rintro Γ ⟨ps, v4, _, ok, hgo, rfl⟩
              have hgo : some ps = goLines k [] mid := hgo
              rw [readR_some (n := k) (ps := ps) (by rw [hrd, ← hgo]; rfl)]
              exact ⟨_, rfl, rfl, rfl⟩
          · rw [if_neg (show ¬ (1 ≤ (k : Int) ∧ (k : Int) ≤ 12) by omega)]
            rw [if_neg hk] at hrd
            rw [readR_none hrd]
            exact rfl
      · rw [readR_none (by rw [hrd, head_len h2]; rfl)]
        refine if_t (bOr_t (bVe (v2e (x := D.int ((Txt.split l0 " ").length : Int)) (y := D.int 2) (lenE rfl) rfl (by rw [fNe_int, decide_eq_true (show ((Txt.split l0 " ").length : Int) ≠ 2 by omega)])))) rfl
    · cases h
  · cases h
end Z

set_option maxRecDepth 100000
namespace Z
open PySem PySem.Spec PyProof.Rows L2 TL

/-! ### what a text of lines writes: plain -/
def parseP (n : Nat) (z : Str) : Option P3 := (parseL z).bind fun p => if p.1 < n ∧ p.2.1 < n ∧ p.1 ≠ p.2.1 then some p else none
def pipesOf (n : Nat) : List Str → Option (List P3)
  | [] => some []
  | z :: zs => (parseP n z).bind fun p => (pipesOf n zs).map (p :: ·)
def dueN : List Str → Option (Nat × List P3)
  | [] => none
  | l0 :: rest => (headN l0).bind fun k => if 1 ≤ k ∧ k ≤ 12 then (pipesOf k rest).bind fun ps => if ps.length ≤ 60 then some (k, ps) else none else none
theorem pipesOf_some {n : Nat} : ∀ {zs : List Str} {ps : List P3}, pipesOf n zs = some ps → zs.map (parseP n) = ps.map some
  | [], _, h => by cases h; rfl
  | z :: zs, _, h => by
    obtain ⟨p, e1, h⟩ := Option.bind_eq_some_iff.mp h
    obtain ⟨ps, e2, rfl⟩ := Option.map_eq_some_iff.mp h
    rw [List.map_cons, List.map_cons, e1, pipesOf_some e2]
theorem pipesOf_none {n : Nat} : ∀ {zs : List Str}, pipesOf n zs = none → none ∈ zs.map (parseP n)
  | [], h => by cases h
  | z :: zs, h => by
    unfold pipesOf at h
    cases e : parseP n z with
    | none => rw [List.map_cons, e]; simp
    | some p =>
      rw [e] at h
      have h : (pipesOf n zs).map (p :: ·) = none := h
      rw [List.map_cons]
      exact List.mem_cons_of_mem _ (pipesOf_none (Option.map_eq_none_iff.mp h))
theorem go_eq {n : Nat} : ∀ (zs : List Str) (ps : List P3), ps.length ≤ 60 → goLines n ps zs = (pipesOf n zs).bind fun qs => if ps.length + qs.length ≤ 60 then some (ps ++ qs) else none
  | [], ps, h => by
    show some ps = if ps.length + 0 ≤ 60 then some (ps ++ []) else none
    rw [if_pos (by omega), List.append_nil]
  | z :: zs, ps, h => by
    show (match (lineR n ps z).1 with
      | .inr _ => none
      | .inl _ => goLines n (lineR n ps z).2 zs) = ((parseP n z).bind fun p => (pipesOf n zs).map (p :: ·)).bind _
    unfold lineR parseP
    cases e : parseL z with
    | none => rfl
    | some p =>
      simp only [Option.bind_some]
      by_cases hp : p.1 < n ∧ p.2.1 < n ∧ p.1 ≠ p.2.1
      · rw [if_pos hp]
        simp only [Option.bind_some]
        by_cases h6 : ps.length < 60
        · rw [layX_of hp h6]
          show goLines n (ps ++ [p]) zs = _
          rw [go_eq zs (ps ++ [p]) (by rw [List.length_append, List.length_singleton]; omega)]
          cases e2 : pipesOf n zs with
          | none => rfl
          | some qs =>
            show (if (ps ++ [p]).length + qs.length ≤ 60 then some ((ps ++ [p]) ++ qs) else none) = (if ps.length + (p :: qs).length ≤ 60 then some (ps ++ p :: qs) else none)
            rw [List.length_append, List.length_singleton, List.length_cons, List.append_assoc]
            have : (ps.length + 1 + qs.length ≤ 60) ↔ (ps.length + (qs.length + 1) ≤ 60) := by omega
            by_cases c : ps.length + 1 + qs.length ≤ 60
            · rw [if_pos c, if_pos (this.mp c)]
              rfl
            · rw [if_neg c, if_neg (fun q => c (this.mpr q))]
        · have : layX n ps p = some .much := by
            unfold layX
            rw [if_neg (by omega), if_neg (by omega), if_neg hp.2.2, if_pos (by omega)]
          rw [this]
          cases e2 : pipesOf n zs with
          | none => rfl
          | some qs =>
            show none = (if ps.length + (p :: qs).length ≤ 60 then some (ps ++ p :: qs) else none)
            rw [List.length_cons, if_neg (by omega)]
      · rw [if_neg hp]
        cases e2 : layX n ps p with
        | none => exact absurd (layX_none e2).1 hp
        | some x => rfl
/-- the text of lines -/
def textOf (ls : List Str) : Str := Txt.join "" (ls.map fun z => z ++ "\n")
def PlainL (ls : List Str) : Prop := ∀ z ∈ ls, 10 ∉ tl z
theorem tl_textOf (ls : List Str) : tl (textOf ls) = (ls.map fun z => tl z ++ [10]).flatten := by
  unfold textOf
  rw [join_eq, tl_join, lit_facts.2.2.1, joinL_nil, List.map_map]
  congr 1
  refine List.map_congr_left fun z _ => ?_
  show tl (z ++ "\n") = _
  rw [tl_append, lit_facts.1]
theorem joinL_all (ls : List (List Nat)) : joinL [10] (ls ++ [[]]) = (ls.map fun l => l ++ [10]).flatten := by
  cases ls with
  | nil => rfl
  | cons l0 ls =>
    rw [List.cons_append, joinL_end, List.map_cons, List.flatten_cons, List.append_assoc]
theorem textOf_join (ls : List Str) : textOf ls = Txt.join "\n" (ls ++ [("" : Str)]) := by
  refine ext_tl ?_
  rw [tl_textOf, join_eq, tl_join, List.map_append, lit_facts.1]
  have : (List.map tl [("" : Str)]) = [[]] := by rw [List.map_cons, List.map_nil, lit_facts.2.2.1]
  rw [this, joinL_all, List.map_map]
  rfl
theorem split_textOf {ls : List Str} (h : PlainL ls) : Txt.split (textOf ls) "\n" = ls ++ [("" : Str)] := by
  rw [textOf_join]
  refine split_join lit_facts.1 lit_facts.2.2.2.1 (by simp) fun q hq => ?_
  rcases List.mem_append.mp hq with hq | hq
  · exact h q hq
  · simp at hq
    subst hq
    rw [lit_facts.2.2.1]
    simp
theorem read_textOf {ls : List Str} (h : PlainL ls) : readN (textOf ls) = dueN ls := by
  cases ls with
  | nil => exact read_few (by rw [split_textOf h]; simp)
  | cons l0 mid =>
    rw [read_last (l0 := l0) (mid := mid) (lst := "") (by rw [split_textOf h]; rfl), if_pos rfl]
    unfold dueN
    congr 1
    funext k
    by_cases hk : 1 ≤ k ∧ k ≤ 12
    · rw [if_pos hk, if_pos hk, go_eq mid [] (by simp)]
      cases pipesOf k mid with
      | none => rfl
      | some qs =>
        show ((if 0 + qs.length ≤ 60 then some ([] ++ qs) else none).map fun ps => (k, ps)) = if qs.length ≤ 60 then some (k, qs) else none
        rw [Nat.zero_add]
        by_cases c : qs.length ≤ 60
        · rw [if_pos c, if_pos c]; rfl
        · rw [if_neg c, if_neg c]; rfl
    · rw [if_neg hk, if_neg hk]
theorem cut_end {α : Type} (xs : List α) (b : α) : cutD (xs ++ [b]) none (some (-1)) = xs := by
  unfold cutD
  have e2 : HT.sIx (xs ++ [b]).length (xs ++ [b]).length (some (-1)) = xs.length := by
    simp [HT.sIx]
    omega
  have e1 : HT.sIx (xs ++ [b]).length 0 none = 0 := rfl
  rw [e1, e2]
  simp
theorem tl_cutS (z : Str) (lo hi : Option Int) : tl (cutS z lo hi) = cutD (tl z) lo hi := by
  unfold cutS cutD
  rw [len_tl z]
theorem cut_textOf {ls : List Str} (h : ls ≠ []) : cutS (textOf ls) none (some (-1)) = Txt.join "\n" ls := by
  refine ext_tl ?_
  rw [tl_cutS, join_eq, tl_join, lit_facts.1]
  have key : ∀ (l : List (List Nat)), l ≠ [] → (l.map fun x => x ++ [10]).flatten = joinL [10] l ++ [10] := by
    intro l
    induction l with
    | nil => intro q; exact absurd rfl q
    | cons x l ih =>
      intro _
      cases l with
      | nil => simp [joinL]
      | cons y l =>
        rw [List.map_cons, List.flatten_cons, ih (by simp)]
        show x ++ [10] ++ (joinL [10] (y :: l) ++ [10]) = x ++ ([10] ++ joinL [10] (y :: l)) ++ [10]
        simp
  have e : tl (textOf ls) = joinL [10] (ls.map tl) ++ [10] := by
    rw [tl_textOf, ← key (ls.map tl) (by simpa using h), List.map_map]
    rfl
  rw [e, cut_end]
theorem read_cut {l0 lst : Str} {mid : List Str} (h : PlainL (l0 :: (mid ++ [lst]))) (hl : lst ≠ "") : readN (cutS (textOf (l0 :: (mid ++ [lst]))) none (some (-1))) = none := by
  rw [cut_textOf (by simp)]
  rw [read_last (l0 := l0) (mid := mid) (lst := lst) (split_join lit_facts.1 lit_facts.2.2.2.1 (by simp) fun q hq => h q hq), if_neg hl]
theorem textOf_len {ls : List Str} {m : Nat} (h : ∀ z ∈ ls, z.length ≤ m) : (textOf ls).length ≤ ls.length * (m + 1) ∧ ((ls.map fun z : Str => z ++ "\n").map (·.length)).sum ≤ ls.length * (m + 1) := by
  have key : ((ls.map fun z : Str => z ++ "\n").map (·.length)).sum ≤ ls.length * (m + 1) := by
    induction ls with
    | nil => simp
    | cons z ls ih =>
      have := h z (by simp)
      have ih := ih fun y hy => h y (List.mem_cons_of_mem _ hy)
      have l3 := lit_facts.2.2.2.2.2.1
      rw [List.map_cons, List.map_cons, List.sum_cons, List.length_cons, Nat.succ_mul, len_app]
      omega
  refine ⟨?_, key⟩
  have e : (textOf ls).length = ((ls.map fun z : Str => z ++ "\n").map (·.length)).sum := by
    rw [len_tl, tl_textOf]
    clear key h
    induction ls with
    | nil => rfl
    | cons z ls ih =>
      rw [List.map_cons, List.flatten_cons, List.length_append, ih, List.map_cons, List.map_cons, List.sum_cons, len_app, len_tl z, lit_facts.2.2.2.2.2.1]
      simp
  rw [e]
  exact key
end Z

set_option maxRecDepth 100000
namespace Z
open PySem PySem.Spec PyProof.Rows L2 TL

/-! ### what a line tells -/
def dOptP : Option P3 → D
  | some p => dP p
  | none => .non
def F_law_pipe_of : FN
  | [.val (.str z), .val (.int s)] => if 0 ≤ s ∧ z.length ≤ 900000 then some (.inl (.val (dOptP (parseP s.toNat z)))) else none
  | _ => none
theorem F_pipeOf {z : Str} {n : Nat} (h : z.length ≤ 900000) : F_law_pipe_of [.val (.str z), .val (.int (n : Int))] = some (.inl (.val (dOptP (parseP n z)))) := ite_some (show 0 ≤ (n : Int) ∧ z.length ≤ 900000 from ⟨by omega, h⟩)
theorem fMin_int (i j : Int) : fMin (.int i) (.int j) = some (.int (if j < i then j else i)) := rfl
theorem fMax_int (i j : Int) : fMax (.int i) (.int j) = some (.int (if j > i then j else i)) := rfl
/-- _law_pipe_of: 0 line 1 size 2 words 3 start 4 goal -/
def t_law_pipe_of : VT := (seqT (asgV 2 (v1 slD (v2 fSplit (vVar 0) (vC (.str " "))))) (seqT (ifT (bOr (bV (v2 fNe (v1 fLenL (lVar 2)) (vC (.int 3)))) (bAnd (bV (v2 fNe (v2 fIx (vVar 2) (vC (.int 0))) (vC (.str "pipe")))) (bV (v2 fNe (v2 fIx (vVar 2) (vC (.int 0))) (vC (.str "shut")))))) (seqT (retV (vC .non)) skipT) skipT) (seqT (asgV 3 (v1 slD (v1 inlO (xCall 1 F_law_number (rV (v2 fIx (vVar 2) (vC (.int 1))) rNil))))) (seqT (asgV 4 (v1 slD (v1 inlO (xCall 1 F_law_number (rV (v2 fIx (vVar 2) (vC (.int 2))) rNil))))) (seqT (ifT (bOr (bV (v2 fLt (v2 fMin (vVar 3) (vVar 4)) (vC (.int 0)))) (bOr (bV (v2 fGe (v2 fMax (vVar 3) (vVar 4)) (vVar 1))) (bV (v2 fEq (vVar 3) (vVar 4))))) (seqT (retV (vC .non)) skipT) skipT) (seqT (retV (vTup (aCons (vVar 3) (aCons (vVar 4) (aCons (v2 fEq (v2 fIx (vVar 2) (vC (.int 0))) (vC (.str "pipe"))) aNil))))) skipT))))))
theorem v_law_pipe_of : ∀ ss r, ss.length = 2 → F_law_pipe_of ss = some r → t_law_pipe_of (postP r) (En0 ss 5) ∧ ∃ s, r = .inl s := by
  intro ss r hl h
  unfold F_law_pipe_of at h
  split at h
  · rename_i z s
    split at h
    · rename_i hc
      have h1 := Option.some.inj h
      clear h
      subst h1
      obtain ⟨hs0, hz⟩ := hc
      obtain ⟨n, rfl⟩ := Int.eq_ofNat_of_zero_le hs0
      rw [Int.toNat_natCast]
      refine ⟨?_, _, rfl⟩
      have no : ∀ {Q : Out → Prop} {Γ : En}, parseP n z = none → Q (.rt (.val (dOptP (parseP n z))) Γ) → Q (.rt (.val .non) Γ) := fun {Q Γ} e q => by rw [e] at q; exact q
      refine ⟨.lst ((Txt.split z " ").map .str), v1e (v2e rfl rfl (fSplit_ok (by decide +kernel) hz)) rfl, ?_⟩
      by_cases hw : (Txt.split z " ").length = 3
      · obtain ⟨w, a, b, hs⟩ : ∃ w a b, Txt.split z " " = [w, a, b] := by
          match hm : Txt.split z " ", hw with
          | [w, a, b], _ => exact ⟨w, a, b, rfl⟩
        have la : a.length ≤ 900000 := Nat.le_trans (split_sp (z := z) (by rw [hs]; simp)) hz
        have lb : b.length ≤ 900000 := Nat.le_trans (split_sp (z := z) (by rw [hs]; simp)) hz
        have hpar := parse3 hs
        rw [hs]
        refine if_d (p := ((3 : Int) ≠ 3) ∨ (w ≠ "pipe" ∧ w ≠ "shut")) (bOr_d (bVe (v2e (x := .int 3) rfl rfl rfl)) fun _ => bAnd_d (bVe (v2e (x := .str w) (y := .str "pipe") rfl rfl (fNe_strs _ _))) fun _ => bVe (v2e (x := .str w) (y := .str "shut") rfl rfl (fNe_strs _ _))) (fun c => ?_) (fun c => ?_)
        · have c2 : ¬ (w = "pipe" ∨ w = "shut") := by
            rcases c with c | c
            · exact absurd rfl c
            · exact fun q => q.elim c.1 c.2
          refine ⟨_, rfl, no ?_ rfl⟩
          unfold parseP
          rw [hpar, if_neg c2]
          rfl
        have c2 : w = "pipe" ∨ w = "shut" := Decidable.byContradiction fun q => c (.inr ⟨fun e => q (.inl e), fun e => q (.inr e)⟩)
        rw [if_pos c2] at hpar
        refine ⟨.int (numI a), v1e (v1e (xc (rVe (d := .str a) rfl rfl) ⟨rfl, rfl⟩ rfl (F_lawNumber la)) rfl) rfl, ?_⟩
        refine ⟨.int (numI b), v1e (v1e (xc (rVe (d := .str b) rfl rfl) ⟨rfl, rfl⟩ rfl (F_lawNumber lb)) rfl) rfl, ?_⟩
        have hb : (bOr (bV (v2 fLt (v2 fMin (vVar 3) (vVar 4)) (vC (.int 0)))) (bOr (bV (v2 fGe (v2 fMax (vVar 3) (vVar 4)) (vVar 1))) (bV (v2 fEq (vVar 3) (vVar 4))))) [some (.val (.str z)), some (.val (.int (n : Int))), some (.val (.lst [.str w, .str a, .str b])), some (.val (.int (numI a))), some (.val (.int (numI b)))] =
            some (decide ((if numI b < numI a then numI b else numI a) < 0 ∨ ((n : Int) ≤ (if numI b > numI a then numI b else numI a) ∨ numI a = numI b))) :=
          bOr_d (bVe (v2e (v2e rfl rfl (fMin_int _ _)) rfl rfl)) fun _ => bOr_d (bVe (v2e (v2e rfl rfl (fMax_int _ _)) rfl rfl)) fun _ => bVe (v2e rfl rfl rfl)
        cases ea : numOf a with
        | none =>
          have ha := numI_none ea
          refine if_t (dec_t ?_ hb) ⟨_, rfl, no ?_ rfl⟩
          · rw [ha]
            left
            split <;> omega
          · unfold parseP
            rw [hpar, ea]
            rfl
        | some i =>
          have ha := numI_some ea
          cases eb : numOf b with
          | none =>
            have hb' := numI_none eb
            refine if_t (dec_t ?_ hb) ⟨_, rfl, no ?_ rfl⟩
            · rw [hb', ha]
              left
              split <;> omega
            · unfold parseP
              rw [hpar, ea, eb]
              rfl
          | some j =>
            have hb' := numI_some eb
            have hp : parseL z = some (i, j, decide (w = "pipe")) := by rw [hpar, ea, eb]; rfl
            have hP : parseP n z = if i < n ∧ j < n ∧ i ≠ j then some (i, j, decide (w = "pipe")) else none := by
              unfold parseP
              rw [hp]
              rfl
            rw [ha, hb'] at hb ⊢
            refine if_d hb (fun c3 => ?_) (fun c3 => ?_)
            · refine ⟨_, rfl, no ?_ rfl⟩
              rw [hP, if_neg ?_]
              rintro ⟨q1, q2, q3⟩
              rcases c3 with c3 | c3 | c3
              · split at c3 <;> omega
              · split at c3 <;> omega
              · omega
            · rw [hP, if_pos ?_]
              · refine ⟨dP (i, j, decide (w = "pipe")), ?_, rfl⟩
                unfold vTup
                rw [show (aCons (vVar 3) (aCons (vVar 4) (aCons (v2 fEq (v2 fIx (vVar 2) (vC (.int 0))) (vC (.str "pipe"))) aNil))) _ = some [dInt i, dInt j, .bl (decide (w = "pipe"))] from by
                  unfold aCons
                  exact Option.bind_eq_some_iff.mpr ⟨_, rfl, Option.bind_eq_some_iff.mpr ⟨_, Option.bind_eq_some_iff.mpr ⟨_, rfl, Option.bind_eq_some_iff.mpr ⟨_, Option.bind_eq_some_iff.mpr ⟨.bl (decide (w = "pipe")), v2e (x := .str w) (y := .str "pipe") rfl rfl rfl, rfl⟩, rfl⟩⟩, rfl⟩⟩]
                rfl
              · refine ⟨Decidable.byContradiction fun q => c3 (.inr (.inl ?_)), Decidable.byContradiction fun q => c3 (.inr (.inl ?_)), fun q => c3 (.inr (.inr (by omega)))⟩
                · split <;> omega
                · split <;> omega
      · refine if_t (bOr_t (bVe (v2e (x := D.int ((Txt.split z " ").length : Int)) (y := D.int 3) (v1e (x := (Txt.split z " ").map D.str) rfl (by unfold fLenL; rw [List.length_map])) rfl (by rw [fNe_int, decide_eq_true (show ((Txt.split z " ").length : Int) ≠ 3 by omega)])))) ⟨_, rfl, no ?_ rfl⟩
        unfold parseP
        rw [parse_len hw]
        rfl
    · cases h
  · cases h
theorem toSs_some : ∀ {ds : List D} {ls : List Str}, toSs ds = some ls → ds = ls.map D.str
  | [], _, h => by cases h; rfl
  | d :: ds, _, h => by
    cases d with
    | str z =>
      obtain ⟨ls, e, rfl⟩ := Option.map_eq_some_iff.mp (show (toSs ds).map (z :: ·) = _ from h)
      rw [toSs_some e]
      rfl
    | _ => cases h
def dDue : Option (Nat × List P3) → D
  | some x => .tup [dInt x.1, .lst (dPs x.2)]
  | none => .non
def F_law_due_k14 : FN
  | [.val (.lst ds)] => (toSs ds).bind fun ls => if ls.length ≤ 1000 ∧ (∀ z ∈ ls, z.length ≤ 900000) then some (.inl (.val (dDue (dueN ls)))) else none
  | _ => none
theorem F_due14 {ls : List Str} (h1 : ls.length ≤ 1000) (h2 : ∀ z ∈ ls, z.length ≤ 900000) : F_law_due_k14 [.val (.lst (ls.map .str))] = some (.inl (.val (dDue (dueN ls)))) := by
  show (toSs _).bind _ = _
  rw [toSs_map, Option.bind_some]
  exact ite_some ⟨h1, h2⟩
theorem vChainL {Γ : En} {f h j : VF} {a b c : Int} (h1 : f Γ = some (.int a)) (h2 : h Γ = some (.int b)) (h3 : j Γ = some (.int c)) : vChain fLe fLe f h j Γ = some (.bl (decide (a ≤ b ∧ b ≤ c))) := by
  unfold vChain
  rw [h1, Option.bind_some, h2, Option.bind_some]
  show (some (D.bl (decide (a ≤ b)))).bind _ = _
  rw [Option.bind_some]
  by_cases c1 : a ≤ b
  · rw [decide_eq_true c1]
    show (j Γ).bind _ = _
    rw [h3, Option.bind_some]
    show some (D.bl (decide (b ≤ c))) = _
    simp [c1]
  · rw [decide_eq_false c1]
    simp [c1]
theorem isNon_dOptP (o : Option P3) : isNon (dOptP o) = o.isNone := by cases o <;> rfl
/-- _law_due: 0 lines 1 words 2 pipes 3 line 4 pipe -/
def t_law_due_k14 : VT := (seqT (ifT (bV (v2 fEq (v1 fLenL (lVar 0)) (vC (.int 0)))) (seqT (retV (vC .non)) skipT) skipT) (seqT (asgV 1 (v1 slD (v2 fSplit (v2 fIx (vVar 0) (vC (.int 0))) (vC (.str " "))))) (seqT (ifT (bOr (bV (v2 fNe (v1 fLenL (lVar 1)) (vC (.int 2)))) (bOr (bV (v2 fNe (v2 fIx (vVar 1) (vC (.int 0))) (vC (.str "places")))) (bNot (bV (vChain fLe fLe (vC (.int 1)) (v1 slD (v1 inlO (xCall 1 F_law_number (rV (v2 fIx (vVar 1) (vC (.int 1))) rNil)))) (vC (.int 12))))))) (seqT (retV (vC .non)) skipT) skipT) (seqT (asgV 2 (v1 slD (vLc [3] (v1 slL (vCut cutL (lVar 0) (pI (vC (.int 1))) pN)) (gN 3) bT (v1 slD (v1 inlO (xCall 2 F_law_pipe_of (rV (vVar 3) (rV (v1 fIntS (v2 fIx (vVar 1) (vC (.int 1)))) rNil)))))))) (seqT (ifT (bOr (bV (v2 fGt (v1 fLenL (lVar 2)) (vC (.int 60)))) (bV (v2 fGt (v1 fLenL (v1 slL (vLc [4] (lVar 2) (gN 4) (bV (v2 fIsN (vVar 4) (vC .non))) (vVar 4)))) (vC (.int 0))))) (seqT (retV (vC .non)) skipT) skipT) (seqT (retV (vTup (aCons (v1 fIntS (v2 fIx (vVar 1) (vC (.int 1)))) (aCons (vVar 2) aNil)))) skipT))))))
theorem v_law_due_k14 : ∀ ss r, ss.length = 1 → F_law_due_k14 ss = some r → t_law_due_k14 (postP r) (En0 ss 5) ∧ ∃ s, r = .inl s := by
  intro ss r hl h
  unfold F_law_due_k14 at h
  split at h
  · rename_i ds
    obtain ⟨ls, e1, h1⟩ := Option.bind_eq_some_iff.mp h
    clear h
    split at h1
    · rename_i hc
      have h2 := Option.some.inj h1
      clear h1
      subst h2
      cases toSs_some e1
      obtain ⟨hl1, hl2⟩ := hc
      refine ⟨?_, _, rfl⟩
      have no : ∀ {Q : Out → Prop} {Γ : En}, dueN ls = none → Q (.rt (.val (dDue (dueN ls))) Γ) → Q (.rt (.val .non) Γ) := fun {Q Γ} e q => by rw [e] at q; exact q
      cases ls with
      | nil => exact if_t (dec_t (p := True) trivial (bVe (v2e (x := .int 0) (y := .int 0) rfl rfl rfl))) ⟨_, rfl, rfl⟩
      | cons l0 rest =>
        refine if_f (dec_f (p := (((l0 :: rest).length : Nat) : Int) = 0) (by simp; omega) (bVe (v2e (x := .int (((l0 :: rest).length : Nat) : Int)) (y := .int 0) (v1e (x := (l0 :: rest).map D.str) rfl (by unfold fLenL; rw [List.length_map])) rfl rfl))) ?_
        have hw0 := hl2 l0 (by simp)
        refine ⟨.lst ((Txt.split l0 " ").map .str), v1e (v2e (x := .str l0) (v2e rfl rfl (show fIx (.lst ((l0 :: rest).map D.str)) (.int 0) = some (.str l0) from atI_nat (j := 0) rfl)) rfl (fSplit_ok (by decide +kernel) hw0)) rfl, ?_⟩
        have hdue : dueN (l0 :: rest) = (headN l0).bind fun k => if 1 ≤ k ∧ k ≤ 12 then (pipesOf k rest).bind fun ps => if ps.length ≤ 60 then some (k, ps) else none else none := rfl
        by_cases h2 : (Txt.split l0 " ").length = 2
        · obtain ⟨w, a, hs2⟩ : ∃ w a, Txt.split l0 " " = [w, a] := by
            match hm : Txt.split l0 " ", h2 with
            | [w, a], _ => exact ⟨w, a, rfl⟩
          have la : a.length ≤ 900000 := Nat.le_trans (split_sp (z := l0) (by rw [hs2]; simp)) hw0
          rw [head2 hs2] at hdue
          rw [hs2]
          refine if_d (p := ((2 : Int) ≠ 2) ∨ (w ≠ "places" ∨ ¬ (1 ≤ numI a ∧ numI a ≤ 12))) (bOr_d (bVe (v2e (x := .int 2) rfl rfl rfl)) fun _ => bOr_d (bVe (v2e (x := .str w) rfl rfl (fNe_strs _ _))) fun _ => bNot_d (bVe (vChainL rfl (v1e (v1e (xc (rVe (d := .str a) rfl rfl) ⟨rfl, rfl⟩ rfl (F_lawNumber la)) rfl) rfl) rfl))) (fun c => ?_) (fun c => ?_)
          · refine ⟨_, rfl, no ?_ rfl⟩
            rcases c with c | c | c
            · exact absurd rfl c
            · rw [hdue, if_neg c]
              rfl
            · rw [hdue]
              by_cases cw : w = "places"
              · rw [if_pos cw]
                cases ea : numOf a with
                | none => rfl
                | some k =>
                  have ha := numI_some ea
                  show (if 1 ≤ k ∧ k ≤ 12 then _ else none) = none
                  rw [if_neg (fun q => c (by omega))]
              · rw [if_neg cw]
                rfl
          have cw : w = "places" := Decidable.byContradiction fun q => c (.inr (.inl q))
          have ck : 1 ≤ numI a ∧ numI a ≤ 12 := Decidable.byContradiction fun q => c (.inr (.inr q))
          rw [if_pos cw] at hdue
          obtain ⟨k, ea⟩ : ∃ k, numOf a = some k := by
            cases ea : numOf a with
            | none => rw [numI_none ea] at ck; omega
            | some k => exact ⟨k, rfl⟩
          rw [numI_some ea] at ck
          rw [ea, Option.bind_some, if_pos (by omega)] at hdue
          obtain ⟨⟨_, n2, _, _⟩, n3⟩ := num_some ea
          have eint : ∀ {Γ : En} , Γ[1]? = some (some (.val (.lst [.str w, .str a]))) → v1 fIntS (v2 fIx (vVar 1) (vC (.int 1))) Γ = some (dInt k) := fun {Γ} e => by
            refine v1e (x := .str a) (v2e (x := .lst [.str w, .str a]) (by unfold vVar; rw [e]) rfl rfl) ?_
            show (if _ then _ else _) = _
            rw [if_pos (decide_eq_true (by omega)), n3]
            rfl
          refine ⟨.lst (rest.map fun z => dOptP (parseP k z)), v1e (vlc_map (enc := D.str) (xs := rest) (h := fun z => dOptP (parseP k z)) (v1e (x := .own .loc (rest.map D.str)) (show cutL (.str l0 :: rest.map D.str) (some 1) none = _ from by
            unfold cutL
            rw [show (some (1 : Int)) = some ((1 : Nat) : Int) from rfl, cut_drop _ _ (by simp)]
            rfl) rfl) (by simp at hl1; omega) fun z hz => lcS1 rfl rfl (v1e (v1e (xc (rVe (d := .str z) rfl (rVe (eint rfl) rfl)) ⟨rfl, rfl⟩ rfl (F_pipeOf (hl2 z (List.mem_cons_of_mem _ hz)))) rfl) rfl)) rfl, ?_⟩
          have hlr : rest.length ≤ 1000 := by simp at hl1; omega
          have e1 : v1 fLenL (v1 slL (vLc [4] (lVar 2) (gN 4) (bV (v2 fIsN (vVar 4) (vC .non))) (vVar 4))) [some (.val (.lst ((l0 :: rest).map D.str))), some (.val (.lst [.str w, .str a])), some (.val (.lst (rest.map fun z => dOptP (parseP k z)))), none, none] = some (.int (((rest.filter fun z => (parseP k z).isNone).length : Nat) : Int)) := by
            refine v1e (v1e (x := .own .loc ((rest.filter fun z => (parseP k z).isNone).map fun z => dOptP (parseP k z))) (vlc_filter (enc := fun z => dOptP (parseP k z)) (xs := rest) (p := fun z => (parseP k z).isNone) (h := fun z => dOptP (parseP k z)) rfl (by omega) fun z _ => lcS rfl (bVe (v2e (F := fIsN) (x := dOptP (parseP k z)) (y := .non) rfl rfl (by show some (D.bl (isNon (dOptP (parseP k z)))) = _; rw [isNon_dOptP]))) fun _ => rfl) rfl) ?_
            unfold fLenL
            rw [List.length_map]
          refine if_d (p := (60 : Int) < (rest.length : Int) ∨ (0 : Int) < ((rest.filter fun z => (parseP k z).isNone).length : Int)) (bOr_d (bVe (v2e (x := .int (rest.length : Int)) (v1e (x := rest.map fun z => dOptP (parseP k z)) rfl (by unfold fLenL; rw [List.length_map])) rfl rfl)) fun _ => bVe (v2e e1 rfl rfl)) (fun c2 => ?_) (fun c2 => ?_)
          · refine ⟨_, rfl, no ?_ rfl⟩
            rw [hdue]
            cases ep : pipesOf k rest with
            | none => rfl
            | some ps =>
              have em := pipesOf_some ep
              rcases c2 with c2 | c2
              · have : rest.length = ps.length := by have := congrArg List.length em; simpa using this
                show (if ps.length ≤ 60 then _ else none) = none
                rw [if_neg (by omega)]
              · exfalso
                have : rest.filter (fun z => (parseP k z).isNone) = [] := by
                  refine List.filter_eq_nil_iff.mpr fun z hz => ?_
                  have : parseP k z ∈ rest.map (parseP k) := List.mem_map.mpr ⟨z, hz, rfl⟩
                  rw [em] at this
                  obtain ⟨p, _, e⟩ := List.mem_map.mp this
                  rw [← e]
                  simp
                rw [this] at c2
                simp at c2
          · obtain ⟨ps, ep⟩ : ∃ ps, pipesOf k rest = some ps := by
              cases ep : pipesOf k rest with
              | some ps => exact ⟨ps, rfl⟩
              | none =>
                exfalso
                obtain ⟨z, hz, e⟩ := List.mem_map.mp (pipesOf_none ep)
                refine c2 (.inr ?_)
                have : z ∈ rest.filter fun z => (parseP k z).isNone := List.mem_filter.mpr ⟨hz, by rw [e]; rfl⟩
                have := List.length_pos_of_mem this
                omega
            have em := pipesOf_some ep
            have hlen : rest.length = ps.length := by have := congrArg List.length em; simpa using this
            have h60 : ps.length ≤ 60 := Decidable.byContradiction fun q => c2 (.inl (by omega))
            have ed : dueN (l0 :: rest) = some (k, ps) := by
              rw [hdue, ep, Option.bind_some, if_pos h60]
            rw [ed]
            have eD : (rest.map fun z => dOptP (parseP k z)) = dPs ps := by
              have := congrArg (List.map dOptP) em
              rw [List.map_map, List.map_map] at this
              exact this
            rw [eD]
            refine ⟨.tup [dInt k, .lst (dPs ps)], ?_, rfl⟩
            unfold vTup
            rw [show (aCons (v1 fIntS (v2 fIx (vVar 1) (vC (.int 1)))) (aCons (vVar 2) aNil)) _ = some [dInt k, .lst (dPs ps)] from by
              unfold aCons
              exact Option.bind_eq_some_iff.mpr ⟨_, eint rfl, Option.bind_eq_some_iff.mpr ⟨_, Option.bind_eq_some_iff.mpr ⟨_, rfl, rfl⟩, rfl⟩⟩]
            rfl
        · refine if_t (bOr_t (bVe (v2e (x := D.int ((Txt.split l0 " ").length : Int)) (y := D.int 2) (v1e (x := (Txt.split l0 " ").map D.str) rfl (by unfold fLenL; rw [List.length_map])) rfl (by rw [fNe_int, decide_eq_true (show ((Txt.split l0 " ").length : Int) ≠ 2 by omega)])))) ⟨_, rfl, no ?_ rfl⟩
          rw [hdue, head_len h2]
          rfl
    · cases h1
  · cases h
end Z

set_option maxRecDepth 100000
namespace Z
open PySem PySem.Spec PyProof.Rows L2 TL

/-! ### lines written, lines spoiled -/
def F_law_line : FN
  | [.val d] => (unP d).bind fun p => if p.1 < 13 ∧ p.2.1 < 13 then some (.inl (.val (.str (lineL p)))) else none
  | _ => none
theorem F_lawLine {p : P3} (h : p.1 < 13 ∧ p.2.1 < 13) : F_law_line [.val (dP p)] = some (.inl (.val (.str (lineL p)))) := by
  unfold F_law_line
  simp only
  rw [show unP (dP p) = some p from Cd.de p, Option.bind_some]
  exact ite_some h
/-- _law_line: 0 pipe -/
def t_law_line : VT := (seqT (retV (v2 fAddS (v2 fAddS (v2 fAddS (v2 fAddS (v2 fIx (v1 slD (oLst (aCons (vC (.str "shut")) (aCons (vC (.str "pipe")) aNil)))) (v1 fIntB (v2 fIx (vVar 0) (vC (.int 2))))) (vC (.str " "))) (v1 fStrI (v2 fIx (vVar 0) (vC (.int 0))))) (vC (.str " "))) (v1 fStrI (v2 fIx (vVar 0) (vC (.int 1)))))) skipT)
theorem v_law_line : ∀ ss r, ss.length = 1 → F_law_line ss = some r → t_law_line (postP r) (En0 ss 1) ∧ ∃ s, r = .inl s := by
  intro ss r hl h
  unfold F_law_line at h
  split at h
  · rename_i d
    obtain ⟨p, e1, h1⟩ := Option.bind_eq_some_iff.mp h
    clear h
    split at h1
    · rename_i hp
      have h2 := Option.some.inj h1
      clear h1
      subst h2
      have ed : d = dP p := Cd.ed d p e1
      subst ed
      refine ⟨?_, _, rfl⟩
      obtain ⟨a, b, o⟩ := p
      simp only at hp
      have a1 := (wd_facts _ (mem_b o)).1
      have a2 := (sN_facts _ (List.mem_range.mpr hp.1)).1
      have a3 := (sN_facts _ (List.mem_range.mpr hp.2)).1
      have l4 := lit_facts.2.2.2.2.2.2.1
      have e0 : v2 fIx (v1 slD (oLst (aCons (vC (.str "shut")) (aCons (vC (.str "pipe")) aNil)))) (v1 fIntB (v2 fIx (vVar 0) (vC (.int 2)))) [some (.val (dP (a, b, o)))] = some (.str (wd o)) := by cases o <;> rfl
      refine ⟨.str (lineL (a, b, o)), ?_, rfl⟩
      refine addE (addE (addE (addE e0 rfl ?_) (strE (k := a) rfl hp.1) ?_) rfl ?_) (strE (k := b) rfl hp.2) ?_ <;> (first | omega | (simp only [len_app]; omega))
    · cases h1
  · cases h
abbrev BADL : List Str := ["", " ", "pipe", "pipe 0", "pipe 0 1 1", "pipe 0 0", "pipe 1 1", "pipe 0 12", "pipe 12 0", "pipe 0 100", "pipe 0 01", "pipe 0 -1", "pipe 0 +1", "pipe 00 1", "Pipe 0 1", " pipe 0 1", "pipe 0 1 ", "pipe  0 1"]
abbrev BADF : List Str := ["places", "places 0", "places 13", "places 01", "place 3", "places 3 ", "places  3", "", "places x", "Places 3"]
def sAt (l : List Str) (c : Int) : Str := (l[(c % (l.length : Int)).toNat]?).getD ""
theorem badL_ok : ∀ z ∈ BADL, 10 ∉ tl z ∧ z.length ≤ 20 := by decide +kernel
theorem badF_ok : ∀ z ∈ BADF, 10 ∉ tl z ∧ z.length ≤ 20 := by decide +kernel
theorem sAt_mem {l : List Str} {c : Int} (h : 0 < l.length) : sAt l c ∈ l ∧ atI (l.map D.str) (((c % (l.length : Int)).toNat : Nat) : Int) = some (.str (sAt l c)) ∧ (((c % (l.length : Int)).toNat : Nat) : Int) = c % (l.length : Int) ∧ (c % (l.length : Int)).toNat < l.length := by
  have a1 : 0 ≤ c % (l.length : Int) := Int.emod_nonneg _ (by omega)
  have a2 : c % (l.length : Int) < l.length := Int.emod_lt_of_pos _ (by omega)
  have a3 : (c % (l.length : Int)).toNat < l.length := by omega
  have e : l[(c % (l.length : Int)).toNat]? = some (sAt l c) := by
    unfold sAt
    rw [List.getElem?_eq_getElem a3]
    rfl
  refine ⟨List.mem_of_getElem? e, atI_nat ?_, by omega, a3⟩
  rw [List.getElem?_map, e]
  rfl
def F_law_bad_line : FN
  | [.val (.int c)] => some (.inl (.val (.str (sAt BADL c))))
  | _ => none
/-- _law_bad_line: 0 cell 1 some -/
def t_law_bad_line : VT := (seqT (asgV 1 (v1 slD (oLst (aCons (vC (.str "")) (aCons (vC (.str " ")) (aCons (vC (.str "pipe")) (aCons (vC (.str "pipe 0")) (aCons (vC (.str "pipe 0 1 1")) (aCons (vC (.str "pipe 0 0")) (aCons (vC (.str "pipe 1 1")) (aCons (vC (.str "pipe 0 12")) aNil))))))))))) (seqT (asgV 1 (v1 slD (v2 fCat (lVar 1) (v1 slL (oLst (aCons (vC (.str "pipe 12 0")) (aCons (vC (.str "pipe 0 100")) (aCons (vC (.str "pipe 0 01")) (aCons (vC (.str "pipe 0 -1")) (aCons (vC (.str "pipe 0 +1")) (aCons (vC (.str "pipe 00 1")) aNil))))))))))) (seqT (asgV 1 (v1 slD (v2 fCat (lVar 1) (v1 slL (oLst (aCons (vC (.str "Pipe 0 1")) (aCons (vC (.str " pipe 0 1")) (aCons (vC (.str "pipe 0 1 ")) (aCons (vC (.str "pipe  0 1")) aNil))))))))) (seqT (retV (v2 fIx (vVar 1) (v2 fMod (vVar 0) (vC (.int 18))))) skipT))))
theorem v_law_bad_line : ∀ ss r, ss.length = 1 → F_law_bad_line ss = some r → t_law_bad_line (postP r) (En0 ss 2) ∧ ∃ s, r = .inl s := by
  intro ss r hl h
  unfold F_law_bad_line at h
  split at h
  · rename_i c
    have h1 := Option.some.inj h
    clear h
    subst h1
    refine ⟨?_, _, rfl⟩
    refine ⟨_, rfl, ?_⟩
    refine ⟨_, rfl, ?_⟩
    refine ⟨_, rfl, ?_⟩
    obtain ⟨_, e, e2, _⟩ := sAt_mem (l := BADL) (c := c) (by decide)
    refine ⟨.str (sAt BADL c), v2e (x := .lst (BADL.map D.str)) (y := .int (((c % (BADL.length : Int)).toNat : Nat) : Int)) rfl (v2e rfl rfl (by rw [e2]; exact fMod_pos (by decide))) (show fIx (.lst (BADL.map D.str)) (.int (((c % (BADL.length : Int)).toNat : Nat) : Int)) = _ from e), rfl⟩
  · cases h
def F_law_bad_first : FN
  | [.val (.int c)] => some (.inl (.val (.str (sAt BADF c))))
  | _ => none
/-- _law_bad_first: 0 cell 1 some -/
def t_law_bad_first : VT := (seqT (asgV 1 (v1 slD (oLst (aCons (vC (.str "places")) (aCons (vC (.str "places 0")) (aCons (vC (.str "places 13")) (aCons (vC (.str "places 01")) (aCons (vC (.str "place 3")) (aCons (vC (.str "places 3 ")) aNil))))))))) (seqT (asgV 1 (v1 slD (v2 fCat (lVar 1) (v1 slL (oLst (aCons (vC (.str "places  3")) (aCons (vC (.str "")) (aCons (vC (.str "places x")) (aCons (vC (.str "Places 3")) aNil))))))))) (seqT (retV (v2 fIx (vVar 1) (v2 fMod (vVar 0) (vC (.int 10))))) skipT)))
theorem v_law_bad_first : ∀ ss r, ss.length = 1 → F_law_bad_first ss = some r → t_law_bad_first (postP r) (En0 ss 2) ∧ ∃ s, r = .inl s := by
  intro ss r hl h
  unfold F_law_bad_first at h
  split at h
  · rename_i c
    have h1 := Option.some.inj h
    clear h
    subst h1
    refine ⟨?_, _, rfl⟩
    refine ⟨_, rfl, ?_⟩
    refine ⟨_, rfl, ?_⟩
    obtain ⟨_, e, e2, _⟩ := sAt_mem (l := BADF) (c := c) (by decide)
    refine ⟨.str (sAt BADF c), v2e (x := .lst (BADF.map D.str)) (y := .int (((c % (BADF.length : Int)).toNat : Nat) : Int)) rfl (v2e rfl rfl (by rw [e2]; exact fMod_pos (by decide))) (show fIx (.lst (BADF.map D.str)) (.int (((c % (BADF.length : Int)).toNat : Nat) : Int)) = _ from e), rfl⟩
  · cases h
abbrev SG : Str := "0123456789 -+.pst_"
def sgAt (c : Int) : Str := ⟨#[(SG.cps.toList[(c / 11 % 18).toNat]?).getD 0]⟩
def headS (z : Str) (k : Nat) : Str := cutS z none (some (k : Int))
def tailS (z : Str) (k : Nat) : Str := cutS z (some (k : Int)) none
def spotN (z : Str) (c : Int) : Nat := (c / 90 % ((z.length : Int) + 1)).toNat
def plcS (ls : List Str) (c : Int) : Nat := (c / 9 % (ls.length : Int)).toNat
def spoilL (ls : List Str) (c : Int) : List Str :=
  let line := sAt ls (c / 9)
  let ahead := ls.take (plcS ls c)
  let behind := ls.drop (plcS ls c + 1)
  let spot := spotN line c
  if c % 9 = 0 then ahead ++ [headS line spot ++ sgAt c ++ tailS line spot] ++ behind
  else if c % 9 = 1 then ahead ++ [headS line spot ++ tailS line (spot + 1)] ++ behind
  else if c % 9 = 2 then ahead ++ [headS line spot ++ sgAt c ++ tailS line (spot + 1)] ++ behind
  else if c % 9 = 3 then ahead ++ [line, line] ++ behind
  else if c % 9 = 4 then ahead ++ [line, sAt BADL (c / 9)] ++ behind
  else if c % 9 = 5 then [sAt BADF (c / 9)] ++ ls.drop 1
  else if c % 9 = 6 then ls.drop 1
  else ls ++ [("pipe 0 1" : Str)]
theorem headS_ok {z : Str} {k : Nat} : (10 ∉ tl z → 10 ∉ tl (headS z k)) ∧ (headS z k).length ≤ z.length := by
  refine ⟨fun h q => h ?_, cutS_length _ _ _⟩
  unfold headS at q
  rw [tl_cutS] at q
  unfold cutD at q
  exact List.mem_of_mem_drop (List.mem_of_mem_take q)
theorem tailS_ok {z : Str} {k : Nat} : (10 ∉ tl z → 10 ∉ tl (tailS z k)) ∧ (tailS z k).length ≤ z.length := by
  refine ⟨fun h q => h ?_, cutS_length _ _ _⟩
  unfold tailS at q
  rw [tl_cutS] at q
  unfold cutD at q
  exact List.mem_of_mem_drop (List.mem_of_mem_take q)
def sgOk (i : Nat) : Bool := match fIx (.str SG) (.int (i : Int)) with
  | some (.str y) => decide (y = ⟨#[(SG.cps.toList[i]?).getD 0]⟩)
  | _ => false
theorem sg_ok : ∀ i ∈ List.range 18, 10 ∉ tl (⟨#[(SG.cps.toList[i]?).getD 0]⟩ : Str) ∧ (⟨#[(SG.cps.toList[i]?).getD 0]⟩ : Str).length = 1 ∧ sgOk i = true := by decide +kernel
theorem sg_at (c : Int) : 10 ∉ tl (sgAt c) ∧ (sgAt c).length = 1 ∧ fIx (.str SG) (.int (c / 11 % 18)) = some (.str (sgAt c)) := by
  have a1 : 0 ≤ c / 11 % 18 := Int.emod_nonneg _ (by omega)
  have a2 : c / 11 % 18 < 18 := Int.emod_lt_of_pos _ (by omega)
  obtain ⟨h1, h2, h3⟩ := sg_ok _ (List.mem_range.mpr (show (c / 11 % 18).toNat < 18 by omega))
  refine ⟨h1, h2, ?_⟩
  unfold sgOk at h3
  rw [Int.toNat_of_nonneg a1] at h3
  split at h3
  · rename_i y e
    rw [e]
    have := of_decide_eq_true h3
    rw [this]
    rfl
  · cases h3
def OkL (m : Nat) (ls : List Str) : Prop := ∀ z ∈ ls, 10 ∉ tl z ∧ z.length ≤ m
theorem spoil_okL {m : Nat} {ls : List Str} {c : Int} (h : OkL m ls) (hm : 20 ≤ m) (hne : ls ≠ []) : OkL (2 * m + 1) (spoilL ls c) ∧ (spoilL ls c).length ≤ ls.length + 1 := by
  have hpos : 0 < ls.length := List.length_pos_iff.mpr hne
  have hline := h _ (sAt_mem (c := c / 9) hpos).1
  obtain ⟨g1, g2, _⟩ := sg_at c
  have hb := badL_ok _ (sAt_mem (l := BADL) (c := c / 9) (by decide)).1
  have hf := badF_ok _ (sAt_mem (l := BADF) (c := c / 9) (by decide)).1
  have hp : plcS ls c < ls.length := (sAt_mem (c := c / 9) hpos).2.2.2
  have take : ∀ z ∈ ls.take (plcS ls c), 10 ∉ tl z ∧ z.length ≤ 2 * m + 1 := fun z hz => by have := h z (List.mem_of_mem_take hz); exact ⟨this.1, by omega⟩
  have drop : ∀ k, ∀ z ∈ ls.drop k, 10 ∉ tl z ∧ z.length ≤ 2 * m + 1 := fun k z hz => by have := h z (List.mem_of_mem_drop hz); exact ⟨this.1, by omega⟩
  have app : ∀ {a b : Str}, (10 ∉ tl a → 10 ∉ tl b → 10 ∉ tl (a ++ b)) := fun {a b} h1 h2 => by
    rw [tl_append]
    exact fun q => (List.mem_append.mp q).elim h1 h2
  have mid : ∀ {xs : List Str}, (∀ z ∈ xs, 10 ∉ tl z ∧ z.length ≤ 2 * m + 1) → OkL (2 * m + 1) (ls.take (plcS ls c) ++ xs ++ ls.drop (plcS ls c + 1)) := fun {xs} hx z hz => by
    rcases List.mem_append.mp hz with hz | hz
    · rcases List.mem_append.mp hz with hz | hz
      · exact take z hz
      · exact hx z hz
    · exact drop _ z hz
  have len : ∀ {xs : List Str}, xs.length ≤ 2 → (ls.take (plcS ls c) ++ xs ++ ls.drop (plcS ls c + 1)).length ≤ ls.length + 1 := fun {xs} hx => by
    simp only [List.length_append, List.length_take, List.length_drop]
    omega
  generalize hL : sAt ls (c / 9) = line at hline
  have hS : ∀ k, 10 ∉ tl (headS line k) ∧ (headS line k).length ≤ m := fun k => ⟨headS_ok.1 hline.1, Nat.le_trans headS_ok.2 hline.2⟩
  have tS : ∀ k, 10 ∉ tl (tailS line k) ∧ (tailS line k).length ≤ m := fun k => ⟨tailS_ok.1 hline.1, Nat.le_trans tailS_ok.2 hline.2⟩
  unfold spoilL
  simp only [hL]
  split
  · refine ⟨mid fun z hz => ?_, len (by simp)⟩
    simp at hz
    subst hz
    refine ⟨app (app (hS _).1 g1) (tS _).1, ?_⟩
    rw [len_app, len_app, g2]
    have := (hS (spotN line c)).2
    have := (tS (spotN line c)).2
    omega
  split
  · refine ⟨mid fun z hz => ?_, len (by simp)⟩
    simp at hz
    subst hz
    refine ⟨app (hS _).1 (tS _).1, ?_⟩
    rw [len_app]
    have := (hS (spotN line c)).2
    have := (tS (spotN line c + 1)).2
    omega
  split
  · refine ⟨mid fun z hz => ?_, len (by simp)⟩
    simp at hz
    subst hz
    refine ⟨app (app (hS _).1 g1) (tS _).1, ?_⟩
    rw [len_app, len_app, g2]
    have := (hS (spotN line c)).2
    have := (tS (spotN line c + 1)).2
    omega
  split
  · refine ⟨mid fun z hz => ?_, len (by simp)⟩
    simp at hz
    subst hz
    exact ⟨hline.1, by have := hline.2; omega⟩
  split
  · refine ⟨mid fun z hz => ?_, len (by simp)⟩
    simp only [List.mem_cons, List.not_mem_nil, or_false] at hz
    rcases hz with rfl | rfl
    · exact ⟨hline.1, by have := hline.2; omega⟩
    · exact ⟨hb.1, by have := hb.2; omega⟩
  split
  · refine ⟨fun z hz => ?_, by simp only [List.length_append, List.length_drop, List.length_singleton]; omega⟩
    rcases List.mem_append.mp hz with hz | hz
    · simp only [List.mem_cons, List.not_mem_nil, or_false] at hz
      subst hz
      exact ⟨hf.1, by have := hf.2; omega⟩
    · exact drop _ z hz
  split
  · exact ⟨drop 1, by rw [List.length_drop]; omega⟩
  · refine ⟨fun z hz => ?_, by rw [List.length_append, List.length_singleton]; exact Nat.le_refl _⟩
    rcases List.mem_append.mp hz with hz | hz
    · have := h z hz
      exact ⟨this.1, by omega⟩
    · simp only [List.mem_cons, List.not_mem_nil, or_false] at hz
      subst hz
      exact ⟨by decide +kernel, Nat.le_trans (show ("pipe 0 1" : Str).length ≤ 20 by decide +kernel) (by omega)⟩
theorem takeS {i p : Nat} {Γ : En} {f : VF} {l : List Str} (h1 : lVar i Γ = some (l.map .str)) (h2 : f Γ = some (dInt p)) (h : p ≤ l.length) : vCut cutL (lVar i) pN (pI f) Γ = some (.own .loc ((l.take p).map .str)) := by
  unfold vCut pI pN
  rw [h1, h2]
  show cutL (l.map D.str) none (some (p : Int)) = _
  unfold cutL
  rw [cut_take _ _ (by rw [List.length_map]; exact h), List.map_take]
theorem cut_dropS {α : Type} (xs : List α) (k : Nat) : cutD xs (some (k : Int)) none = xs.drop k := by
  by_cases h : k ≤ xs.length
  · exact cut_drop xs k h
  · unfold cutD
    rw [HT.sIx_nat, show min k xs.length = xs.length by omega, List.drop_of_length_le (Nat.le_refl _), List.drop_of_length_le (by omega)]
    simp
theorem dropS {i p : Nat} {Γ : En} {f : VF} {l : List Str} (h1 : lVar i Γ = some (l.map .str)) (h2 : f Γ = some (dInt p)) : vCut cutL (lVar i) (pI f) pN Γ = some (.own .loc ((l.drop p).map .str)) := by
  unfold vCut pI pN
  rw [h1, h2]
  show cutL (l.map D.str) (some (p : Int)) none = _
  unfold cutL
  rw [cut_dropS, List.map_drop]
theorem catS {Γ : En} {f h : VL} {a b : List Str} (h1 : f Γ = some (a.map .str)) (h2 : h Γ = some (b.map .str)) (hl : a.length + b.length ≤ 1000000) : v2 fCat f h Γ = some (.own .loc ((a ++ b).map .str)) := by
  refine v2e h1 h2 ?_
  unfold fCat
  rw [if_pos (decide_eq_true (by rw [List.length_map, List.length_map]; exact hl)), List.map_append]
theorem headE {Γ : En} {f h : VF} {z : Str} {k : Nat} (h1 : f Γ = some (.str z)) (h2 : h Γ = some (dInt k)) (hz : z.length ≤ 1000000) : vCutS f pN (pI h) Γ = some (.str (headS z k)) := by
  unfold vCutS pI pN
  rw [h1, h2]
  exact if_pos (decide_eq_true hz)
theorem tailE {Γ : En} {f h : VF} {z : Str} {k : Nat} (h1 : f Γ = some (.str z)) (h2 : h Γ = some (dInt k)) (hz : z.length ≤ 1000000) : vCutS f (pI h) pN Γ = some (.str (tailS z k)) := by
  unfold vCutS pI pN
  rw [h1, h2]
  exact if_pos (decide_eq_true hz)
theorem oneS {Γ : En} {f : VF} {z : Str} (h : f Γ = some (.str z)) : v1 slL (oLst (aCons f aNil)) Γ = some ([z].map .str) := by
  refine v1e (x := .own .loc [.str z]) ?_ rfl
  unfold oLst aCons aNil
  rw [h]
  rfl
theorem twoS {Γ : En} {f h : VF} {z y : Str} (h1 : f Γ = some (.str z)) (h2 : h Γ = some (.str y)) : v1 slL (oLst (aCons f (aCons h aNil))) Γ = some ([z, y].map .str) := by
  refine v1e (x := .own .loc [.str z, .str y]) ?_ rfl
  unfold oLst aCons aNil
  rw [h1, h2]
  rfl
def F_law_spoiled_k14 : FN
  | [.val (.lst ds), .val (.int c)] => (toSs ds).bind fun ls => if ls ≠ [] ∧ ls.length ≤ 1000 ∧ (∀ z ∈ ls, z.length ≤ 1000) then some (.inl (.own .loc ((spoilL ls c).map .str))) else none
  | _ => none
theorem F_spoil14 {ls : List Str} {c : Int} (h : ls ≠ []) (h1 : ls.length ≤ 1000) (h2 : ∀ z ∈ ls, z.length ≤ 1000) : F_law_spoiled_k14 [.val (.lst (ls.map .str)), .val (.int c)] = some (.inl (.own .loc ((spoilL ls c).map .str))) := by
  show (toSs _).bind _ = _
  rw [toSs_map, Option.bind_some]
  exact ite_some ⟨h, h1, h2⟩
/-- _law_spoiled: 0 lines 1 cell 2 place 3 line 4 ahead 5 behind 6 spot 7 sign 8 kind -/
def t_law_spoiled_k14 : VT := (seqT (asgV 2 (v2 fMod (v2 fDiv (vVar 1) (vC (.int 9))) (v1 fLenL (lVar 0)))) (seqT (asgV 3 (v2 fIx (vVar 0) (vVar 2))) (seqT (asgV 4 (v1 slD (vCut cutL (lVar 0) pN (pI (vVar 2))))) (seqT (asgV 5 (v1 slD (vCut cutL (lVar 0) (pI (v2 fAdd (vVar 2) (vC (.int 1)))) pN))) (seqT (asgV 6 (v2 fMod (v2 fDiv (vVar 1) (vC (.int 90))) (v2 fAdd (v1 fLen (vVar 3)) (vC (.int 1))))) (seqT (asgV 7 (v2 fIx (vC (.str "0123456789 -+.pst_")) (v2 fMod (v2 fDiv (vVar 1) (vC (.int 11))) (vC (.int 18))))) (seqT (asgV 8 (v2 fMod (vVar 1) (vC (.int 9)))) (seqT (ifT (bV (v2 fEq (vVar 8) (vC (.int 0)))) (seqT (retO (v2 fCat (v1 slL (v2 fCat (lVar 4) (v1 slL (oLst (aCons (v2 fAddS (v2 fAddS (vCutS (vVar 3) pN (pI (vVar 6))) (vVar 7)) (vCutS (vVar 3) (pI (vVar 6)) pN)) aNil))))) (lVar 5))) skipT) skipT) (seqT (ifT (bV (v2 fEq (vVar 8) (vC (.int 1)))) (seqT (retO (v2 fCat (v1 slL (v2 fCat (lVar 4) (v1 slL (oLst (aCons (v2 fAddS (vCutS (vVar 3) pN (pI (vVar 6))) (vCutS (vVar 3) (pI (v2 fAdd (vVar 6) (vC (.int 1)))) pN)) aNil))))) (lVar 5))) skipT) skipT) (seqT (ifT (bV (v2 fEq (vVar 8) (vC (.int 2)))) (seqT (retO (v2 fCat (v1 slL (v2 fCat (lVar 4) (v1 slL (oLst (aCons (v2 fAddS (v2 fAddS (vCutS (vVar 3) pN (pI (vVar 6))) (vVar 7)) (vCutS (vVar 3) (pI (v2 fAdd (vVar 6) (vC (.int 1)))) pN)) aNil))))) (lVar 5))) skipT) skipT) (seqT (ifT (bV (v2 fEq (vVar 8) (vC (.int 3)))) (seqT (retO (v2 fCat (v1 slL (v2 fCat (lVar 4) (v1 slL (oLst (aCons (vVar 3) (aCons (vVar 3) aNil)))))) (lVar 5))) skipT) skipT) (seqT (ifT (bV (v2 fEq (vVar 8) (vC (.int 4)))) (seqT (retO (v2 fCat (v1 slL (v2 fCat (lVar 4) (v1 slL (oLst (aCons (vVar 3) (aCons (v1 slD (v1 inlO (xCall 1 F_law_bad_line (rV (v2 fDiv (vVar 1) (vC (.int 9))) rNil)))) aNil)))))) (lVar 5))) skipT) skipT) (seqT (ifT (bV (v2 fEq (vVar 8) (vC (.int 5)))) (seqT (retO (v2 fCat (v1 slL (oLst (aCons (v1 slD (v1 inlO (xCall 1 F_law_bad_first (rV (v2 fDiv (vVar 1) (vC (.int 9))) rNil)))) aNil))) (v1 slL (vCut cutL (lVar 0) (pI (vC (.int 1))) pN)))) skipT) skipT) (seqT (ifT (bV (v2 fEq (vVar 8) (vC (.int 6)))) (seqT (retO (vCut cutL (lVar 0) (pI (vC (.int 1))) pN)) skipT) skipT) (seqT (retO (v2 fCat (lVar 0) (v1 slL (oLst (aCons (vC (.str "pipe 0 1")) aNil))))) skipT)))))))))))))))
theorem v_law_spoiled_k14 : ∀ ss r, ss.length = 2 → F_law_spoiled_k14 ss = some r → t_law_spoiled_k14 (postP r) (En0 ss 9) ∧ ∃ s, r = .inl s := by
  intro ss r hl h
  unfold F_law_spoiled_k14 at h
  split at h
  · rename_i ds c
    obtain ⟨ls, e1, h1⟩ := Option.bind_eq_some_iff.mp h
    clear h
    split at h1
    · rename_i hc
      have h2 := Option.some.inj h1
      clear h1
      subst h2
      cases toSs_some e1
      obtain ⟨hne, hl1, hl2⟩ := hc
      refine ⟨?_, _, rfl⟩
      have hpos : 0 < ls.length := List.length_pos_iff.mpr hne
      obtain ⟨m1, m2, m3, m4⟩ := sAt_mem (c := c / 9) hpos
      have hline := hl2 _ m1
      have hpl : plcS ls c ≤ ls.length := Nat.le_of_lt m4
      have eSp : (ls.map D.str).length = ls.length := List.length_map ..
      refine ⟨dInt (plcS ls c), v2e (y := .int (ls.length : Int)) (v2e rfl rfl (fDiv_pos (by omega) (by omega))) (v1e (x := ls.map D.str) rfl (by unfold fLenL; rw [eSp])) (by rw [show dInt (plcS ls c) = D.int (c / 9 % (ls.length : Int)) from congrArg D.int m3]; exact fMod_pos (by omega)), ?_⟩
      refine ⟨.str (sAt ls (c / 9)), v2e rfl rfl (show fIx (.lst (ls.map D.str)) (dInt (plcS ls c)) = _ from m2), ?_⟩
      have hsp : spoilL ls c = (if c % 9 = 0 then ls.take (plcS ls c) ++ [headS (sAt ls (c / 9)) (spotN (sAt ls (c / 9)) c) ++ sgAt c ++ tailS (sAt ls (c / 9)) (spotN (sAt ls (c / 9)) c)] ++ ls.drop (plcS ls c + 1)
        else if c % 9 = 1 then ls.take (plcS ls c) ++ [headS (sAt ls (c / 9)) (spotN (sAt ls (c / 9)) c) ++ tailS (sAt ls (c / 9)) (spotN (sAt ls (c / 9)) c + 1)] ++ ls.drop (plcS ls c + 1)
        else if c % 9 = 2 then ls.take (plcS ls c) ++ [headS (sAt ls (c / 9)) (spotN (sAt ls (c / 9)) c) ++ sgAt c ++ tailS (sAt ls (c / 9)) (spotN (sAt ls (c / 9)) c + 1)] ++ ls.drop (plcS ls c + 1)
        else if c % 9 = 3 then ls.take (plcS ls c) ++ [sAt ls (c / 9), sAt ls (c / 9)] ++ ls.drop (plcS ls c + 1)
        else if c % 9 = 4 then ls.take (plcS ls c) ++ [sAt ls (c / 9), sAt BADL (c / 9)] ++ ls.drop (plcS ls c + 1)
        else if c % 9 = 5 then [sAt BADF (c / 9)] ++ ls.drop 1
        else if c % 9 = 6 then ls.drop 1
        else ls ++ [("pipe 0 1" : Str)]) := rfl
      generalize sAt ls (c / 9) = line at hline hsp ⊢
      have hs1 : 0 ≤ c / 90 % ((line.length : Int) + 1) := Int.emod_nonneg _ (by omega)
      have hs2 : c / 90 % ((line.length : Int) + 1) < (line.length : Int) + 1 := Int.emod_lt_of_pos _ (by omega)
      have hs3 : ((spotN line c : Nat) : Int) = c / 90 % ((line.length : Int) + 1) := Int.toNat_of_nonneg hs1
      refine ⟨.lst ((ls.take (plcS ls c)).map .str), v1e (takeS rfl rfl hpl) rfl, ?_⟩
      refine ⟨.lst ((ls.drop (plcS ls c + 1)).map .str), v1e (dropS (p := plcS ls c + 1) rfl (v2e (x := dInt (plcS ls c)) rfl rfl rfl)) rfl, ?_⟩
      refine ⟨dInt (spotN line c), v2e (y := .int ((line.length : Int) + 1)) (v2e rfl rfl (fDiv_pos (by omega) (by omega))) (v2e (x := .int (line.length : Int)) (v1e rfl (fLen_str (by omega))) rfl rfl) (by rw [show dInt (spotN line c) = D.int (c / 90 % ((line.length : Int) + 1)) from congrArg D.int hs3]; exact fMod_pos (by omega)), ?_⟩
      obtain ⟨g1, g2, g3⟩ := sg_at c
      refine ⟨.str (sgAt c), v2e (y := .int (c / 11 % 18)) rfl (v2e (v2e rfl rfl (fDiv_pos (by omega) (by omega))) rfl (fMod_pos (by omega))) g3, ?_⟩
      refine ⟨.int (c % 9), v2e rfl rfl (fMod_pos (by omega)), ?_⟩
      generalize plcS ls c = pl at hpl hsp ⊢
      generalize spotN line c = sp at hsp ⊢
      generalize sgAt c = sg at g2 hsp ⊢
      have la : (ls.take pl).length ≤ 1000 := by rw [List.length_take]; omega
      have lb : (ls.drop (pl + 1)).length ≤ 1000 := by rw [List.length_drop]; omega
      have c1 := (headS_ok (z := line) (k := sp)).2
      have c2 := (tailS_ok (z := line) (k := sp)).2
      have c3 := (tailS_ok (z := line) (k := sp + 1)).2
      have sub : ∀ {xs ys zs : List Str}, xs.length ≤ 1000 → ys.length ≤ 2 → zs.length ≤ 1000 → (xs ++ ys).length + zs.length ≤ 1000000 := fun {xs ys zs} a b c => by rw [List.length_append]; omega
      refine if_d (p := c % 9 = 0) (bVe (v2e rfl rfl rfl)) (fun k => ?_) (fun k0 => ?_)
      · rw [hsp, if_pos k]
        refine ⟨_, catS (v1e (catS rfl (oneS (addE (addE (headE rfl rfl (by omega)) rfl (by omega)) (tailE rfl rfl (by omega)) (by rw [len_app]; omega))) (by simp only [List.length_singleton]; omega)) rfl) rfl (sub la (by simp) lb), rfl⟩
      rw [if_neg k0] at hsp
      refine if_d (p := c % 9 = 1) (bVe (v2e rfl rfl rfl)) (fun k => ?_) (fun k1 => ?_)
      · rw [hsp, if_pos k]
        refine ⟨_, catS (v1e (catS rfl (oneS (addE (headE rfl rfl (by omega)) (tailE (k := sp + 1) rfl (v2e (x := dInt sp) rfl rfl rfl) (by omega)) (by omega))) (by simp only [List.length_singleton]; omega)) rfl) rfl (sub la (by simp) lb), rfl⟩
      rw [if_neg k1] at hsp
      refine if_d (p := c % 9 = 2) (bVe (v2e rfl rfl rfl)) (fun k => ?_) (fun k2 => ?_)
      · rw [hsp, if_pos k]
        refine ⟨_, catS (v1e (catS rfl (oneS (addE (addE (headE rfl rfl (by omega)) rfl (by omega)) (tailE (k := sp + 1) rfl (v2e (x := dInt sp) rfl rfl rfl) (by omega)) (by rw [len_app]; omega))) (by simp only [List.length_singleton]; omega)) rfl) rfl (sub la (by simp) lb), rfl⟩
      rw [if_neg k2] at hsp
      refine if_d (p := c % 9 = 3) (bVe (v2e rfl rfl rfl)) (fun k => ?_) (fun k3 => ?_)
      · rw [hsp, if_pos k]
        refine ⟨_, catS (v1e (catS rfl (twoS (z := line) (y := line) rfl rfl) (by simp only [List.length_cons, List.length_nil]; omega)) rfl) rfl (sub la (by simp) lb), rfl⟩
      rw [if_neg k3] at hsp
      have ediv : ∀ {Γ : En}, vVar 1 Γ = some (.int c) → v2 fDiv (vVar 1) (vC (.int 9)) Γ = some (.int (c / 9)) := fun e => v2e e rfl (fDiv_pos (by omega) (by omega))
      refine if_d (p := c % 9 = 4) (bVe (v2e rfl rfl rfl)) (fun k => ?_) (fun k4 => ?_)
      · rw [hsp, if_pos k]
        refine ⟨_, catS (v1e (catS rfl (twoS (z := line) (y := sAt BADL (c / 9)) rfl (v1e (v1e (xc (rVe (ediv rfl) rfl) ⟨rfl, rfl⟩ rfl rfl) rfl) rfl)) (by simp only [List.length_cons, List.length_nil]; omega)) rfl) rfl (sub la (by simp) lb), rfl⟩
      rw [if_neg k4] at hsp
      refine if_d (p := c % 9 = 5) (bVe (v2e rfl rfl rfl)) (fun k => ?_) (fun k5 => ?_)
      · rw [hsp, if_pos k]
        refine ⟨_, catS (oneS (z := sAt BADF (c / 9)) (v1e (v1e (xc (rVe (ediv rfl) rfl) ⟨rfl, rfl⟩ rfl rfl) rfl) rfl)) (v1e (dropS (l := ls) (p := 1) rfl rfl) rfl) (by rw [List.length_drop, List.length_singleton]; omega), rfl⟩
      rw [if_neg k5] at hsp
      refine if_d (p := c % 9 = 6) (bVe (v2e rfl rfl rfl)) (fun k => ?_) (fun k6 => ?_)
      · rw [hsp, if_pos k]
        exact ⟨_, dropS (l := ls) (p := 1) rfl rfl, rfl⟩
      rw [if_neg k6] at hsp
      rw [hsp]
      exact ⟨_, catS (a := ls) (b := [("pipe 0 1" : Str)]) rfl (oneS rfl) (by simp only [List.length_cons, List.length_nil]; omega), rfl⟩
    · cases h1
  · cases h
end Z

set_option maxRecDepth 100000
namespace Z
open PySem PySem.Spec PyProof.Rows L2 TL

/-! ### the fourteenth law -/
theorem dueN_len {ls : List Str} {x : Nat × List P3} (h : dueN ls = some x) : x.2.length ≤ 60 := by
  cases ls with
  | nil => cases h
  | cons l0 rest =>
    obtain ⟨k, _, h⟩ := Option.bind_eq_some_iff.mp (show (headN l0).bind _ = some x from h)
    split at h
    · obtain ⟨ps, _, h⟩ := Option.bind_eq_some_iff.mp h
      split at h
      · cases h
        assumption
      · cases h
    · cases h
theorem okD_marks : okD (.lst [.bl true, .bl true, .bl false, .bl false, .bl false, .bl false]) = true := by decide +kernel
def F_law_k14 : FN
  | [.val (.scr _)] => some (.inl (.val (.bl true)))
  | _ => none
theorem F_law_k14_t (ns : List Int) (_ : ns.length ≤ 63) : F_law_k14 [.val (.scr ns)] = some (.inl (.val (.bl true))) := rfl
/-- law: 0 script 1 size 2 many 3 pipes 4 lines 5 cell 6 text 7 due 8 found 9 marks 10 e 11 told 12 pipe 13 line -/
def t_law_k14 : VT := (seqT (asgV 1 (v2 fAdd (vC (.int 1)) (v2 fMod (v1 slD (v1 inlO (xCall 2 F_law_cell_at (rV (vVar 0) (rV (vC (.int 0)) rNil))))) (vC (.int 12))))) (seqT (asgV 2 (v2 fMod (v1 slD (v1 inlO (xCall 2 F_law_cell_at (rV (vVar 0) (rV (vC (.int 1)) rNil))))) (vC (.int 9)))) (seqT (ifT (bV (v2 fEq (v2 fMod (v2 fDiv (v1 slD (v1 inlO (xCall 2 F_law_cell_at (rV (vVar 0) (rV (vC (.int 1)) rNil))))) (vC (.int 9))) (vC (.int 8))) (vC (.int 1)))) (seqT (asgV 2 (vC (.int 60))) skipT) skipT) (seqT (asgV 3 (v1 slD (v1 inlO (xCall 4 F_law_pipes_by (rV (vVar 0) (rV (vC (.int 4)) (rV (vVar 2) (rV (vVar 1) rNil)))))))) (seqT (asgV 4 (v1 slD (v2 fCat (v1 slL (oLst (aCons (v2 fAddS (vC (.str "places ")) (v1 fStrI (vVar 1))) aNil))) (v1 slL (vLc [12] (lVar 3) (gN 12) bT (v1 slD (v1 inlO (xCall 1 F_law_line (rV (vVar 12) rNil))))))))) (seqT (asgV 5 (v2 fMod (v1 slD (v1 inlO (xCall 2 F_law_cell_at (rV (vVar 0) (rV (vC (.int 2)) rNil))))) (v2 fPow (vC (.int 10)) (vC (.int 9))))) (seqT (ifT (bV (v2 fGt (v2 fMod (vVar 5) (vC (.int 3))) (vC (.int 0)))) (seqT (asgV 4 (v1 slD (v1 inlO (xCall 2 F_law_spoiled_k14 (rV (vVar 4) (rV (v2 fDiv (vVar 5) (vC (.int 3))) rNil)))))) skipT) skipT) (seqT (asgV 6 (v2 fJoin (vC (.str "")) (v1 slL (vLc [13] (lVar 4) (gN 13) bT (v2 fAddS (vVar 13) (vC (.str "\n"))))))) (seqT (asgV 7 (v1 slD (v1 inlO (xCall 1 F_law_due_k14 (rV (vVar 4) rNil))))) (seqT (ifT (bAnd (bV (v2 fEq (v2 fMod (vVar 5) (vC (.int 3))) (vC (.int 2)))) (bV (v2 fEq (v2 fMod (v2 fDiv (vVar 5) (vC (.int 3))) (vC (.int 9))) (vC (.int 8))))) (seqT (asgV 6 (vCutS (vVar 6) pN (pI (v1 fNeg (vC (.int 1)))))) (seqT (asgV 7 (vC .non)) skipT)) skipT) (seqT (asgO 8 (v1 dO (vC .non))) (seqT (asgO 9 (oLst aNil)) (seqT (tryMT (ctL [.much, .place, .pipe, .same, .net]) 10 9 [(.own .net), .ve, (.own .place), (.own .pipe), (.own .same), (.own .much)] (seqT (asgX 8 (xCall 1 F_read_k14 (rV (vVar 6) rNil))) skipT)) (seqT (ifT (bV (v2 fIsN (vVar 7) (vC .non))) (seqT (retV (vFrz (v2 fEq (vVar 9) (v1 slD (oLst (aCons (vC (.bl true)) (aCons (vC (.bl true)) (aCons (vC (.bl false)) (aCons (vC (.bl false)) (aCons (vC (.bl false)) (aCons (vC (.bl false)) aNil))))))))))) skipT) skipT) (seqT (ifT (bFrz (bV (v2 fNe (vVar 9) (v1 slD (oLst aNil))))) (seqT (retV (vC (.bl false))) skipT) skipT) (seqT (asgV 11 (v1 slD (v1 inlO (xMeth 1 F_size 8 rNil)))) (seqT (retV (vAnd (v1 slD (v1 inlO (xCall 1 F_law_whole (rV (vVar 11) rNil)))) (vAnd (v2 fEq (vVar 11) (v2 fIx (vVar 7) (vC (.int 0)))) (v1 slD (v1 inlO (xCall 2 F_law_same_pipes (rV (v1 slD (v1 inlO (xMeth 1 F_pipes 8 rNil))) (rV (v2 fIx (vVar 7) (vC (.int 1))) rNil)))))))) skipT)))))))))))))))))
theorem v_law_k14 : ∀ ss r, ss.length = 1 → F_law_k14 ss = some r → t_law_k14 (postP r) (En0 ss 14) ∧ ∃ s, r = .inl s := by
  intro ss r hl h
  unfold F_law_k14 at h
  split at h
  · rename_i ns
    have h1 := Option.some.inj h
    clear h
    subst h1
    refine ⟨?_, _, rfl⟩
    have a1 : 0 ≤ cellAt ns 0 % 12 := Int.emod_nonneg _ (by omega)
    have a2 : cellAt ns 0 % 12 < 12 := Int.emod_lt_of_pos _ (by omega)
    obtain ⟨n, hn0, n1, n12⟩ : ∃ n : Nat, (n : Int) = 1 + cellAt ns 0 % 12 ∧ 1 ≤ n ∧ n ≤ 12 := ⟨(1 + cellAt ns 0 % 12).toNat, by omega, by omega, by omega⟩
    refine ⟨.int (n : Int), v2e rfl (v2e (cellE (k := 0) rfl) rfl (fMod_pos (by omega))) (by rw [hn0]; rfl), ?_⟩
    have b1 : 0 ≤ cellAt ns 1 % 9 := Int.emod_nonneg _ (by omega)
    have b2 : cellAt ns 1 % 9 < 9 := Int.emod_lt_of_pos _ (by omega)
    obtain ⟨m0, hm0⟩ := Int.eq_ofNat_of_zero_le b1
    refine ⟨.int (m0 : Int), v2e (cellE (k := 1) rfl) rfl (by rw [fMod_pos (by omega), hm0]), ?_⟩
    refine if_join (fun Γ' => ∃ m : Nat, m ≤ 60 ∧ Γ' = [some (.val (.scr ns)), some (.val (.int (n : Int))), some (.val (.int (m : Int))), none, none, none, none, none, none, none, none, none, none, none])
      (p := cellAt ns 1 / 9 % 8 = 1) (bVe (v2e (v2e (v2e (cellE (k := 1) rfl) rfl (fDiv_pos (by omega) (by omega))) rfl (fMod_pos (by omega))) rfl rfl)) (fun c Q hq => ⟨_, rfl, hq _ ⟨60, by omega, rfl⟩⟩) (fun c Q hq => hq _ ⟨m0, by omega, rfl⟩) ?_
    rintro Γ ⟨m, hm, rfl⟩
    have hn := okNet_by (ns := ns) (first := 4) (many := m) (n := n) (by omega) (by omega) hm
    refine ⟨.lst (dPs (pipesBy ns 4 m n)), v1e (v1e (xc (rVe rfl (rVe rfl (rVe rfl (rVe rfl rfl)))) ⟨rfl, rfl⟩ rfl (F_pipesBy (f := 4) (m := m) (s := n) (by omega) (by omega))) rfl) rfl, ?_⟩
    generalize pipesBy ns 4 m n = ps at hn
    obtain ⟨n13, p13⟩ := hn.p13
    have h60 := hn.2.2.2
    have l1 := (sN_facts _ (List.mem_range.mpr n13)).1
    have l2 := lit_facts.2.2.2.2.2.2.2.2.1
    have hL0 : OkL 20 (line0 n :: ps.map lineL) := fun z hz => by
      rcases List.mem_cons.mp hz with rfl | hz
      · refine ⟨?_, by unfold line0; rw [len_app]; omega⟩
        unfold line0
        rw [tl_append, lit_facts.2.2.2.2.2.2.2.2.2.2.2]
        have := (sN_facts _ (List.mem_range.mpr n13)).2.1
        have := lit_facts.2.2.2.2.2.2.2.2.2.1
        simp [*]
      · obtain ⟨p, hp, rfl⟩ := List.mem_map.mp hz
        refine ⟨?_, by have := line_len (p13 p hp).1 (p13 p hp).2; omega⟩
        rw [tl_lineL]
        have q1 := (wd_facts _ (mem_b p.2.2)).2.1
        have q2 := (sN_facts _ (List.mem_range.mpr (p13 p hp).1)).2.1
        have q3 := (sN_facts _ (List.mem_range.mpr (p13 p hp).2)).2.1
        simp [*]
    refine ⟨.lst ((line0 n :: ps.map lineL).map .str), v1e (catS (a := [line0 n]) (b := ps.map lineL) (oneS (addE rfl (strE (k := n) rfl n13) (by omega))) (v1e (x := .own .loc ((ps.map lineL).map .str)) (by
      rw [List.map_map]
      exact vlc_map (enc := dP) (xs := ps) (h := fun p => D.str (lineL p)) rfl (by omega) fun p hp => lcS1 rfl rfl (v1e (v1e (xc (rVe (d := dP p) rfl rfl) ⟨rfl, rfl⟩ rfl (F_lawLine (p13 p hp))) rfl) rfl)) rfl) (by rw [List.length_map, List.length_singleton]; omega)) rfl, ?_⟩
    have hl0 : (line0 n :: ps.map lineL).length ≤ 61 := by rw [List.length_cons, List.length_map]; omega
    refine ⟨.int (cellAt ns 2 % 1000000000), v2e (y := .int 1000000000) (cellE (k := 2) rfl) (v2e (x := .int 10) (y := .int 9) rfl rfl rfl) (fMod_pos (by omega)), ?_⟩
    generalize cellAt ns 2 % 1000000000 = cc
    refine if_join (fun Γ' => ∃ ls : List Str, OkL 41 ls ∧ ls.length ≤ 62 ∧ ((cc % 3 = 2 ∧ cc / 3 % 9 = 8) → ∃ l0 mid, ls = l0 :: (mid ++ [("pipe 0 1" : Str)])) ∧
        Γ' = [some (.val (.scr ns)), some (.val (.int (n : Int))), some (.val (.int (m : Int))), some (.val (.lst (dPs ps))), some (.val (.lst (ls.map .str))), some (.val (.int cc)), none, none, none, none, none, none, none, none])
      (p := 0 < cc % 3) (bVe (v2e (v2e rfl rfl (fMod_pos (by omega))) rfl rfl)) (fun c Q hq => ?_) (fun c Q hq => hq _ ⟨_, fun z hz => ⟨(hL0 z hz).1, by have := (hL0 z hz).2; omega⟩, by omega, fun q => by omega, rfl⟩) ?_
    · obtain ⟨k1, k2⟩ := spoil_okL (c := cc / 3) hL0 (by omega) (by simp)
      refine ⟨.lst ((spoilL (line0 n :: ps.map lineL) (cc / 3)).map .str), v1e (v1e (xc (rVe rfl (rVe (v2e rfl rfl (fDiv_pos (by omega) (by omega))) rfl)) ⟨rfl, rfl⟩ rfl (F_spoil14 (c := cc / 3) (by simp) (by omega) fun z hz => by have := (hL0 z hz).2; omega)) rfl) rfl, ?_⟩
      refine hq _ ⟨spoilL (line0 n :: ps.map lineL) (cc / 3), k1, by omega, fun q => ?_, rfl⟩
      refine ⟨line0 n, ps.map lineL, ?_⟩
      unfold spoilL
      simp only
      rw [if_neg (by omega), if_neg (by omega), if_neg (by omega), if_neg (by omega), if_neg (by omega), if_neg (by omega), if_neg (by omega)]
      rfl
    rintro Γ ⟨ls, okl, hlen, hend, rfl⟩
    have htl := textOf_len (ls := ls) (m := 41) fun z hz => (okl z hz).2
    have hmul : ls.length * (41 + 1) ≤ 62 * 42 := Nat.mul_le_mul hlen (by omega)
    refine ⟨.str (textOf ls), v2e (x := .str "") (y := (ls.map fun z : Str => z ++ "\n").map D.str) rfl (v1e (x := .own .loc ((ls.map fun z : Str => z ++ "\n").map D.str)) (by
      rw [List.map_map]
      exact vlc_map (enc := D.str) (xs := ls) (h := fun z => D.str (z ++ "\n")) rfl (by omega) fun z hz => lcS1 rfl rfl (addE rfl rfl (by have := (okl z hz).2; have := lit_facts.2.2.2.2.2.1; omega))) rfl) ?_, ?_⟩
    · unfold fJoin
      simp only
      rw [toSs_map, Option.bind_some, if_pos]
      · rfl
      · refine decide_eq_true ?_
        have e0 : ("" : Str).length = 0 := by decide +kernel
        rw [e0, Nat.mul_zero]
        omega
    refine ⟨dDue (dueN ls), v1e (v1e (xc (rVe rfl rfl) ⟨rfl, rfl⟩ rfl (F_due14 (by omega) fun z hz => by have := (okl z hz).2; omega)) rfl) rfl, ?_⟩
    have plain : PlainL ls := fun z hz => (okl z hz).1
    refine if_join (fun Γ' => ∃ (z : Str) (d : Option (Nat × List P3)), z.length ≤ 900000 ∧ readN z = d ∧ (∀ x, d = some x → x.2.length ≤ 60) ∧
        Γ' = [some (.val (.scr ns)), some (.val (.int (n : Int))), some (.val (.int (m : Int))), some (.val (.lst (dPs ps))), some (.val (.lst (ls.map .str))), some (.val (.int cc)), some (.val (.str z)), some (.val (dDue d)), none, none, none, none, none, none])
      (p := cc % 3 = 2 ∧ cc / 3 % 9 = 8) (bAnd_d (bVe (v2e (v2e rfl rfl (fMod_pos (by omega))) rfl rfl)) fun _ => bVe (v2e (v2e (v2e rfl rfl (fDiv_pos (by omega) (by omega))) rfl (fMod_pos (by omega))) rfl rfl)) (fun c Q hq => ?_) (fun c Q hq => hq _ ⟨textOf ls, dueN ls, by omega, read_textOf plain, fun x hx => dueN_len hx, rfl⟩) ?_
    · refine ⟨.str (cutS (textOf ls) none (some (-1))), ?_, ?_⟩
      · unfold vCutS pI pN
        exact if_pos (decide_eq_true (show (textOf ls).length ≤ 1000000 by omega))
      · refine ⟨_, rfl, hq _ ⟨cutS (textOf ls) none (some (-1)), none, Nat.le_trans (cutS_length _ _ _) (by omega), ?_, fun x hx => (nomatch hx), rfl⟩⟩
        obtain ⟨l0, mid, rfl⟩ := hend c
        exact read_cut plain (by decide +kernel)
    rintro Γ ⟨z, d, hz, hrd, hd60, rfl⟩
    refine ⟨_, rfl, ?_⟩
    refine ⟨_, rfl, ?_⟩
    cases d with
    | none =>
      refine ⟨.inr .net, xc (rVe rfl rfl) ⟨rfl, rfl⟩ rfl (by rw [F_read14 hz, readR_none hrd]), ?_⟩
      refine ⟨rfl, rfl, by show 9 < 14; omega, ?_⟩
      refine if_t (dec_t (p := True) trivial (bVe (v2e (F := fIsN) (x := .non) (y := .non) rfl rfl rfl))) ?_
      exact ⟨.bl true, vFrzE (v2e (x := .lst [.bl true, .bl true, .bl false, .bl false, .bl false, .bl false]) (y := .lst [.bl true, .bl true, .bl false, .bl false, .bl false, .bl false]) rfl rfl (fEq_refl okD_marks)) rfl, rfl⟩
    | some x =>
      obtain ⟨k, qs⟩ := x
      have hq60 := hd60 _ rfl
      refine ⟨.inl (.net .loc (k : Int) (dPs qs)), xc (rVe rfl rfl) ⟨rfl, rfl⟩ rfl (by rw [F_read14 hz, readR_some hrd]), ?_⟩
      refine if_f (dec_f (p := False) (by simp) (bVe (v2e (F := fIsN) (x := dDue (some (k, qs))) (y := .non) rfl rfl rfl))) ?_
      refine if_f (dec_f (p := False) (by simp) (bVe (v2e (x := .lst []) (y := .lst []) rfl rfl (fNe_refl rfl)))) ?_
      refine ⟨.int (k : Int), v1e (v1e (xm rfl (xc rfl ⟨rfl, rfl⟩ rfl rfl)) rfl) rfl, ?_⟩
      refine ⟨.bl true, vAnd_t (v1e (v1e (xc (rVe rfl rfl) ⟨rfl, rfl⟩ rfl rfl) rfl) rfl) (vAnd_t (v2e (x := dInt k) (y := dInt k) rfl (v2e (x := dDue (some (k, qs))) rfl rfl rfl) (fEq_dn k)) (v1e (v1e (xc (rVe (v1e (v1e (xm rfl (xc rfl ⟨rfl, rfl⟩ rfl rfl)) rfl) rfl) (rVe (d := .lst (dPs qs)) (v2e (x := dDue (some (k, qs))) rfl rfl rfl) rfl)) ⟨rfl, rfl⟩ rfl (F_same (ps := qs) (by simp only at hq60; omega))) rfl) rfl)), rfl⟩
  · cases h
end Z

set_option maxRecDepth 100000
set_option maxHeartbeats 4000000
namespace Z
open PySem PySem.Spec PyProof.Rows L2
def top (i : Nat) : Stmt := PySem.Challenge.pw_springways_k14_nets_read_or_refused.main.body.getD i (.Pass ⟨0, 0, 0, 0⟩)
abbrev s_init : Stmt := (inClass (top 11) 0)
abbrev s_size : Stmt := (inClass (top 11) 1)
abbrev s_see_place : Stmt := (inClass (top 11) 2)
abbrev s_see_pipe : Stmt := (inClass (top 11) 3)
abbrev s_lay : Stmt := (inClass (top 11) 4)
abbrev s_turn : Stmt := (inClass (top 11) 5)
abbrev s_shut : Stmt := (inClass (top 11) 6)
abbrev s_pipes : Stmt := (inClass (top 11) 8)
abbrev s_number_of_k14 : Stmt := (top 15)
abbrev s_lay_line_k14 : Stmt := (top 16)
abbrev s_read_k14 : Stmt := (top 17)
abbrev s_law_cell_at : Stmt := (top 19)
abbrev s_law_whole : Stmt := (top 20)
abbrev s_law_pipe_by : Stmt := (top 21)
abbrev s_law_pipes_by : Stmt := (top 22)
abbrev s_law_same_pipes : Stmt := (top 23)
abbrev s_law_line : Stmt := (top 24)
abbrev s_law_bad_line : Stmt := (top 25)
abbrev s_law_bad_first : Stmt := (top 26)
abbrev s_law_spoiled_k14 : Stmt := (top 27)
abbrev s_law_number : Stmt := (top 28)
abbrev s_law_pipe_of : Stmt := (top 29)
abbrev s_law_due_k14 : Stmt := (top 30)
abbrev s_law_k14 : Stmt := (top 31)
structure Txt (g : Glo) (mg : Str → Option Value) : Prop where
  net : NT g
  b_len : mg "len" = none
  b_range : mg "range" = none
  b_list : mg "list" = none
  b_min : mg "min" = none
  b_max : mg "max" = none
  b_int : mg "int" = none
  b_str : mg "str" = none
  b_isinstance : mg "isinstance" = none
  b_bool : mg "bool" = none
  b_tuple : mg "tuple" = none
  c_PLACES : ∃ t, mg "PLACES" = some (.int 12 t)
  c_PIPES : ∃ t, mg "PIPES" = some (.int 60 t)
  c_MOST : ∃ t, mg "MOST" = some (.int 2 t)
  c_FIGURES : ∃ t, mg "FIGURES" = some (.str "0123456789" t)
  x_TooMuch : ExT g mg "TooMuch" .much
  x_NoPlace : ExT g mg "NoPlace" .place
  x_NoPipe : ExT g mg "NoPipe" .pipe
  x_SamePlace : ExT g mg "SamePlace" .same
  x_NoNet : ExT g mg "NoNet" .net
  y_NetError : CtT g mg "NetError" (ctL [.much, .place, .pipe, .same, .net])
  n_NetError : ∃ C, mg "NetError" = some (.ref C)
  ex : ExI g
  b_ValueError : mg "ValueError" = none
section
variable {P : Program} {w : World} {g : Glo} {mg : Str → Option Value} {base : Heap}
theorem sc_init : FnScope ["self", "size"] ["self", "size"] (defScope s_init) := ⟨rfl, rfl, rfl, by decide +kernel, rfl, by decide +kernel, by decide +kernel⟩
theorem w_init {f : Addr} {fd : FuncData} (Fn : Fun g.K "__init__" "Net.__init__" s_init f fd) (T : Txt g mg) : FnOk P w g.K mg base (L2N.CX P w) 1 f fd ["self", "size"] (spInit g) := by
  refine okXN Fn sc_init (fun vs H Q E h => ?_) (fun cdv A outer s H vs Q E hr h => ?_)
  · obtain ⟨p, dx, size, rfl, _⟩ := h
    rfl
  · obtain ⟨p, dx, size, rfl, hp, kE, kQ⟩ := h
    have tk := L2N.takes_of (X := cxOf (L2N.CX P w) P w g.K mg base ["self", "size"] "Net.__init__" (defScope s_init) f cdv A outer s H E) rfl rfl rfl rfl
    refine ⟨_, pss_cons (ps_if (PW.pt (pw_or (pt_cmpR op_lt (pv 1) pe_int (nomark _)) (pw_or1 (pt_cmpR op_gt (pv 1) (pe_gint T.c_PLACES) (nomark _))))) (pss_one (L2N.ps_raise rfl tk (L2N.pmk_own PySem.F.excBase_ValueError T.x_TooMuch.xC T.x_TooMuch.gC T.x_TooMuch.kC (raises_own T.x_TooMuch.bC T.x_TooMuch.tC) (by exact rfl)))) pss_nil)
      (pss_cons (ps_fld (pv 0) (pv 1) rfl) (pss_one (ps_fld (pv 0) (pe_lst pa_nil) rfl))), ?_⟩
    refine ⟨_, rfl, _, _, rfl, rfl, _, rfl, ?_⟩
    have rest : 1 ≤ size ∧ size ≤ 12 → _ := kQ
    have raise : ¬ (1 ≤ size ∧ size ≤ 12) → _ := kE
    have go : 1 ≤ size ∧ size ≤ 12 → (tSeq (sFld g.K (tVar 0) (tVar 1) "many") (sFld g.K (tVar 0) (tLst tNil) "laid")) { nx := fun _ H' => Q .non H', rt := Q } (L2.start ["self", "size"] [V.ref p, V.int size]) H := fun hs => by
      refine ⟨_, rfl, _, rfl, p, g.C, dx, [], rfl, hp, T.net.cl, T.net.nM, (by show 0 < 1000; decide), ?_⟩
      refine ⟨Nat.zero_le _, fun l hl => ?_⟩
      have npl : p ≠ l := fun q => by rw [← q, upd_same] at hl; cases hl
      refine ⟨_, rfl, p, g.C, dx, _, rfl, by rw [upd_ne npl, upd_same], T.net.cl, T.net.nL, (by show 1 < 1000; decide), ?_⟩
      have hl0 : H l = none := by rw [upd_ne npl.symm] at hl; exact hl
      refine rest hs _ l hl0 (fun b h1 h2 => by rw [upd_ne h1, upd_ne h2, upd_ne h1]) ?_ (by rw [upd_ne npl.symm, upd_same])
      rw [upd_same]
      exact congrArg some (congrArg (HO.ins g.C dx) (by
        show (if ("many" : Str) = "laid" then [(("many" : Str), V.ref l)] else (("many" : Str), V.int size) :: putF "laid" (V.ref l) []) = netF size l
        rw [if_neg (by decide +kernel)]
        rfl))
    by_cases h1 : size < 1
    · rw [decide_eq_true h1]
      exact iteT (iteT (raise (by omega)))
    · rw [decide_eq_false h1]
      refine iteF ⟨_, rfl, _, _, rfl, rfl, _, rfl, ?_⟩
      by_cases h2 : (12 : Int) < size
      · rw [decide_eq_true h2]
        exact iteT (raise (by omega))
      · rw [decide_eq_false h2]
        exact iteF (go (by omega))
theorem sc_size : FnScope ["self"] ["self"] (defScope s_size) := ⟨rfl, rfl, rfl, by decide +kernel, rfl, by decide +kernel, by decide +kernel⟩
theorem w_size {f : Addr} {fd : FuncData} (Fn : Fun g.K "size" "Net.size" s_size f fd) (T : Txt g mg)  : FnOk P w g.K mg base CX0 1 f fd ["self"] (spP g 1 F_size) :=
  ok_fn (T := t_size) Fn sc_size (by decide) (fun cdv A outer s H E hr => by
    have hu := hu_of hr
    have hu64 := hr.units
    have nd := sc_size.nd
    exact (ss_cons (s_retV (ps_ret (ev_many T.net (pe_fld (pv 0) rfl)))) (ss_nil pss_nil))) v_size
theorem sc_see_place : FnScope ["self", "place"] ["self", "place"] (defScope s_see_place) := ⟨rfl, rfl, rfl, by decide +kernel, rfl, by decide +kernel, by decide +kernel⟩
theorem w_see_place {f : Addr} {fd : FuncData} (Fn : Fun g.K "see_place" "Net.see_place" s_see_place f fd) (T : Txt g mg)  : FnOk P w g.K mg base (L2N.CX P w) 1 f fd ["self", "place"] (spP g 2 F_see_place) :=
  ok_fnXN (T := t_see_place) Fn sc_see_place (by decide) (fun cdv A outer s H E hr => by
    have hu := hu_of hr
    have hu64 := hr.units
    have nd := sc_see_place.nd
    have tk := L2N.takes_of (X := cxOf (L2N.CX P w) P w g.K mg base ["self", "place"] "Net.see_place" (defScope s_see_place) f cdv A outer s H E) rfl rfl rfl rfl
    exact (ss_cons (s_if (ps_if (PW.pt (pw_o (pw_or (pt_2 (pt_cmpR op_lt (ev_var (pv 1)) (ev_int pe_int) (nomark _)) d_lt) (pw_or1 (pt_2 (pt_cmpR op_ge (ev_var (pv 1)) (ev_many T.net (pe_fld (pv 0) rfl)) (nomark _)) d_ge))))) (ss_cons (s_raiseXN T.x_NoPlace rfl rfl tk rfl) (ss_nil pss_nil)) (ss_nil pss_nil))) (ss_nil pss_nil))) v_see_place
theorem sc_see_pipe : FnScope ["self", "pipe"] ["self", "pipe"] (defScope s_see_pipe) := ⟨rfl, rfl, rfl, by decide +kernel, rfl, by decide +kernel, by decide +kernel⟩
theorem w_see_pipe {f : Addr} {fd : FuncData} (Fn : Fun g.K "see_pipe" "Net.see_pipe" s_see_pipe f fd) (T : Txt g mg)  : FnOk P w g.K mg base (L2N.CX P w) 1 f fd ["self", "pipe"] (spP g 2 F_see_pipe) :=
  ok_fnXN (T := t_see_pipe) Fn sc_see_pipe (by decide) (fun cdv A outer s H E hr => by
    have hu := hu_of hr
    have hu64 := hr.units
    have nd := sc_see_pipe.nd
    have tk := L2N.takes_of (X := cxOf (L2N.CX P w) P w g.K mg base ["self", "pipe"] "Net.see_pipe" (defScope s_see_pipe) f cdv A outer s H E) rfl rfl rfl rfl
    exact (ss_cons (s_if (ps_if (PW.pt (pw_o (pw_or (pt_2 (pt_cmpR op_lt (ev_var (pv 1)) (ev_int pe_int) (nomark _)) d_lt) (pw_or1 (pt_2 (pt_cmpR op_ge (ev_var (pv 1)) (ek_1 (to_1 (pe_callB call_len (by rfl) T.b_len PySem.boot_len (pa_cons (el_laid T.net (pe_fld (pv 0) rfl)) pa_nil))) d_lenL) (nomark _)) d_ge))))) (ss_cons (s_raiseXN T.x_NoPipe rfl rfl tk rfl) (ss_nil pss_nil)) (ss_nil pss_nil))) (ss_nil pss_nil))) v_see_pipe
theorem sc_lay : FnScope ["self", "start", "goal"] ["self", "start", "goal"] (defScope s_lay) := ⟨rfl, rfl, rfl, by decide +kernel, rfl, by decide +kernel, by decide +kernel⟩
theorem w_lay {f : Addr} {fd : FuncData} (Fn : Fun g.K "lay" "Net.lay" s_lay f fd) (T : Txt g mg) (C_see_place : Cam P w g mg base (L2N.CX P w) "see_place" 1 (spP g 2 F_see_place)) : FnOk P w g.K mg base (L2N.CX P w) 2 f fd ["self", "start", "goal"] (spM g 3 G_lay) :=
  ok_fnMN (T := t_lay) Fn sc_lay (by decide) (fun cdv A outer s H E hr => by
    have hu := hu_of hr
    have hu64 := hr.units
    have nd := sc_lay.nd
    have tk := L2N.takes_of (X := cxOf (L2N.CX P w) P w g.K mg base ["self", "start", "goal"] "Net.lay" (defScope s_lay) f cdv A outer s H E) rfl rfl rfl rfl
    exact (ss_cons (s_exprX (ps_expr (ex_meth nf_see_place (pe_cam C_see_place rfl T.net.cl (hr.mono (by decide)) (fun σ => L2N.passAt tk σ) (pv 0) (ear_v (pa_cons (ev_var (pv 1)) (ear_nil pa_nil))))))) (ss_cons (s_exprX (ps_expr (ex_meth nf_see_place (pe_cam C_see_place rfl T.net.cl (hr.mono (by decide)) (fun σ => L2N.passAt tk σ) (pv 0) (ear_v (pa_cons (ev_var (pv 2)) (ear_nil pa_nil))))))) (ss_cons (s_if (ps_if (pt_2 (pt_cmpR (op_eq2 hu64) (ev_var (pv 1)) (ev_var (pv 2)) (nomark _)) d_eq) (ss_cons (s_raiseXN T.x_SamePlace rfl rfl tk rfl) (ss_nil pss_nil)) (ss_nil pss_nil))) (ss_cons (s_if (ps_if (pt_2 (pt_cmpR op_ge (ek_1 (to_1 (pe_callB call_len (by rfl) T.b_len PySem.boot_len (pa_cons (el_laid T.net (pe_fld (pv 0) rfl)) pa_nil))) d_lenL) (ev_int (pe_gint T.c_PIPES)) (nomark _)) d_ge) (ss_cons (s_raiseXN T.x_TooMuch rfl rfl tk rfl) (ss_nil pss_nil)) (ss_nil pss_nil))) (ss_cons (s_appN T.net (ps_expr (pe_bm PySem.F.plainAttrs_list PySem.F.slot_list_append PySem.F.type_list_append mt_append (pe_fld (pv 0) rfl) (pa_cons (ev_tup (pe_tup (ea_cons (pa_cons (ev_var (pv 1)) (ea_cons (pa_cons (ev_var (pv 2)) (ea_cons (pa_cons (ev_bl pe_bl) (ea_nil pa_nil))))))))) pa_nil)))) (ss_cons (s_retV (ps_ret (ek_2 (pe_op op_sub (ek_1 (to_1 (pe_callB call_len (by rfl) T.b_len PySem.boot_len (pa_cons (el_laid T.net (pe_fld (pv 0) rfl)) pa_nil))) d_lenL) (ev_int pe_int)) d_sub))) (ss_nil pss_nil)))))))) v_lay
theorem sc_turn : FnScope ["self", "pipe", "opened", "old"] ["self", "pipe", "opened"] (defScope s_turn) := ⟨rfl, rfl, rfl, by decide +kernel, rfl, by decide +kernel, by decide +kernel⟩
theorem w_turn {f : Addr} {fd : FuncData} (Fn : Fun g.K "turn" "Net.turn" s_turn f fd) (T : Txt g mg) (C_see_pipe : Cam P w g mg base (L2N.CX P w) "see_pipe" 1 (spP g 2 F_see_pipe)) : FnOk P w g.K mg base (L2N.CX P w) 2 f fd ["self", "pipe", "opened"] (spM g 3 G_turn) :=
  ok_fnMN (T := t_turn) Fn sc_turn (by decide) (fun cdv A outer s H E hr => by
    have hu := hu_of hr
    have hu64 := hr.units
    have nd := sc_turn.nd
    have tk := L2N.takes_of (X := cxOf (L2N.CX P w) P w g.K mg base ["self", "pipe", "opened", "old"] "Net.turn" (defScope s_turn) f cdv A outer s H E) rfl rfl rfl rfl
    exact (ss_cons (s_exprX (ps_expr (ex_meth nf_see_pipe (pe_cam C_see_pipe rfl T.net.cl (hr.mono (by decide)) (fun σ => L2N.passAt tk σ) (pv 0) (ear_v (pa_cons (ev_var (pv 1)) (ear_nil pa_nil))))))) (ss_cons (s_asgV (ps_set (i := 3) nd rfl (by first | exact Or.inl rfl | exact Or.inr rfl) (ek_2 (pe_ix ix_list (el_laid T.net (pe_fld (pv 0) rfl)) (ev_var (pv 1)) (fun _ _ => rfl)) d_ixL))) (ss_cons (s_setN T.net (ps_asg (ev_tup (pe_tup (ea_cons (pa_cons (ek_2 (pe_ix ix_seq (ev_var (pv 3)) (ev_int pe_int) (fun _ _ => rfl)) d_ix) (ea_cons (pa_cons (ek_2 (pe_ix ix_seq (ev_var (pv 3)) (ev_int pe_int) (fun _ _ => rfl)) d_ix) (ea_cons (pa_cons (ev_var (pv 2)) (ea_nil pa_nil))))))))) (pg_sub (pe_fld (pv 0) rfl) (ev_var (pv 1)) set_list))) (ss_nil pss_nil))))) v_turn
theorem sc_shut : FnScope ["self", "pipe"] ["self", "pipe"] (defScope s_shut) := ⟨rfl, rfl, rfl, by decide +kernel, rfl, by decide +kernel, by decide +kernel⟩
theorem w_shut {f : Addr} {fd : FuncData} (Fn : Fun g.K "shut" "Net.shut" s_shut f fd) (T : Txt g mg) (C_turn : Cam P w g mg base (L2N.CX P w) "turn" 2 (spM g 3 G_turn)) : FnOk P w g.K mg base (L2N.CX P w) 3 f fd ["self", "pipe"] (spM g 2 G_shut) :=
  ok_fnMN (T := t_shut) Fn sc_shut (by decide) (fun cdv A outer s H E hr => by
    have hu := hu_of hr
    have hu64 := hr.units
    have nd := sc_shut.nd
    have tk := L2N.takes_of (X := cxOf (L2N.CX P w) P w g.K mg base ["self", "pipe"] "Net.shut" (defScope s_shut) f cdv A outer s H E) rfl rfl rfl rfl
    exact (ss_cons (s_nm nf_turn (ps_expr (pe_cam C_turn rfl T.net.cl (hr.mono (by decide)) (fun σ => L2N.passAt tk σ) (pv 0) (ear_v (pa_cons (ev_var (pv 1)) (ear_v (pa_cons (ev_bl pe_bl) (ear_nil pa_nil)))))))) (ss_nil pss_nil))) v_shut
theorem sc_pipes : FnScope ["self"] ["self"] (defScope s_pipes) := ⟨rfl, rfl, rfl, by decide +kernel, rfl, by decide +kernel, by decide +kernel⟩
theorem w_pipes {f : Addr} {fd : FuncData} (Fn : Fun g.K "pipes" "Net.pipes" s_pipes f fd) (T : Txt g mg)  : FnOk P w g.K mg base CX0 1 f fd ["self"] (spP g 1 F_pipes) :=
  ok_fn (T := t_pipes) Fn sc_pipes (by decide) (fun cdv A outer s H E hr => by
    have hu := hu_of hr
    have hu64 := hr.units
    have nd := sc_pipes.nd
    exact (ss_cons (s_retO (ps_ret (ek_1 (to_1 (pe_callTy call_list_of (by rfl) T.b_list (by decide +kernel) (pa_cons (el_laid T.net (pe_fld (pv 0) rfl)) pa_nil))) d_list))) (ss_nil pss_nil))) v_pipes
theorem sc_number_of_k14 : FnScope ["word", "sign"] ["word"] (defScope s_number_of_k14) := ⟨rfl, rfl, rfl, by decide +kernel, rfl, by decide +kernel, by decide +kernel⟩
theorem w_number_of_k14 {f : Addr} {fd : FuncData} (Fn : Fun g.K "number_of" "number_of" s_number_of_k14 f fd) (T : Txt g mg)  : FnOk P w g.K mg base (L2N.CX P w) 1 f fd ["word"] (spP g 1 F_number_of_k14) :=
  ok_fnXN (T := t_number_of_k14) Fn sc_number_of_k14 (by decide) (fun cdv A outer s H E hr => by
    have hu := hu_of hr
    have hu64 := hr.units
    have nd := sc_number_of_k14.nd
    have tk := L2N.takes_of (X := cxOf (L2N.CX P w) P w g.K mg base ["word", "sign"] "number_of" (defScope s_number_of_k14) f cdv A outer s H E) rfl rfl rfl rfl
    exact (ss_cons (s_if (ps_if (PW.pt (pw_o (pw_or (pt_2 (pt_cmpR (op_eq2 hu64) (ev_var (pv 0)) (ev_str pe_str) (nomark _)) d_eq) (pw_or1 (pt_2 (pt_cmpR op_gt (ek_1 (to_1 (pe_callB call_len (by rfl) T.b_len PySem.boot_len (pa_cons (ev_var (pv 0)) pa_nil))) d_len) (ev_int (pe_gint T.c_MOST)) (nomark _)) d_gt))))) (ss_cons (s_raiseXN T.x_NoNet rfl rfl tk rfl) (ss_nil pss_nil)) (ss_nil pss_nil))) (ss_cons (s_for tg_name tv_name (ps_for (passes_of rfl) rfl (ei_str (pi_str (ev_var (pv 0)))) (pg_name (i := 1) nd rfl (by first | exact Or.inl rfl | exact Or.inr rfl)) (ss_cons (s_if (ps_if (pt_2 (pt_cmpR op_notIn_sign (ev_var (pv 1)) (ev_str (pe_gstr T.c_FIGURES)) (by rfl)) d_notInS) (ss_cons (s_raiseXN T.x_NoNet rfl rfl tk rfl) (ss_nil pss_nil)) (ss_nil pss_nil))) (ss_nil pss_nil)))) (ss_cons (s_if (ps_if (PW.pt (pw_a (pw_and (pt_2 (pt_cmpR (op_eq2 hu64) (ek_2 (pe_ix ix_seq (ev_var (pv 0)) (ev_int pe_int) (fun _ _ => rfl)) d_ix) (ev_str pe_str) (nomark _)) d_eq) (pw_and1 (pt_2 (pt_cmpR op_gt (ek_1 (to_1 (pe_callB call_len (by rfl) T.b_len PySem.boot_len (pa_cons (ev_var (pv 0)) pa_nil))) d_len) (ev_int pe_int) (nomark _)) d_gt))))) (ss_cons (s_raiseXN T.x_NoNet rfl rfl tk rfl) (ss_nil pss_nil)) (ss_nil pss_nil))) (ss_cons (s_retV (ps_ret (ek_1 (to_1 (pe_callTy call_int_str (by rfl) T.b_int (by decide +kernel) (pa_cons (ev_var (pv 0)) pa_nil))) d_intS))) (ss_nil pss_nil)))))) v_number_of_k14
theorem sc_lay_line_k14 : FnScope ["net", "line", "words", "numbers", "pipe", "word"] ["net", "line"] (defScope s_lay_line_k14) := ⟨rfl, rfl, rfl, by decide +kernel, rfl, by decide +kernel, by decide +kernel⟩
theorem w_lay_line_k14 {f : Addr} {fd : FuncData} (Fn : Fun g.K "lay_line" "lay_line" s_lay_line_k14 f fd) (T : Txt g mg) (C_number_of_k14 : Cal P w g mg base (L2N.CX P w) "number_of" 1 (spP g 1 F_number_of_k14)) (C_lay : Cam P w g mg base (L2N.CX P w) "lay" 2 (spM g 3 G_lay)) (C_shut : Cam P w g mg base (L2N.CX P w) "shut" 3 (spM g 2 G_shut)) : FnOk P w g.K mg base (L2N.CX P w) 4 f fd ["net", "line"] (spM g 2 G_lay_line_k14) :=
  ok_fnMN (T := t_lay_line_k14) Fn sc_lay_line_k14 (by decide) (fun cdv A outer s H E hr => by
    have hu := hu_of hr
    have hu64 := hr.units
    have nd := sc_lay_line_k14.nd
    have tk := L2N.takes_of (X := cxOf (L2N.CX P w) P w g.K mg base ["net", "line", "words", "numbers", "pipe", "word"] "lay_line" (defScope s_lay_line_k14) f cdv A outer s H E) rfl rfl rfl rfl
    exact (ss_cons (s_asgV (ps_set (i := 2) nd rfl (by first | exact Or.inl rfl | exact Or.inr rfl) (ev_ofO (eo_split (pe_split (ev_var (pv 1)) (ev_str pe_str)))))) (ss_cons (s_if (ps_if (PW.pt (pw_o (pw_or (pt_2 (pt_cmpR (op_ne2 hu64) (ek_1 (to_1 (pe_callB call_len (by rfl) T.b_len PySem.boot_len (pa_cons (el_var (pv 2)) pa_nil))) d_lenL) (ev_int pe_int) (nomark _)) d_ne) (pw_or1 (pt_2 (pt_cmpR op_notIn_seq (ek_2 (pe_ix ix_seq (ev_var (pv 2)) (ev_int pe_int) (fun _ _ => rfl)) d_ix) (ev_tup (pe_tup (ea_cons (pa_cons (ev_str pe_str) (ea_cons (pa_cons (ev_str pe_str) (ea_nil pa_nil))))))) (by rfl)) (d_inT true)))))) (ss_cons (s_raiseXN T.x_NoNet rfl rfl tk rfl) (ss_nil pss_nil)) (ss_nil pss_nil))) (ss_cons (s_asgLcX (fun _ _ _ _ _ h => h) tg_name gN_len (ps_setLcX (i := 3) (own := [("word", 5)]) rfl nd rfl rfl tk (fun _ _ _ _ _ h => h) rfl rfl (sw_true rfl rfl rfl (by decide +kernel)) (ei_listL (pi_list (el_ofO (eo_cut (pe_slice sl_list (el_var (pv 2)) (po_i (po_some (ev_int pe_int))) (po_n po_none)))))) (blkOk_by (own := [("word", 5)]) (N := ["net", "line", "words", "numbers", "pipe", "word"]) (sc := defScope s_lay_line_k14) (by decide +kernel)) (fun _ _ _ _ _ => (pg_name (i := 5) nd rfl (by first | exact Or.inl rfl | exact Or.inr rfl))) (fun _ _ _ _ _ _ hx => (ex_cal C_number_of_k14 rfl (hr.mono (by decide)) rfl hx (ear_v (pa_cons (ev_var (pv 5)) (ear_nil pa_nil))))))) (ss_cons (s_nmA nf_lay (ps_set (i := 4) nd rfl (by first | exact Or.inl rfl | exact Or.inr rfl) (pe_cam C_lay rfl T.net.cl (hr.mono (by decide)) (fun σ => L2N.passAt tk σ) (pv 0) (ear_v (pa_cons (ek_2 (pe_ix ix_list (el_var (pv 3)) (ev_int pe_int) (fun _ _ => rfl)) d_ixL) (ear_v (pa_cons (ek_2 (pe_ix ix_list (el_var (pv 3)) (ev_int pe_int) (fun _ _ => rfl)) d_ixL) (ear_nil pa_nil)))))))) (ss_cons (s_if (ps_if (pt_2 (pt_cmpR (op_eq2 hu64) (ek_2 (pe_ix ix_seq (ev_var (pv 2)) (ev_int pe_int) (fun _ _ => rfl)) d_ix) (ev_str pe_str) (nomark _)) d_eq) (ss_cons (s_nm nf_shut (ps_expr (pe_cam C_shut rfl T.net.cl (hr.mono (by decide)) (fun σ => L2N.passAt tk σ) (pv 0) (ear_v (pa_cons (ev_var (pv 4)) (ear_nil pa_nil)))))) (ss_nil pss_nil)) (ss_nil pss_nil))) (ss_nil pss_nil))))))) v_lay_line_k14
theorem sc_read_k14 : FnScope ["text", "lines", "words", "net", "line"] ["text"] (defScope s_read_k14) := ⟨rfl, rfl, rfl, by decide +kernel, rfl, by decide +kernel, by decide +kernel⟩
theorem w_read_k14 {f : Addr} {fd : FuncData} (Fn : Fun g.K "read" "read" s_read_k14 f fd) (T : Txt g mg) (C_init : Cak P w g mg base (L2N.CX P w) "Net" 1 (spInit g)) (C_number_of_k14 : Cal P w g mg base (L2N.CX P w) "number_of" 1 (spP g 1 F_number_of_k14)) (C_lay_line_k14 : Cal P w g mg base (L2N.CX P w) "lay_line" 4 (spM g 2 G_lay_line_k14)) : FnOk P w g.K mg base (L2.CX P w) 5 f fd ["text"] (spP g 1 F_read_k14) :=
  ok_fnX (T := t_read_k14) Fn sc_read_k14 (by decide) (fun cdv A outer s H E hr => by
    have hu := hu_of hr
    have hu64 := hr.units
    have nd := sc_read_k14.nd
    have tk := takes_of (X := cxOf (L2.CX P w) P w g.K mg base ["text", "lines", "words", "net", "line"] "read" (defScope s_read_k14) f cdv A outer s H E) rfl rfl rfl rfl
    exact (ss_cons (s_asgV (ps_set (i := 1) nd rfl (by first | exact Or.inl rfl | exact Or.inr rfl) (ev_ofO (eo_split (pe_split (ev_var (pv 0)) (ev_str pe_str)))))) (ss_cons (s_if (ps_if (PW.pt (pw_o (pw_or (pt_2 (pt_cmpR op_lt (ek_1 (to_1 (pe_callB call_len (by rfl) T.b_len PySem.boot_len (pa_cons (el_var (pv 1)) pa_nil))) d_lenL) (ev_int pe_int) (nomark _)) d_lt) (pw_or1 (pt_2 (pt_cmpR (op_ne2 hu64) (ek_2 (pe_ix ix_seq (ev_var (pv 1)) (ek_1 (pe_un un_neg (ev_int pe_int)) d_neg) (fun _ _ => rfl)) d_ix) (ev_str pe_str) (nomark _)) d_ne))))) (ss_cons (s_raiseX T.x_NoNet rfl rfl tk rfl) (ss_nil pss_nil)) (ss_nil pss_nil))) (ss_cons (s_asgV (ps_set (i := 2) nd rfl (by first | exact Or.inl rfl | exact Or.inr rfl) (ev_ofO (eo_split (pe_split (ek_2 (pe_ix ix_seq (ev_var (pv 1)) (ev_int pe_int) (fun _ _ => rfl)) d_ix) (ev_str pe_str)))))) (ss_cons (s_if (ps_if (PW.pt (pw_o (pw_or (pt_2 (pt_cmpR (op_ne2 hu64) (ek_1 (to_1 (pe_callB call_len (by rfl) T.b_len PySem.boot_len (pa_cons (el_var (pv 2)) pa_nil))) d_lenL) (ev_int pe_int) (nomark _)) d_ne) (pw_or1 (pt_2 (pt_cmpR (op_ne2 hu64) (ek_2 (pe_ix ix_seq (ev_var (pv 2)) (ev_int pe_int) (fun _ _ => rfl)) d_ix) (ev_str pe_str) (nomark _)) d_ne))))) (ss_cons (s_raiseX T.x_NoNet rfl rfl tk rfl) (ss_nil pss_nil)) (ss_nil pss_nil))) (ss_cons (s_tryX T.y_NetError rfl rfl rfl rfl tk (fun hd => L2H.passesAt_of rfl hd) (fun W pn xe tk hp => (ss_cons (s_asgX (ps_set (i := 3) nd rfl (by first | exact Or.inl rfl | exact Or.inr rfl) (ex_newX (pe_cak C_init rfl (hr.mono (by decide)) rfl (fun σ => L2N.passAt tk σ) (pa_cons (ex_cal C_number_of_k14 rfl (hr.mono (by decide)) rfl (fun σ => L2N.passAt tk σ) (ear_v (pa_cons (ek_2 (pe_ix ix_seq (ev_var (pv 2)) (ev_int pe_int) (fun _ _ => rfl)) d_ix) (ear_nil pa_nil)))) pa_nil))))) (ss_cons (s_for tg_name tv_name (ps_for hp rfl (ei_list (pi_list (ev_ofO (eo_cut (pe_slice sl_list (el_var (pv 1)) (po_i (po_some (ev_int pe_int))) (po_i (po_some (ek_1 (pe_un un_neg (ev_int pe_int)) d_neg)))))))) (pg_name (i := 4) nd rfl (by first | exact Or.inl rfl | exact Or.inr rfl)) (ss_cons (s_cm (ps_expr (pe_cal C_lay_line_k14 rfl (hr.mono (by decide)) rfl (fun σ => L2N.passAt tk σ) (ear_s (pa_cons (pv 3) (ear_v (pa_cons (ev_var (pv 4)) (ear_nil pa_nil)))))))) (ss_nil pss_nil)))) (ss_nil pss_nil)))) (fun a oe pn tkS hot => (ss_cons (s_raiseXH T.x_NoNet rfl hot tkS rfl) (ss_nil pss_nil)))) (ss_cons (s_retS (ps_ret (pv 3))) (ss_nil pss_nil)))))))) v_read_k14
theorem sc_law_cell_at : FnScope ["script", "k"] ["script", "k"] (defScope s_law_cell_at) := ⟨rfl, rfl, rfl, by decide +kernel, rfl, by decide +kernel, by decide +kernel⟩
theorem w_law_cell_at {f : Addr} {fd : FuncData} (Fn : Fun g.K "_law_cell_at" "_law_cell_at" s_law_cell_at f fd) (T : Txt g mg)  : FnOk P w g.K mg base CX0 1 f fd ["script", "k"] (spP g 2 F_law_cell_at) :=
  ok_fn (T := t_law_cell_at) Fn sc_law_cell_at (by decide) (fun cdv A outer s H E hr => by
    have hu := hu_of hr
    have hu64 := hr.units
    have nd := sc_law_cell_at.nd
    exact (ss_cons (s_if (ps_if (pt_2 (pt_cmpR op_lt (ev_var (pv 1)) (ek_1 (to_1 (pe_callB call_len (by rfl) T.b_len PySem.boot_len (pa_cons (ev_var (pv 0)) pa_nil))) d_len) (nomark _)) d_lt) (ss_cons (s_retV (ps_ret (ek_2 (pe_ix ix_seq (ev_var (pv 0)) (ev_var (pv 1)) (fun _ _ => rfl)) d_ix))) (ss_nil pss_nil)) (ss_nil pss_nil))) (ss_cons (s_retV (ps_ret (ev_int pe_int))) (ss_nil pss_nil)))) v_law_cell_at
theorem sc_law_whole : FnScope ["found"] ["found"] (defScope s_law_whole) := ⟨rfl, rfl, rfl, by decide +kernel, rfl, by decide +kernel, by decide +kernel⟩
theorem w_law_whole {f : Addr} {fd : FuncData} (Fn : Fun g.K "_law_whole" "_law_whole" s_law_whole f fd) (T : Txt g mg)  : FnOk P w g.K mg base CX0 1 f fd ["found"] (spP g 1 F_law_whole) :=
  ok_fn (T := t_law_whole) Fn sc_law_whole (by decide) (fun cdv A outer s H E hr => by
    have hu := hu_of hr
    have hu64 := hr.units
    have nd := sc_law_whole.nd
    exact (ss_cons (s_retV (ps_ret (ev_and (pe_and (ev_isi (to_2 (pe_callB call_isi (by rfl) T.b_isinstance (by decide +kernel) (pa_cons (ev_var (pv 0)) (pa_cons (pe_bltn (v := .ty "int") (by rfl) T.b_int (by decide +kernel) rfl) pa_nil))))) (pe_one (ev_not (pe_not (ev_isi (to_2 (pe_callB call_isi (by rfl) T.b_isinstance (by decide +kernel) (pa_cons (ev_var (pv 0)) (pa_cons (pe_bltn (v := .ty "bool") (by rfl) T.b_bool (by decide +kernel) rfl) pa_nil)))))))))))) (ss_nil pss_nil))) v_law_whole
theorem sc_law_pipe_by : FnScope ["cell", "size", "start", "goal"] ["cell", "size"] (defScope s_law_pipe_by) := ⟨rfl, rfl, rfl, by decide +kernel, rfl, by decide +kernel, by decide +kernel⟩
theorem w_law_pipe_by {f : Addr} {fd : FuncData} (Fn : Fun g.K "_law_pipe_by" "_law_pipe_by" s_law_pipe_by f fd) (T : Txt g mg)  : FnOk P w g.K mg base CX0 1 f fd ["cell", "size"] (spP g 2 F_law_pipe_by) :=
  ok_fn (T := t_law_pipe_by) Fn sc_law_pipe_by (by decide) (fun cdv A outer s H E hr => by
    have hu := hu_of hr
    have hu64 := hr.units
    have nd := sc_law_pipe_by.nd
    exact (ss_cons (s_asgV (ps_set (i := 2) nd rfl (by first | exact Or.inl rfl | exact Or.inr rfl) (ek_2 (pe_op op_mod (ev_var (pv 0)) (ev_var (pv 1))) d_mod))) (ss_cons (s_asgV (ps_set (i := 3) nd rfl (by first | exact Or.inl rfl | exact Or.inr rfl) (ek_2 (pe_op op_mod (ek_2 (pe_op op_add (ek_2 (pe_op op_add (ev_var (pv 2)) (ev_int pe_int)) d_add) (ek_2 (pe_op op_mod (ek_2 (pe_op op_fdiv (ev_var (pv 0)) (ev_var (pv 1))) d_div) (ek_2 (pe_op op_sub (ev_var (pv 1)) (ev_int pe_int)) d_sub)) d_mod)) d_add) (ev_var (pv 1))) d_mod))) (ss_cons (s_retV (ps_ret (ev_tup (pe_tup (ea_cons (pa_cons (ev_var (pv 2)) (ea_cons (pa_cons (ev_var (pv 3)) (ea_cons (pa_cons (ek_2 (pe_cmpR (op_ne2 hu64) (ek_2 (pe_op op_mod (ek_2 (pe_op op_fdiv (ev_var (pv 0)) (ev_int pe_int)) d_div) (ev_int pe_int)) d_mod) (ev_int pe_int) (nomark _)) d_ne) (ea_nil pa_nil))))))))))) (ss_nil pss_nil))))) v_law_pipe_by
theorem sc_law_pipes_by : FnScope ["script", "first", "many", "size", "k"] ["script", "first", "many", "size"] (defScope s_law_pipes_by) := ⟨rfl, rfl, rfl, by decide +kernel, rfl, by decide +kernel, by decide +kernel⟩
theorem w_law_pipes_by {f : Addr} {fd : FuncData} (Fn : Fun g.K "_law_pipes_by" "_law_pipes_by" s_law_pipes_by f fd) (T : Txt g mg) (C_law_pipe_by : Cal P w g mg base CX0 "_law_pipe_by" 1 (spP g 2 F_law_pipe_by)) (C_law_cell_at : Cal P w g mg base CX0 "_law_cell_at" 1 (spP g 2 F_law_cell_at)) : FnOk P w g.K mg base CX0 2 f fd ["script", "first", "many", "size"] (spP g 4 F_law_pipes_by) :=
  ok_fn (T := t_law_pipes_by) Fn sc_law_pipes_by (by decide) (fun cdv A outer s H E hr => by
    have hu := hu_of hr
    have hu64 := hr.units
    have nd := sc_law_pipes_by.nd
    exact (ss_cons (s_if (ps_if (pt_2 (pt_cmpR op_lt (ev_var (pv 3)) (ev_int pe_int) (nomark _)) d_lt) (ss_cons (s_retO (ps_ret (eo_lst (pe_lst (ea_nil pa_nil))))) (ss_nil pss_nil)) (ss_nil pss_nil))) (ss_cons (s_retO (ps_ret (eo_lc tg_name gN_len (pe_lc (own := [("k", 4)]) rfl nd (ei_SG (ei_rng1 (pi_range1 rfl T.b_range (pa_cons (ev_var (pv 2)) pa_nil)))) (blkOk_by (own := [("k", 4)]) (N := ["script", "first", "many", "size", "k"]) (sc := defScope s_law_pipes_by) (by decide +kernel)) (fun _ _ _ _ _ => (pg_name (i := 4) nd rfl (by first | exact Or.inl rfl | exact Or.inr rfl))) (fun _ _ _ _ _ => (pts_yes pts_nil)) (fun _ _ _ _ _ => (ev_ofO (eo_ofX (ex_cal C_law_pipe_by rfl (hr.mono (by decide)) rfl (fun _ => noPass0) (ear_v (pa_cons (ev_ofO (eo_ofX (ex_cal C_law_cell_at rfl (hr.mono (by decide)) rfl (fun _ => noPass0) (ear_v (pa_cons (ev_var (pv 0)) (ear_v (pa_cons (ek_2 (pe_op op_add (ev_var (pv 1)) (ev_var (pv 4))) d_add) (ear_nil pa_nil)))))))) (ear_v (pa_cons (ev_var (pv 3)) (ear_nil pa_nil))))))))))))) (ss_nil pss_nil)))) v_law_pipes_by
theorem sc_law_same_pipes : FnScope ["found", "due", "k", "pipe"] ["found", "due"] (defScope s_law_same_pipes) := ⟨rfl, rfl, rfl, by decide +kernel, rfl, by decide +kernel, by decide +kernel⟩
theorem w_law_same_pipes {f : Addr} {fd : FuncData} (Fn : Fun g.K "_law_same_pipes" "_law_same_pipes" s_law_same_pipes f fd) (T : Txt g mg) (C_law_whole : Cal P w g mg base CX0 "_law_whole" 1 (spP g 1 F_law_whole)) : FnOk P w g.K mg base CX0 2 f fd ["found", "due"] (spP g 2 F_law_same_pipes) :=
  ok_fn (T := t_law_same_pipes) Fn sc_law_same_pipes (by decide) (fun cdv A outer s H E hr => by
    have hu := hu_of hr
    have hu64 := hr.units
    have nd := sc_law_same_pipes.nd
    exact (ss_cons (s_if (ps_if (PW.pt (pw_o (pw_or (pt_n (pt_not (pt_v (pt_val (ev_isi (to_2 (pe_callB call_isi (by rfl) T.b_isinstance (by decide +kernel) (pa_cons (ev_var (pv 0)) (pa_cons (pe_bltn (v := .ty "list") (by rfl) T.b_list (by decide +kernel) rfl) pa_nil))))))))) (pw_or1 (pt_2 (pt_cmpR (op_ne2 hu64) (ek_1 (to_1 (pe_callB call_len (by rfl) T.b_len PySem.boot_len (pa_cons (el_var (pv 0)) pa_nil))) d_lenL) (ek_1 (to_1 (pe_callB call_len (by rfl) T.b_len PySem.boot_len (pa_cons (el_var (pv 1)) pa_nil))) d_lenL) (nomark _)) d_ne))))) (ss_cons (s_retV (ps_ret (ev_bl pe_bl))) (ss_nil pss_nil)) (ss_nil pss_nil))) (ss_cons (s_for tg_name tv_name (ps_for PassesOwn.never rfl (ei_rng1 (pi_range1 rfl T.b_range (pa_cons (ek_1 (to_1 (pe_callB call_len (by rfl) T.b_len PySem.boot_len (pa_cons (el_var (pv 1)) pa_nil))) d_lenL) pa_nil))) (pg_name (i := 2) nd rfl (by first | exact Or.inl rfl | exact Or.inr rfl)) (ss_cons (s_asgV (ps_set (i := 3) nd rfl (by first | exact Or.inl rfl | exact Or.inr rfl) (ek_2 (pe_ix ix_seq (ev_var (pv 0)) (ev_var (pv 2)) (fun _ _ => rfl)) d_ix))) (ss_cons (s_if (ps_if (PW.pt (pw_o (pw_or (pt_n (pt_not (pt_v (pt_val (ev_isi (to_2 (pe_callB call_isi (by rfl) T.b_isinstance (by decide +kernel) (pa_cons (ev_var (pv 3)) (pa_cons (pe_bltn (v := .ty "tuple") (by rfl) T.b_tuple (by decide +kernel) rfl) pa_nil))))))))) (pw_o (pw_or (pt_2 (pt_cmpR (op_ne2 hu64) (ek_1 (to_1 (pe_callB call_len (by rfl) T.b_len PySem.boot_len (pa_cons (ev_var (pv 3)) pa_nil))) d_len) (ev_int pe_int) (nomark _)) d_ne) (pw_or1 (pt_n (pt_not (pt_v (pt_val (ev_isi (to_2 (pe_callB call_isi (by rfl) T.b_isinstance (by decide +kernel) (pa_cons (ek_2 (pe_ix ix_seq (ev_var (pv 3)) (ev_int pe_int) (fun _ _ => rfl)) d_ix) (pa_cons (pe_bltn (v := .ty "bool") (by rfl) T.b_bool (by decide +kernel) rfl) pa_nil))))))))))))))) (ss_cons (s_retV (ps_ret (ev_bl pe_bl))) (ss_nil pss_nil)) (ss_nil pss_nil))) (ss_cons (s_if (ps_if (PW.pt (pw_o (pw_or (pt_n (pt_not (pt_v (pt_val (ev_ofO (eo_ofX (ex_cal C_law_whole rfl (hr.mono (by decide)) rfl (fun _ => noPass0) (ear_v (pa_cons (ek_2 (pe_ix ix_seq (ev_var (pv 3)) (ev_int pe_int) (fun _ _ => rfl)) d_ix) (ear_nil pa_nil)))))))))) (pw_o (pw_or (pt_n (pt_not (pt_v (pt_val (ev_ofO (eo_ofX (ex_cal C_law_whole rfl (hr.mono (by decide)) rfl (fun _ => noPass0) (ear_v (pa_cons (ek_2 (pe_ix ix_seq (ev_var (pv 3)) (ev_int pe_int) (fun _ _ => rfl)) d_ix) (ear_nil pa_nil)))))))))) (pw_or1 (pt_2 (pt_cmpR (op_ne2 hu64) (ev_var (pv 3)) (ek_2 (pe_ix ix_seq (ev_var (pv 1)) (ev_var (pv 2)) (fun _ _ => rfl)) d_ix) (nomark _)) d_ne))))))) (ss_cons (s_retV (ps_ret (ev_bl pe_bl))) (ss_nil pss_nil)) (ss_nil pss_nil))) (ss_nil pss_nil)))))) (ss_cons (s_retV (ps_ret (ev_bl pe_bl))) (ss_nil pss_nil))))) v_law_same_pipes
theorem sc_law_line : FnScope ["pipe"] ["pipe"] (defScope s_law_line) := ⟨rfl, rfl, rfl, by decide +kernel, rfl, by decide +kernel, by decide +kernel⟩
theorem w_law_line {f : Addr} {fd : FuncData} (Fn : Fun g.K "_law_line" "_law_line" s_law_line f fd) (T : Txt g mg)  : FnOk P w g.K mg base CX0 1 f fd ["pipe"] (spP g 1 F_law_line) :=
  ok_fn (T := t_law_line) Fn sc_law_line (by decide) (fun cdv A outer s H E hr => by
    have hu := hu_of hr
    have hu64 := hr.units
    have nd := sc_law_line.nd
    exact (ss_cons (s_retV (ps_ret (ek_2 (pe_op op_add_str (ek_2 (pe_op op_add_str (ek_2 (pe_op op_add_str (ek_2 (pe_op op_add_str (ek_2 (pe_ix ix_seq (ev_ofO (eo_lst (pe_lst (ea_cons (pa_cons (ev_str pe_str) (ea_cons (pa_cons (ev_str pe_str) (ea_nil pa_nil)))))))) (ek_1 (to_1 (pe_callTy call_int1 (by rfl) T.b_int (by decide +kernel) (pa_cons (ek_2 (pe_ix ix_seq (ev_var (pv 0)) (ev_int pe_int) (fun _ _ => rfl)) d_ix) pa_nil))) d_int1) (fun _ _ => rfl)) d_ix) (ev_str pe_str)) d_addS) (ek_1 (to_1 (pe_callTy call_str_int (by rfl) T.b_str (by decide +kernel) (pa_cons (ek_2 (pe_ix ix_seq (ev_var (pv 0)) (ev_int pe_int) (fun _ _ => rfl)) d_ix) pa_nil))) d_strI)) d_addS) (ev_str pe_str)) d_addS) (ek_1 (to_1 (pe_callTy call_str_int (by rfl) T.b_str (by decide +kernel) (pa_cons (ek_2 (pe_ix ix_seq (ev_var (pv 0)) (ev_int pe_int) (fun _ _ => rfl)) d_ix) pa_nil))) d_strI)) d_addS))) (ss_nil pss_nil))) v_law_line
theorem sc_law_bad_line : FnScope ["cell", "some"] ["cell"] (defScope s_law_bad_line) := ⟨rfl, rfl, rfl, by decide +kernel, rfl, by decide +kernel, by decide +kernel⟩
theorem w_law_bad_line {f : Addr} {fd : FuncData} (Fn : Fun g.K "_law_bad_line" "_law_bad_line" s_law_bad_line f fd) (T : Txt g mg)  : FnOk P w g.K mg base CX0 1 f fd ["cell"] (spP g 1 F_law_bad_line) :=
  ok_fn (T := t_law_bad_line) Fn sc_law_bad_line (by decide) (fun cdv A outer s H E hr => by
    have hu := hu_of hr
    have hu64 := hr.units
    have nd := sc_law_bad_line.nd
    exact (ss_cons (s_asgV (ps_set (i := 1) nd rfl (by first | exact Or.inl rfl | exact Or.inr rfl) (ev_ofO (eo_lst (pe_lst (ea_cons (pa_cons (ev_str pe_str) (ea_cons (pa_cons (ev_str pe_str) (ea_cons (pa_cons (ev_str pe_str) (ea_cons (pa_cons (ev_str pe_str) (ea_cons (pa_cons (ev_str pe_str) (ea_cons (pa_cons (ev_str pe_str) (ea_cons (pa_cons (ev_str pe_str) (ea_cons (pa_cons (ev_str pe_str) (ea_nil pa_nil)))))))))))))))))))))) (ss_cons (s_asgV (ps_set (i := 1) nd rfl (by first | exact Or.inl rfl | exact Or.inr rfl) (ev_ofO (ek_2 (pe_op op_cat (el_var (pv 1)) (el_ofO (eo_lst (pe_lst (ea_cons (pa_cons (ev_str pe_str) (ea_cons (pa_cons (ev_str pe_str) (ea_cons (pa_cons (ev_str pe_str) (ea_cons (pa_cons (ev_str pe_str) (ea_cons (pa_cons (ev_str pe_str) (ea_cons (pa_cons (ev_str pe_str) (ea_nil pa_nil))))))))))))))))) d_cat)))) (ss_cons (s_asgV (ps_set (i := 1) nd rfl (by first | exact Or.inl rfl | exact Or.inr rfl) (ev_ofO (ek_2 (pe_op op_cat (el_var (pv 1)) (el_ofO (eo_lst (pe_lst (ea_cons (pa_cons (ev_str pe_str) (ea_cons (pa_cons (ev_str pe_str) (ea_cons (pa_cons (ev_str pe_str) (ea_cons (pa_cons (ev_str pe_str) (ea_nil pa_nil))))))))))))) d_cat)))) (ss_cons (s_retV (ps_ret (ek_2 (pe_ix ix_seq (ev_var (pv 1)) (ek_2 (pe_op op_mod (ev_var (pv 0)) (ev_int pe_int)) d_mod) (fun _ _ => rfl)) d_ix))) (ss_nil pss_nil)))))) v_law_bad_line
theorem sc_law_bad_first : FnScope ["cell", "some"] ["cell"] (defScope s_law_bad_first) := ⟨rfl, rfl, rfl, by decide +kernel, rfl, by decide +kernel, by decide +kernel⟩
theorem w_law_bad_first {f : Addr} {fd : FuncData} (Fn : Fun g.K "_law_bad_first" "_law_bad_first" s_law_bad_first f fd) (T : Txt g mg)  : FnOk P w g.K mg base CX0 1 f fd ["cell"] (spP g 1 F_law_bad_first) :=
  ok_fn (T := t_law_bad_first) Fn sc_law_bad_first (by decide) (fun cdv A outer s H E hr => by
    have hu := hu_of hr
    have hu64 := hr.units
    have nd := sc_law_bad_first.nd
    exact (ss_cons (s_asgV (ps_set (i := 1) nd rfl (by first | exact Or.inl rfl | exact Or.inr rfl) (ev_ofO (eo_lst (pe_lst (ea_cons (pa_cons (ev_str pe_str) (ea_cons (pa_cons (ev_str pe_str) (ea_cons (pa_cons (ev_str pe_str) (ea_cons (pa_cons (ev_str pe_str) (ea_cons (pa_cons (ev_str pe_str) (ea_cons (pa_cons (ev_str pe_str) (ea_nil pa_nil)))))))))))))))))) (ss_cons (s_asgV (ps_set (i := 1) nd rfl (by first | exact Or.inl rfl | exact Or.inr rfl) (ev_ofO (ek_2 (pe_op op_cat (el_var (pv 1)) (el_ofO (eo_lst (pe_lst (ea_cons (pa_cons (ev_str pe_str) (ea_cons (pa_cons (ev_str pe_str) (ea_cons (pa_cons (ev_str pe_str) (ea_cons (pa_cons (ev_str pe_str) (ea_nil pa_nil))))))))))))) d_cat)))) (ss_cons (s_retV (ps_ret (ek_2 (pe_ix ix_seq (ev_var (pv 1)) (ek_2 (pe_op op_mod (ev_var (pv 0)) (ev_int pe_int)) d_mod) (fun _ _ => rfl)) d_ix))) (ss_nil pss_nil))))) v_law_bad_first
theorem sc_law_spoiled_k14 : FnScope ["lines", "cell", "place", "line", "ahead", "behind", "spot", "sign", "kind"] ["lines", "cell"] (defScope s_law_spoiled_k14) := ⟨rfl, rfl, rfl, by decide +kernel, rfl, by decide +kernel, by decide +kernel⟩
theorem w_law_spoiled_k14 {f : Addr} {fd : FuncData} (Fn : Fun g.K "_law_spoiled" "_law_spoiled" s_law_spoiled_k14 f fd) (T : Txt g mg) (C_law_bad_line : Cal P w g mg base CX0 "_law_bad_line" 1 (spP g 1 F_law_bad_line)) (C_law_bad_first : Cal P w g mg base CX0 "_law_bad_first" 1 (spP g 1 F_law_bad_first)) : FnOk P w g.K mg base CX0 2 f fd ["lines", "cell"] (spP g 2 F_law_spoiled_k14) :=
  ok_fn (T := t_law_spoiled_k14) Fn sc_law_spoiled_k14 (by decide) (fun cdv A outer s H E hr => by
    have hu := hu_of hr
    have hu64 := hr.units
    have nd := sc_law_spoiled_k14.nd
    exact (ss_cons (s_asgV (ps_set (i := 2) nd rfl (by first | exact Or.inl rfl | exact Or.inr rfl) (ek_2 (pe_op op_mod (ek_2 (pe_op op_fdiv (ev_var (pv 1)) (ev_int pe_int)) d_div) (ek_1 (to_1 (pe_callB call_len (by rfl) T.b_len PySem.boot_len (pa_cons (el_var (pv 0)) pa_nil))) d_lenL)) d_mod))) (ss_cons (s_asgV (ps_set (i := 3) nd rfl (by first | exact Or.inl rfl | exact Or.inr rfl) (ek_2 (pe_ix ix_seq (ev_var (pv 0)) (ev_var (pv 2)) (fun _ _ => rfl)) d_ix))) (ss_cons (s_asgV (ps_set (i := 4) nd rfl (by first | exact Or.inl rfl | exact Or.inr rfl) (ev_ofO (eo_cut (pe_slice sl_list (el_var (pv 0)) (po_n po_none) (po_i (po_some (ev_var (pv 2))))))))) (ss_cons (s_asgV (ps_set (i := 5) nd rfl (by first | exact Or.inl rfl | exact Or.inr rfl) (ev_ofO (eo_cut (pe_slice sl_list (el_var (pv 0)) (po_i (po_some (ek_2 (pe_op op_add (ev_var (pv 2)) (ev_int pe_int)) d_add))) (po_n po_none)))))) (ss_cons (s_asgV (ps_set (i := 6) nd rfl (by first | exact Or.inl rfl | exact Or.inr rfl) (ek_2 (pe_op op_mod (ek_2 (pe_op op_fdiv (ev_var (pv 1)) (ev_int pe_int)) d_div) (ek_2 (pe_op op_add (ek_1 (to_1 (pe_callB call_len (by rfl) T.b_len PySem.boot_len (pa_cons (ev_var (pv 3)) pa_nil))) d_len) (ev_int pe_int)) d_add)) d_mod))) (ss_cons (s_asgV (ps_set (i := 7) nd rfl (by first | exact Or.inl rfl | exact Or.inr rfl) (ek_2 (pe_ix ix_seq (ev_str pe_str) (ek_2 (pe_op op_mod (ek_2 (pe_op op_fdiv (ev_var (pv 1)) (ev_int pe_int)) d_div) (ev_int pe_int)) d_mod) (fun _ _ => rfl)) d_ix))) (ss_cons (s_asgV (ps_set (i := 8) nd rfl (by first | exact Or.inl rfl | exact Or.inr rfl) (ek_2 (pe_op op_mod (ev_var (pv 1)) (ev_int pe_int)) d_mod))) (ss_cons (s_if (ps_if (pt_2 (pt_cmpR (op_eq2 hu64) (ev_var (pv 8)) (ev_int pe_int) (nomark _)) d_eq) (ss_cons (s_retO (ps_ret (ek_2 (pe_op op_cat (el_ofO (ek_2 (pe_op op_cat (el_var (pv 4)) (el_ofO (eo_lst (pe_lst (ea_cons (pa_cons (ek_2 (pe_op op_add_str (ek_2 (pe_op op_add_str (ev_cutS (pe_slice sl_str (ev_var (pv 3)) (po_n po_none) (po_i (po_some (ev_var (pv 6)))))) (ev_var (pv 7))) d_addS) (ev_cutS (pe_slice sl_str (ev_var (pv 3)) (po_i (po_some (ev_var (pv 6)))) (po_n po_none)))) d_addS) (ea_nil pa_nil))))))) d_cat)) (el_var (pv 5))) d_cat))) (ss_nil pss_nil)) (ss_nil pss_nil))) (ss_cons (s_if (ps_if (pt_2 (pt_cmpR (op_eq2 hu64) (ev_var (pv 8)) (ev_int pe_int) (nomark _)) d_eq) (ss_cons (s_retO (ps_ret (ek_2 (pe_op op_cat (el_ofO (ek_2 (pe_op op_cat (el_var (pv 4)) (el_ofO (eo_lst (pe_lst (ea_cons (pa_cons (ek_2 (pe_op op_add_str (ev_cutS (pe_slice sl_str (ev_var (pv 3)) (po_n po_none) (po_i (po_some (ev_var (pv 6)))))) (ev_cutS (pe_slice sl_str (ev_var (pv 3)) (po_i (po_some (ek_2 (pe_op op_add (ev_var (pv 6)) (ev_int pe_int)) d_add))) (po_n po_none)))) d_addS) (ea_nil pa_nil))))))) d_cat)) (el_var (pv 5))) d_cat))) (ss_nil pss_nil)) (ss_nil pss_nil))) (ss_cons (s_if (ps_if (pt_2 (pt_cmpR (op_eq2 hu64) (ev_var (pv 8)) (ev_int pe_int) (nomark _)) d_eq) (ss_cons (s_retO (ps_ret (ek_2 (pe_op op_cat (el_ofO (ek_2 (pe_op op_cat (el_var (pv 4)) (el_ofO (eo_lst (pe_lst (ea_cons (pa_cons (ek_2 (pe_op op_add_str (ek_2 (pe_op op_add_str (ev_cutS (pe_slice sl_str (ev_var (pv 3)) (po_n po_none) (po_i (po_some (ev_var (pv 6)))))) (ev_var (pv 7))) d_addS) (ev_cutS (pe_slice sl_str (ev_var (pv 3)) (po_i (po_some (ek_2 (pe_op op_add (ev_var (pv 6)) (ev_int pe_int)) d_add))) (po_n po_none)))) d_addS) (ea_nil pa_nil))))))) d_cat)) (el_var (pv 5))) d_cat))) (ss_nil pss_nil)) (ss_nil pss_nil))) (ss_cons (s_if (ps_if (pt_2 (pt_cmpR (op_eq2 hu64) (ev_var (pv 8)) (ev_int pe_int) (nomark _)) d_eq) (ss_cons (s_retO (ps_ret (ek_2 (pe_op op_cat (el_ofO (ek_2 (pe_op op_cat (el_var (pv 4)) (el_ofO (eo_lst (pe_lst (ea_cons (pa_cons (ev_var (pv 3)) (ea_cons (pa_cons (ev_var (pv 3)) (ea_nil pa_nil))))))))) d_cat)) (el_var (pv 5))) d_cat))) (ss_nil pss_nil)) (ss_nil pss_nil))) (ss_cons (s_if (ps_if (pt_2 (pt_cmpR (op_eq2 hu64) (ev_var (pv 8)) (ev_int pe_int) (nomark _)) d_eq) (ss_cons (s_retO (ps_ret (ek_2 (pe_op op_cat (el_ofO (ek_2 (pe_op op_cat (el_var (pv 4)) (el_ofO (eo_lst (pe_lst (ea_cons (pa_cons (ev_var (pv 3)) (ea_cons (pa_cons (ev_ofO (eo_ofX (ex_cal C_law_bad_line rfl (hr.mono (by decide)) rfl (fun _ => noPass0) (ear_v (pa_cons (ek_2 (pe_op op_fdiv (ev_var (pv 1)) (ev_int pe_int)) d_div) (ear_nil pa_nil)))))) (ea_nil pa_nil))))))))) d_cat)) (el_var (pv 5))) d_cat))) (ss_nil pss_nil)) (ss_nil pss_nil))) (ss_cons (s_if (ps_if (pt_2 (pt_cmpR (op_eq2 hu64) (ev_var (pv 8)) (ev_int pe_int) (nomark _)) d_eq) (ss_cons (s_retO (ps_ret (ek_2 (pe_op op_cat (el_ofO (eo_lst (pe_lst (ea_cons (pa_cons (ev_ofO (eo_ofX (ex_cal C_law_bad_first rfl (hr.mono (by decide)) rfl (fun _ => noPass0) (ear_v (pa_cons (ek_2 (pe_op op_fdiv (ev_var (pv 1)) (ev_int pe_int)) d_div) (ear_nil pa_nil)))))) (ea_nil pa_nil)))))) (el_ofO (eo_cut (pe_slice sl_list (el_var (pv 0)) (po_i (po_some (ev_int pe_int))) (po_n po_none))))) d_cat))) (ss_nil pss_nil)) (ss_nil pss_nil))) (ss_cons (s_if (ps_if (pt_2 (pt_cmpR (op_eq2 hu64) (ev_var (pv 8)) (ev_int pe_int) (nomark _)) d_eq) (ss_cons (s_retO (ps_ret (eo_cut (pe_slice sl_list (el_var (pv 0)) (po_i (po_some (ev_int pe_int))) (po_n po_none))))) (ss_nil pss_nil)) (ss_nil pss_nil))) (ss_cons (s_retO (ps_ret (ek_2 (pe_op op_cat (el_var (pv 0)) (el_ofO (eo_lst (pe_lst (ea_cons (pa_cons (ev_str pe_str) (ea_nil pa_nil))))))) d_cat))) (ss_nil pss_nil))))))))))))))))) v_law_spoiled_k14
theorem sc_law_number : FnScope ["word", "sign"] ["word"] (defScope s_law_number) := ⟨rfl, rfl, rfl, by decide +kernel, rfl, by decide +kernel, by decide +kernel⟩
theorem w_law_number {f : Addr} {fd : FuncData} (Fn : Fun g.K "_law_number" "_law_number" s_law_number f fd) (T : Txt g mg)  : FnOk P w g.K mg base CX0 1 f fd ["word"] (spP g 1 F_law_number) :=
  ok_fn (T := t_law_number) Fn sc_law_number (by decide) (fun cdv A outer s H E hr => by
    have hu := hu_of hr
    have hu64 := hr.units
    have nd := sc_law_number.nd
    exact (ss_cons (s_if (ps_if (PW.pt (pw_o (pw_or (pt_2 (pt_cmpR op_lt (ek_1 (to_1 (pe_callB call_len (by rfl) T.b_len PySem.boot_len (pa_cons (ev_var (pv 0)) pa_nil))) d_len) (ev_int pe_int) (nomark _)) d_lt) (pw_or1 (pt_2 (pt_cmpR op_gt (ek_1 (to_1 (pe_callB call_len (by rfl) T.b_len PySem.boot_len (pa_cons (ev_var (pv 0)) pa_nil))) d_len) (ev_int pe_int) (nomark _)) d_gt))))) (ss_cons (s_retV (ps_ret (ek_1 (pe_un un_neg (ev_int pe_int)) d_neg))) (ss_nil pss_nil)) (ss_nil pss_nil))) (ss_cons (s_for tg_name tv_name (ps_for PassesOwn.never rfl (ei_str (pi_str (ev_var (pv 0)))) (pg_name (i := 1) nd rfl (by first | exact Or.inl rfl | exact Or.inr rfl)) (ss_cons (s_if (ps_if (pt_2 (pt_cmpR op_notIn_sign (ev_var (pv 1)) (ev_str pe_str) (by rfl)) d_notInS) (ss_cons (s_retV (ps_ret (ek_1 (pe_un un_neg (ev_int pe_int)) d_neg))) (ss_nil pss_nil)) (ss_nil pss_nil))) (ss_nil pss_nil)))) (ss_cons (s_if (ps_if (PW.pt (pw_a (pw_and (pt_2 (pt_cmpR (op_eq2 hu64) (ek_2 (pe_ix ix_seq (ev_var (pv 0)) (ev_int pe_int) (fun _ _ => rfl)) d_ix) (ev_str pe_str) (nomark _)) d_eq) (pw_and1 (pt_2 (pt_cmpR op_gt (ek_1 (to_1 (pe_callB call_len (by rfl) T.b_len PySem.boot_len (pa_cons (ev_var (pv 0)) pa_nil))) d_len) (ev_int pe_int) (nomark _)) d_gt))))) (ss_cons (s_retV (ps_ret (ek_1 (pe_un un_neg (ev_int pe_int)) d_neg))) (ss_nil pss_nil)) (ss_nil pss_nil))) (ss_cons (s_retV (ps_ret (ek_1 (to_1 (pe_callTy call_int_str (by rfl) T.b_int (by decide +kernel) (pa_cons (ev_var (pv 0)) pa_nil))) d_intS))) (ss_nil pss_nil)))))) v_law_number
theorem sc_law_pipe_of : FnScope ["line", "size", "words", "start", "goal"] ["line", "size"] (defScope s_law_pipe_of) := ⟨rfl, rfl, rfl, by decide +kernel, rfl, by decide +kernel, by decide +kernel⟩
theorem w_law_pipe_of {f : Addr} {fd : FuncData} (Fn : Fun g.K "_law_pipe_of" "_law_pipe_of" s_law_pipe_of f fd) (T : Txt g mg) (C_law_number : Cal P w g mg base CX0 "_law_number" 1 (spP g 1 F_law_number)) : FnOk P w g.K mg base CX0 2 f fd ["line", "size"] (spP g 2 F_law_pipe_of) :=
  ok_fn (T := t_law_pipe_of) Fn sc_law_pipe_of (by decide) (fun cdv A outer s H E hr => by
    have hu := hu_of hr
    have hu64 := hr.units
    have nd := sc_law_pipe_of.nd
    exact (ss_cons (s_asgV (ps_set (i := 2) nd rfl (by first | exact Or.inl rfl | exact Or.inr rfl) (ev_ofO (eo_split (pe_split (ev_var (pv 0)) (ev_str pe_str)))))) (ss_cons (s_if (ps_if (PW.pt (pw_o (pw_or (pt_2 (pt_cmpR (op_ne2 hu64) (ek_1 (to_1 (pe_callB call_len (by rfl) T.b_len PySem.boot_len (pa_cons (el_var (pv 2)) pa_nil))) d_lenL) (ev_int pe_int) (nomark _)) d_ne) (pw_or1 (PW.pt (pw_a (pw_and (pt_2 (pt_cmpR (op_ne2 hu64) (ek_2 (pe_ix ix_seq (ev_var (pv 2)) (ev_int pe_int) (fun _ _ => rfl)) d_ix) (ev_str pe_str) (nomark _)) d_ne) (pw_and1 (pt_2 (pt_cmpR (op_ne2 hu64) (ek_2 (pe_ix ix_seq (ev_var (pv 2)) (ev_int pe_int) (fun _ _ => rfl)) d_ix) (ev_str pe_str) (nomark _)) d_ne))))))))) (ss_cons (s_retV (ps_ret (ev_non pe_non))) (ss_nil pss_nil)) (ss_nil pss_nil))) (ss_cons (s_asgV (ps_set (i := 3) nd rfl (by first | exact Or.inl rfl | exact Or.inr rfl) (ev_ofO (eo_ofX (ex_cal C_law_number rfl (hr.mono (by decide)) rfl (fun _ => noPass0) (ear_v (pa_cons (ek_2 (pe_ix ix_seq (ev_var (pv 2)) (ev_int pe_int) (fun _ _ => rfl)) d_ix) (ear_nil pa_nil)))))))) (ss_cons (s_asgV (ps_set (i := 4) nd rfl (by first | exact Or.inl rfl | exact Or.inr rfl) (ev_ofO (eo_ofX (ex_cal C_law_number rfl (hr.mono (by decide)) rfl (fun _ => noPass0) (ear_v (pa_cons (ek_2 (pe_ix ix_seq (ev_var (pv 2)) (ev_int pe_int) (fun _ _ => rfl)) d_ix) (ear_nil pa_nil)))))))) (ss_cons (s_if (ps_if (PW.pt (pw_o (pw_or (pt_2 (pt_cmpR op_lt (ek_2 (to_2 (pe_callB (call_min2 rfl) (by rfl) T.b_min (by decide +kernel) (pa_cons (ev_var (pv 3)) (pa_cons (ev_var (pv 4)) pa_nil)))) d_min2) (ev_int pe_int) (nomark _)) d_lt) (pw_o (pw_or (pt_2 (pt_cmpR op_ge (ek_2 (to_2 (pe_callB (call_max2 rfl) (by rfl) T.b_max (by decide +kernel) (pa_cons (ev_var (pv 3)) (pa_cons (ev_var (pv 4)) pa_nil)))) d_max2) (ev_var (pv 1)) (nomark _)) d_ge) (pw_or1 (pt_2 (pt_cmpR (op_eq2 hu64) (ev_var (pv 3)) (ev_var (pv 4)) (nomark _)) d_eq))))))) (ss_cons (s_retV (ps_ret (ev_non pe_non))) (ss_nil pss_nil)) (ss_nil pss_nil))) (ss_cons (s_retV (ps_ret (ev_tup (pe_tup (ea_cons (pa_cons (ev_var (pv 3)) (ea_cons (pa_cons (ev_var (pv 4)) (ea_cons (pa_cons (ek_2 (pe_cmpR (op_eq2 hu64) (ek_2 (pe_ix ix_seq (ev_var (pv 2)) (ev_int pe_int) (fun _ _ => rfl)) d_ix) (ev_str pe_str) (nomark _)) d_eq) (ea_nil pa_nil))))))))))) (ss_nil pss_nil)))))))) v_law_pipe_of
theorem sc_law_due_k14 : FnScope ["lines", "words", "pipes", "line", "pipe"] ["lines"] (defScope s_law_due_k14) := ⟨rfl, rfl, rfl, by decide +kernel, rfl, by decide +kernel, by decide +kernel⟩
theorem w_law_due_k14 {f : Addr} {fd : FuncData} (Fn : Fun g.K "_law_due" "_law_due" s_law_due_k14 f fd) (T : Txt g mg) (C_law_number : Cal P w g mg base CX0 "_law_number" 1 (spP g 1 F_law_number)) (C_law_pipe_of : Cal P w g mg base CX0 "_law_pipe_of" 2 (spP g 2 F_law_pipe_of)) : FnOk P w g.K mg base CX0 3 f fd ["lines"] (spP g 1 F_law_due_k14) :=
  ok_fn (T := t_law_due_k14) Fn sc_law_due_k14 (by decide) (fun cdv A outer s H E hr => by
    have hu := hu_of hr
    have hu64 := hr.units
    have nd := sc_law_due_k14.nd
    exact (ss_cons (s_if (ps_if (pt_2 (pt_cmpR (op_eq2 hu64) (ek_1 (to_1 (pe_callB call_len (by rfl) T.b_len PySem.boot_len (pa_cons (el_var (pv 0)) pa_nil))) d_lenL) (ev_int pe_int) (nomark _)) d_eq) (ss_cons (s_retV (ps_ret (ev_non pe_non))) (ss_nil pss_nil)) (ss_nil pss_nil))) (ss_cons (s_asgV (ps_set (i := 1) nd rfl (by first | exact Or.inl rfl | exact Or.inr rfl) (ev_ofO (eo_split (pe_split (ek_2 (pe_ix ix_seq (ev_var (pv 0)) (ev_int pe_int) (fun _ _ => rfl)) d_ix) (ev_str pe_str)))))) (ss_cons (s_if (ps_if (PW.pt (pw_o (pw_or (pt_2 (pt_cmpR (op_ne2 hu64) (ek_1 (to_1 (pe_callB call_len (by rfl) T.b_len PySem.boot_len (pa_cons (el_var (pv 1)) pa_nil))) d_lenL) (ev_int pe_int) (nomark _)) d_ne) (pw_o (pw_or (pt_2 (pt_cmpR (op_ne2 hu64) (ek_2 (pe_ix ix_seq (ev_var (pv 1)) (ev_int pe_int) (fun _ _ => rfl)) d_ix) (ev_str pe_str) (nomark _)) d_ne) (pw_or1 (pt_n (pt_not (pt_ch (pt_chain op_le op_le (ev_int pe_int) (ev_ofO (eo_ofX (ex_cal C_law_number rfl (hr.mono (by decide)) rfl (fun _ => noPass0) (ear_v (pa_cons (ek_2 (pe_ix ix_seq (ev_var (pv 1)) (ev_int pe_int) (fun _ _ => rfl)) d_ix) (ear_nil pa_nil)))))) (ev_int pe_int)) d_le d_le))))))))) (ss_cons (s_retV (ps_ret (ev_non pe_non))) (ss_nil pss_nil)) (ss_nil pss_nil))) (ss_cons (s_asgLcV tg_name gN_len (ps_setLc (i := 2) (own := [("line", 3)]) rfl nd rfl rfl (sw_true rfl rfl rfl (by decide +kernel)) (ei_listL (pi_list (el_ofO (eo_cut (pe_slice sl_list (el_var (pv 0)) (po_i (po_some (ev_int pe_int))) (po_n po_none)))))) (blkOk_by (own := [("line", 3)]) (N := ["lines", "words", "pipes", "line", "pipe"]) (sc := defScope s_law_due_k14) (by decide +kernel)) (fun _ _ _ _ _ => (pg_name (i := 3) nd rfl (by first | exact Or.inl rfl | exact Or.inr rfl))) (fun _ _ _ _ _ => (pts_yes pts_nil)) (fun _ _ _ _ _ => (ev_ofO (eo_ofX (ex_cal C_law_pipe_of rfl (hr.mono (by decide)) rfl (fun _ => noPass0) (ear_v (pa_cons (ev_var (pv 3)) (ear_v (pa_cons (ek_1 (to_1 (pe_callTy call_int_str (by rfl) T.b_int (by decide +kernel) (pa_cons (ek_2 (pe_ix ix_seq (ev_var (pv 1)) (ev_int pe_int) (fun _ _ => rfl)) d_ix) pa_nil))) d_intS) (ear_nil pa_nil))))))))))) (ss_cons (s_if (ps_if (PW.pt (pw_o (pw_or (pt_2 (pt_cmpR op_gt (ek_1 (to_1 (pe_callB call_len (by rfl) T.b_len PySem.boot_len (pa_cons (el_var (pv 2)) pa_nil))) d_lenL) (ev_int pe_int) (nomark _)) d_gt) (pw_or1 (pt_2 (pt_cmpR op_gt (ek_1 (to_1 (pe_callB call_len (by rfl) T.b_len PySem.boot_len (pa_cons (el_ofO (eo_lc tg_name gN_len (pe_lc (own := [("pipe", 4)]) rfl nd (ei_listL (pi_list (el_var (pv 2)))) (blkOk_by (own := [("pipe", 4)]) (N := ["lines", "words", "pipes", "line", "pipe"]) (sc := defScope s_law_due_k14) (by decide +kernel)) (fun _ _ _ _ _ => (pg_name (i := 4) nd rfl (by first | exact Or.inl rfl | exact Or.inr rfl))) (fun _ _ _ _ _ => (pts_one (pt_2 (pt_cmpR op_isN (ev_var (pv 4)) (ev_non pe_non) (nomark _)) d_isN))) (fun _ _ _ _ _ => (ev_var (pv 4)))))) pa_nil))) d_lenL) (ev_int pe_int) (nomark _)) d_gt))))) (ss_cons (s_retV (ps_ret (ev_non pe_non))) (ss_nil pss_nil)) (ss_nil pss_nil))) (ss_cons (s_retV (ps_ret (ev_tup (pe_tup (ea_cons (pa_cons (ek_1 (to_1 (pe_callTy call_int_str (by rfl) T.b_int (by decide +kernel) (pa_cons (ek_2 (pe_ix ix_seq (ev_var (pv 1)) (ev_int pe_int) (fun _ _ => rfl)) d_ix) pa_nil))) d_intS) (ea_cons (pa_cons (ev_var (pv 2)) (ea_nil pa_nil))))))))) (ss_nil pss_nil)))))))) v_law_due_k14
theorem sc_law_k14 : FnScope ["script", "size", "many", "pipes", "lines", "cell", "text", "due", "found", "marks", "e", "told", "pipe", "line"] ["script"] (defScope s_law_k14) := ⟨rfl, rfl, rfl, by decide +kernel, rfl, by decide +kernel, by decide +kernel⟩
theorem w_law_k14 {f : Addr} {fd : FuncData} (Fn : Fun g.K "law" "law" s_law_k14 f fd) (T : Txt g mg) (C_law_cell_at : Cal P w g mg base CX0 "_law_cell_at" 1 (spP g 2 F_law_cell_at)) (C_law_pipes_by : Cal P w g mg base CX0 "_law_pipes_by" 2 (spP g 4 F_law_pipes_by)) (C_law_line : Cal P w g mg base CX0 "_law_line" 1 (spP g 1 F_law_line)) (C_law_spoiled_k14 : Cal P w g mg base CX0 "_law_spoiled" 2 (spP g 2 F_law_spoiled_k14)) (C_law_due_k14 : Cal P w g mg base CX0 "_law_due" 3 (spP g 1 F_law_due_k14)) (C_read_k14 : Cal P w g mg base (L2.CX P w) "read" 5 (spP g 1 F_read_k14)) (C_size : Cam P w g mg base CX0 "size" 1 (spP g 1 F_size)) (C_law_whole : Cal P w g mg base CX0 "_law_whole" 1 (spP g 1 F_law_whole)) (C_law_same_pipes : Cal P w g mg base CX0 "_law_same_pipes" 2 (spP g 2 F_law_same_pipes)) (C_pipes : Cam P w g mg base CX0 "pipes" 1 (spP g 1 F_pipes)) : FnOk P w g.K mg base CX0 6 f fd ["script"] (spP g 1 F_law_k14) :=
  ok_fn (T := t_law_k14) Fn sc_law_k14 (by decide) (fun cdv A outer s H E hr => by
    have hu := hu_of hr
    have hu64 := hr.units
    have nd := sc_law_k14.nd
    exact (ss_cons (s_asgV (ps_set (i := 1) nd rfl (by first | exact Or.inl rfl | exact Or.inr rfl) (ek_2 (pe_op op_add (ev_int pe_int) (ek_2 (pe_op op_mod (ev_ofO (eo_ofX (ex_cal C_law_cell_at rfl (hr.mono (by decide)) rfl (fun _ => noPass0) (ear_v (pa_cons (ev_var (pv 0)) (ear_v (pa_cons (ev_int pe_int) (ear_nil pa_nil)))))))) (ev_int pe_int)) d_mod)) d_add))) (ss_cons (s_asgV (ps_set (i := 2) nd rfl (by first | exact Or.inl rfl | exact Or.inr rfl) (ek_2 (pe_op op_mod (ev_ofO (eo_ofX (ex_cal C_law_cell_at rfl (hr.mono (by decide)) rfl (fun _ => noPass0) (ear_v (pa_cons (ev_var (pv 0)) (ear_v (pa_cons (ev_int pe_int) (ear_nil pa_nil)))))))) (ev_int pe_int)) d_mod))) (ss_cons (s_if (ps_if (pt_2 (pt_cmpR (op_eq2 hu64) (ek_2 (pe_op op_mod (ek_2 (pe_op op_fdiv (ev_ofO (eo_ofX (ex_cal C_law_cell_at rfl (hr.mono (by decide)) rfl (fun _ => noPass0) (ear_v (pa_cons (ev_var (pv 0)) (ear_v (pa_cons (ev_int pe_int) (ear_nil pa_nil)))))))) (ev_int pe_int)) d_div) (ev_int pe_int)) d_mod) (ev_int pe_int) (nomark _)) d_eq) (ss_cons (s_asgV (ps_set (i := 2) nd rfl (by first | exact Or.inl rfl | exact Or.inr rfl) (ev_int pe_int))) (ss_nil pss_nil)) (ss_nil pss_nil))) (ss_cons (s_asgV (ps_set (i := 3) nd rfl (by first | exact Or.inl rfl | exact Or.inr rfl) (ev_ofO (eo_ofX (ex_cal C_law_pipes_by rfl (hr.mono (by decide)) rfl (fun _ => noPass0) (ear_v (pa_cons (ev_var (pv 0)) (ear_v (pa_cons (ev_int pe_int) (ear_v (pa_cons (ev_var (pv 2)) (ear_v (pa_cons (ev_var (pv 1)) (ear_nil pa_nil)))))))))))))) (ss_cons (s_asgV (ps_set (i := 4) nd rfl (by first | exact Or.inl rfl | exact Or.inr rfl) (ev_ofO (ek_2 (pe_op op_cat (el_ofO (eo_lst (pe_lst (ea_cons (pa_cons (ek_2 (pe_op op_add_str (ev_str pe_str) (ek_1 (to_1 (pe_callTy call_str_int (by rfl) T.b_str (by decide +kernel) (pa_cons (ev_var (pv 1)) pa_nil))) d_strI)) d_addS) (ea_nil pa_nil)))))) (el_ofO (eo_lc tg_name gN_len (pe_lc (own := [("pipe", 12)]) rfl nd (ei_listL (pi_list (el_var (pv 3)))) (blkOk_by (own := [("pipe", 12)]) (N := ["script", "size", "many", "pipes", "lines", "cell", "text", "due", "found", "marks", "e", "told", "pipe", "line"]) (sc := defScope s_law_k14) (by decide +kernel)) (fun _ _ _ _ _ => (pg_name (i := 12) nd rfl (by first | exact Or.inl rfl | exact Or.inr rfl))) (fun _ _ _ _ _ => (pts_yes pts_nil)) (fun _ _ _ _ _ => (ev_ofO (eo_ofX (ex_cal C_law_line rfl (hr.mono (by decide)) rfl (fun _ => noPass0) (ear_v (pa_cons (ev_var (pv 12)) (ear_nil pa_nil))))))))))) d_cat)))) (ss_cons (s_asgV (ps_set (i := 5) nd rfl (by first | exact Or.inl rfl | exact Or.inr rfl) (ek_2 (pe_op op_mod (ev_ofO (eo_ofX (ex_cal C_law_cell_at rfl (hr.mono (by decide)) rfl (fun _ => noPass0) (ear_v (pa_cons (ev_var (pv 0)) (ear_v (pa_cons (ev_int pe_int) (ear_nil pa_nil)))))))) (ek_2 (pe_op op_pow (ev_int pe_int) (ev_int pe_int)) d_pow)) d_mod))) (ss_cons (s_if (ps_if (pt_2 (pt_cmpR op_gt (ek_2 (pe_op op_mod (ev_var (pv 5)) (ev_int pe_int)) d_mod) (ev_int pe_int) (nomark _)) d_gt) (ss_cons (s_asgV (ps_set (i := 4) nd rfl (by first | exact Or.inl rfl | exact Or.inr rfl) (ev_ofO (eo_ofX (ex_cal C_law_spoiled_k14 rfl (hr.mono (by decide)) rfl (fun _ => noPass0) (ear_v (pa_cons (ev_var (pv 4)) (ear_v (pa_cons (ek_2 (pe_op op_fdiv (ev_var (pv 5)) (ev_int pe_int)) d_div) (ear_nil pa_nil)))))))))) (ss_nil pss_nil)) (ss_nil pss_nil))) (ss_cons (s_asgV (ps_set (i := 6) nd rfl (by first | exact Or.inl rfl | exact Or.inr rfl) (ev_join rfl (pe_join (ev_str pe_str) (el_ofO (eo_lc tg_name gN_len (pe_lc (own := [("line", 13)]) rfl nd (ei_listL (pi_list (el_var (pv 4)))) (blkOk_by (own := [("line", 13)]) (N := ["script", "size", "many", "pipes", "lines", "cell", "text", "due", "found", "marks", "e", "told", "pipe", "line"]) (sc := defScope s_law_k14) (by decide +kernel)) (fun _ _ _ _ _ => (pg_name (i := 13) nd rfl (by first | exact Or.inl rfl | exact Or.inr rfl))) (fun _ _ _ _ _ => (pts_yes pts_nil)) (fun _ _ _ _ _ => (ek_2 (pe_op op_add_str (ev_var (pv 13)) (ev_str pe_str)) d_addS))))))))) (ss_cons (s_asgV (ps_set (i := 7) nd rfl (by first | exact Or.inl rfl | exact Or.inr rfl) (ev_ofO (eo_ofX (ex_cal C_law_due_k14 rfl (hr.mono (by decide)) rfl (fun _ => noPass0) (ear_v (pa_cons (ev_var (pv 4)) (ear_nil pa_nil)))))))) (ss_cons (s_if (ps_if (PW.pt (pw_a (pw_and (pt_2 (pt_cmpR (op_eq2 hu64) (ek_2 (pe_op op_mod (ev_var (pv 5)) (ev_int pe_int)) d_mod) (ev_int pe_int) (nomark _)) d_eq) (pw_and1 (pt_2 (pt_cmpR (op_eq2 hu64) (ek_2 (pe_op op_mod (ek_2 (pe_op op_fdiv (ev_var (pv 5)) (ev_int pe_int)) d_div) (ev_int pe_int)) d_mod) (ev_int pe_int) (nomark _)) d_eq))))) (ss_cons (s_asgV (ps_set (i := 6) nd rfl (by first | exact Or.inl rfl | exact Or.inr rfl) (ev_cutS (pe_slice sl_str (ev_var (pv 6)) (po_n po_none) (po_i (po_some (ek_1 (pe_un un_neg (ev_int pe_int)) d_neg))))))) (ss_cons (s_asgV (ps_set (i := 7) nd rfl (by first | exact Or.inl rfl | exact Or.inr rfl) (ev_non pe_non))) (ss_nil pss_nil))) (ss_nil pss_nil))) (ss_cons (s_asgO (ps_set (i := 8) nd rfl (by first | exact Or.inl rfl | exact Or.inr rfl) (eo_ofV (ev_non pe_non)))) (ss_cons (s_asgO (ps_set (i := 9) nd rfl (by first | exact Or.inl rfl | exact Or.inr rfl) (eo_lst (pe_lst (ea_nil pa_nil))))) (ss_cons (s_tryM T.y_NetError rfl rfl rfl rfl nd rfl rfl (by decide) takes0 (fun W pn xe tk hp => (ss_cons (s_asgX (ps_set (i := 8) nd rfl (by first | exact Or.inl rfl | exact Or.inr rfl) (ex_cal C_read_k14 rfl (hr.mono (by decide)) rfl (fun σ => passAt tk σ) (ear_v (pa_cons (ev_var (pv 6)) (ear_nil pa_nil)))))) (ss_nil pss_nil))) (fun a oe pn y hz hf => pss_cons (ps_set (i := 9) nd rfl (by first | exact Or.inl rfl | exact Or.inr rfl) (pe_lst (pa_cons (pe_ask (q := (.own .net)) (i := 10) T.ex rfl hz hf T.b_isinstance rfl (pv 10) (pe_askC T.x_NoNet rfl)) (pa_cons (pe_ask (q := .ve) (i := 10) T.ex rfl hz hf T.b_isinstance rfl (pv 10) (pe_askV (x := "ValueError") rfl T.b_ValueError)) (pa_cons (pe_ask (q := (.own .place)) (i := 10) T.ex rfl hz hf T.b_isinstance rfl (pv 10) (pe_askC T.x_NoPlace rfl)) pa_nil))))) (pss_cons (ps_set (i := 9) nd rfl (by first | exact Or.inl rfl | exact Or.inr rfl) (pe_op op_cat (pv 9) (pe_lst (pa_cons (pe_ask (q := (.own .pipe)) (i := 10) T.ex rfl hz hf T.b_isinstance rfl (pv 10) (pe_askC T.x_NoPipe rfl)) (pa_cons (pe_ask (q := (.own .same)) (i := 10) T.ex rfl hz hf T.b_isinstance rfl (pv 10) (pe_askC T.x_SamePlace rfl)) (pa_cons (pe_ask (q := (.own .much)) (i := 10) T.ex rfl hz hf T.b_isinstance rfl (pv 10) (pe_askC T.x_TooMuch rfl)) pa_nil)))))) pss_nil))) (ss_cons (s_if (ps_if (pt_2 (pt_cmpR op_isN (ev_var (pv 7)) (ev_non pe_non) (nomark _)) d_isN) (ss_cons (s_retV (ps_ret (ev_frz (ek_2 (pe_cmpR (op_eq2 hu64) (ev_var (pv 9)) (ev_ofO (eo_lst (pe_lst (ea_cons (pa_cons (ev_bl pe_bl) (ea_cons (pa_cons (ev_bl pe_bl) (ea_cons (pa_cons (ev_bl pe_bl) (ea_cons (pa_cons (ev_bl pe_bl) (ea_cons (pa_cons (ev_bl pe_bl) (ea_cons (pa_cons (ev_bl pe_bl) (ea_nil pa_nil)))))))))))))))) (nomark _)) d_eq)))) (ss_nil pss_nil)) (ss_nil pss_nil))) (ss_cons (s_if (ps_if (pt_frz (pt_2 (pt_cmpR (op_ne2 hu64) (ev_var (pv 9)) (ev_ofO (eo_lst (pe_lst (ea_nil pa_nil)))) (nomark _)) d_ne)) (ss_cons (s_retV (ps_ret (ev_bl pe_bl))) (ss_nil pss_nil)) (ss_nil pss_nil))) (ss_cons (s_asgV (ps_set (i := 11) nd rfl (by first | exact Or.inl rfl | exact Or.inr rfl) (ev_ofO (eo_ofX (ex_meth0 nf_size (pe_cam0 C_size rfl T.net.cl (hr.mono (by decide)) (fun _ => noPass0) (pv 8))))))) (ss_cons (s_retV (ps_ret (ev_and (pe_and (ev_ofO (eo_ofX (ex_cal C_law_whole rfl (hr.mono (by decide)) rfl (fun _ => noPass0) (ear_v (pa_cons (ev_var (pv 11)) (ear_nil pa_nil)))))) (ev_and (pe_and (ek_2 (pe_cmpR (op_eq2 hu64) (ev_var (pv 11)) (ek_2 (pe_ix ix_seq (ev_var (pv 7)) (ev_int pe_int) (fun _ _ => rfl)) d_ix) (nomark _)) d_eq) (pe_one (ev_ofO (eo_ofX (ex_cal C_law_same_pipes rfl (hr.mono (by decide)) rfl (fun _ => noPass0) (ear_v (pa_cons (ev_ofO (eo_ofX (ex_meth0 nf_pipes (pe_cam0 C_pipes rfl T.net.cl (hr.mono (by decide)) (fun _ => noPass0) (pv 8))))) (ear_v (pa_cons (ek_2 (pe_ix ix_seq (ev_var (pv 7)) (ev_int pe_int) (fun _ _ => rfl)) d_ix) (ear_nil pa_nil))))))))))))))) (ss_nil pss_nil))))))))))))))))))) v_law_k14
end
def spEnd (K : PySem.W.Frag) : Sp := fun vs H Q _ => ∃ (a : Addr) (ns : List Int), vs = [.ref a] ∧ SqL K H a (ns.map V.int) ∧ ns.length ≤ 63 ∧ ∀ H, Q (.bl true) H
theorem sp_end {g : Glo} {F : FN} (hF : ∀ ns : List Int, ns.length ≤ 63 → F [.val (.scr ns)] = some (.inl (.val (.bl true)))) {vs : List V} {H : Hp} {Q : VK} {E : XK} (h : spEnd g.K vs H Q E) : spP g 1 F vs H Q E := by
  obtain ⟨a, ns, rfl, hS, hl, k⟩ := h
  refine ⟨rfl, [.val (.scr ns)], _, H, fun _ => none, hF ns hl, rfl, (by intro s hs; simp at hs; subst hs; rfl), ⟨Same.refl _, fun _ _ e => (nomatch e), fun i s e => ?_, rfl⟩, fun v Hb' H' g1 r => ?_⟩
  · cases i with
    | zero =>
      cases e
      exact ⟨_, rfl, rep_scr.mpr ⟨a, rfl, hS⟩⟩
    | succ i => cases e
  · have r : Rep g.K Hb' v (.bl true) := r
    cases rep_bl.mp r
    exact k H'
theorem all_mk {P : Program} {w : World} {K : PySem.W.Frag} {h : Heap} {mg : Str → Option Value} {fa C : Addr}
    {A_TooMuch A_NoPlace A_NoPipe A_SamePlace A_NoNet A_NetError f0 f1 f2 f3 f4 f5 f6 f7 f8 f9 f10 f11 f12 f13 f14 f15 f16 f17 f18 f19 f20 f21 f22 f23 : Addr} {od0 an0 od1 an1 od2 an2 od3 an3 od4 an4 od5 an5 od6 an6 od7 an7 od8 an8 od9 an9 od10 an10 od11 an11 od12 an12 od13 an13 od14 an14 od15 an15 od16 an16 od17 an17 od18 an18 od19 an19 od20 an20 od21 an21 od22 an22 od23 an23 : Option Addr} {sl0 sl1 sl2 sl3 sl4 sl5 sl6 sl7 sl8 sl9 sl10 sl11 sl12 sl13 sl14 sl15 sl16 sl17 sl18 sl19 sl20 sl21 sl22 sl23 : Array (Option Value)} {oc0 kV0 dc0 pm0 cd0 ct0 oc1 kV1 dc1 pm1 cd1 ct1 oc2 kV2 dc2 pm2 cd2 ct2 oc3 kV3 dc3 pm3 cd3 ct3 oc4 kV4 dc4 pm4 cd4 ct4 oc5 kV5 dc5 pm5 cd5 ct5 oc6 kV6 dc6 pm6 cd6 ct6 oc7 kV7 dc7 pm7 cd7 ct7 oc8 kV8 dc8 pm8 cd8 ct8 oc9 kV9 dc9 pm9 cd9 ct9 oc10 kV10 dc10 pm10 cd10 ct10 oc11 kV11 dc11 pm11 cd11 ct11 oc12 kV12 dc12 pm12 cd12 ct12 oc13 kV13 dc13 pm13 cd13 ct13 oc14 kV14 dc14 pm14 cd14 ct14 oc15 kV15 dc15 pm15 cd15 ct15 oc16 kV16 dc16 pm16 cd16 ct16 oc17 kV17 dc17 pm17 cd17 ct17 oc18 kV18 dc18 pm18 cd18 ct18 oc19 kV19 dc19 pm19 cd19 ct19 oc20 kV20 dc20 pm20 cd20 ct20 oc21 kV21 dc21 pm21 cd21 ct21 oc22 kV22 dc22 pm22 cd22 ct22 oc23 kV23 dc23 pm23 cd23 ct23 : Value} {tk_PLACES tk_PIPES tk_MOST tk_FIGURES : Tok}
    (X : K.In h) (G : h.Ns mainGlobals mg) (hfa : mg "law" = some (.ref fa))
    (hC : PySem.W.nsIn K mainGlobals "Net" = some (some (.ref C)))
    (h_pg : PySem.W.plainGet K C Str.empty = true)
    (h_hd : PySem.W.hasDictIn K C = true)
    (h_po : PySem.W.plainOver K C = true)
    (h_sa : PySem.W.findIn K (.ref C) "__setattr__" = some (some (.builtin "object.__setattr__")))
    (h_mk : PySem.W.makesIn K C = true)
    (h_kc : PySem.W.keepIn K (.ref C) = true)
    (h_nM : PySem.W.findIn K (.ref C) "many" = some none)
    (h_nL : PySem.W.findIn K (.ref C) "laid" = some none)
    (z_len : PySem.W.nsIn K mainGlobals "len" = some none)
    (z_range : PySem.W.nsIn K mainGlobals "range" = some none)
    (z_list : PySem.W.nsIn K mainGlobals "list" = some none)
    (z_min : PySem.W.nsIn K mainGlobals "min" = some none)
    (z_max : PySem.W.nsIn K mainGlobals "max" = some none)
    (z_int : PySem.W.nsIn K mainGlobals "int" = some none)
    (z_str : PySem.W.nsIn K mainGlobals "str" = some none)
    (z_isinstance : PySem.W.nsIn K mainGlobals "isinstance" = some none)
    (z_bool : PySem.W.nsIn K mainGlobals "bool" = some none)
    (z_tuple : PySem.W.nsIn K mainGlobals "tuple" = some none)
    (k_PLACES : PySem.W.nsIn K mainGlobals "PLACES" = some (some (.int 12 tk_PLACES)))
    (k_PIPES : PySem.W.nsIn K mainGlobals "PIPES" = some (some (.int 60 tk_PIPES)))
    (k_MOST : PySem.W.nsIn K mainGlobals "MOST" = some (some (.int 2 tk_MOST)))
    (k_FIGURES : PySem.W.nsIn K mainGlobals "FIGURES" = some (some (.str "0123456789" tk_FIGURES)))
    (xg_TooMuch : PySem.W.nsIn K mainGlobals "TooMuch" = some (some (.ref A_TooMuch)))
    (xc_TooMuch : PySem.W.excIn K A_TooMuch [.type "ValueError", .type "Exception", .type "BaseException", .type "object"] "ValueError.__new__" = true)
    (xk_TooMuch : PySem.W.keepIn K (.ref A_TooMuch) = true)
    (xb_TooMuch : PySem.W.subIn K (.ref A_TooMuch) (.type "BaseException") = some true)
    (xt_TooMuch : PySem.W.typeIn K (.ref A_TooMuch) = some (.type "type"))
    (xg_NoPlace : PySem.W.nsIn K mainGlobals "NoPlace" = some (some (.ref A_NoPlace)))
    (xc_NoPlace : PySem.W.excIn K A_NoPlace [.type "ValueError", .type "Exception", .type "BaseException", .type "object"] "ValueError.__new__" = true)
    (xk_NoPlace : PySem.W.keepIn K (.ref A_NoPlace) = true)
    (xb_NoPlace : PySem.W.subIn K (.ref A_NoPlace) (.type "BaseException") = some true)
    (xt_NoPlace : PySem.W.typeIn K (.ref A_NoPlace) = some (.type "type"))
    (xg_NoPipe : PySem.W.nsIn K mainGlobals "NoPipe" = some (some (.ref A_NoPipe)))
    (xc_NoPipe : PySem.W.excIn K A_NoPipe [.type "ValueError", .type "Exception", .type "BaseException", .type "object"] "ValueError.__new__" = true)
    (xk_NoPipe : PySem.W.keepIn K (.ref A_NoPipe) = true)
    (xb_NoPipe : PySem.W.subIn K (.ref A_NoPipe) (.type "BaseException") = some true)
    (xt_NoPipe : PySem.W.typeIn K (.ref A_NoPipe) = some (.type "type"))
    (xg_SamePlace : PySem.W.nsIn K mainGlobals "SamePlace" = some (some (.ref A_SamePlace)))
    (xc_SamePlace : PySem.W.excIn K A_SamePlace [.type "ValueError", .type "Exception", .type "BaseException", .type "object"] "ValueError.__new__" = true)
    (xk_SamePlace : PySem.W.keepIn K (.ref A_SamePlace) = true)
    (xb_SamePlace : PySem.W.subIn K (.ref A_SamePlace) (.type "BaseException") = some true)
    (xt_SamePlace : PySem.W.typeIn K (.ref A_SamePlace) = some (.type "type"))
    (xg_NoNet : PySem.W.nsIn K mainGlobals "NoNet" = some (some (.ref A_NoNet)))
    (xc_NoNet : PySem.W.excIn K A_NoNet [.type "ValueError", .type "Exception", .type "BaseException", .type "object"] "ValueError.__new__" = true)
    (xk_NoNet : PySem.W.keepIn K (.ref A_NoNet) = true)
    (xb_NoNet : PySem.W.subIn K (.ref A_NoNet) (.type "BaseException") = some true)
    (xt_NoNet : PySem.W.typeIn K (.ref A_NoNet) = some (.type "type"))
    (xg_NetError : PySem.W.nsIn K mainGlobals "NetError" = some (some (.ref A_NetError)))
    (xb_NetError : PySem.W.subIn K (.ref A_NetError) (.type "BaseException") = some true)
    (xt_NetError : PySem.W.typeIn K (.ref A_NetError) = some (.type "type"))
    (xh_NetError : PySem.W.hasDictIn K A_NetError = true)
    (xs_TooMuch_NetError : PySem.W.subIn K (.ref A_TooMuch) (.ref A_NetError) = some true)
    (xs_NoPlace_NetError : PySem.W.subIn K (.ref A_NoPlace) (.ref A_NetError) = some true)
    (xs_NoPipe_NetError : PySem.W.subIn K (.ref A_NoPipe) (.ref A_NetError) = some true)
    (xs_SamePlace_NetError : PySem.W.subIn K (.ref A_SamePlace) (.ref A_NetError) = some true)
    (xs_NoNet_NetError : PySem.W.subIn K (.ref A_NoNet) (.ref A_NetError) = some true)
    (eN : PySem.W.specialIn K (.builtin "object.__class__") "__get__" = some (some (.builtin "getset_descriptor.__get__")))
    (eT : PySem.W.takesIn K (.builtin "object.__class__") = some true)
    (zV : PySem.W.nsIn K mainGlobals "ValueError" = some none)
    (eg_TooMuch : PySem.W.findIn K (.ref A_TooMuch) "__getattribute__" = some (some (.builtin "BaseException.__getattribute__")))
    (ek_TooMuch : PySem.W.findIn K (.ref A_TooMuch) "__getattr__" = some none)
    (eh_TooMuch : PySem.W.hasDictIn K A_TooMuch = true)
    (ea_TooMuch : PySem.W.findIn K (.ref A_TooMuch) "__class__" = some (some (.builtin "object.__class__")))
    (em_TooMuch : PySem.W.mroIn K A_TooMuch (.type "object") = some true)
    (ev_TooMuch : PySem.W.subIn K (.ref A_TooMuch) (.type "ValueError") = some true)
    (es_TooMuch_TooMuch : PySem.W.subIn K (.ref A_TooMuch) (.ref A_TooMuch) = some true)
    (es_TooMuch_NoPlace : PySem.W.subIn K (.ref A_TooMuch) (.ref A_NoPlace) = some false)
    (es_TooMuch_NoPipe : PySem.W.subIn K (.ref A_TooMuch) (.ref A_NoPipe) = some false)
    (es_TooMuch_SamePlace : PySem.W.subIn K (.ref A_TooMuch) (.ref A_SamePlace) = some false)
    (es_TooMuch_NoNet : PySem.W.subIn K (.ref A_TooMuch) (.ref A_NoNet) = some false)
    (eg_NoPlace : PySem.W.findIn K (.ref A_NoPlace) "__getattribute__" = some (some (.builtin "BaseException.__getattribute__")))
    (ek_NoPlace : PySem.W.findIn K (.ref A_NoPlace) "__getattr__" = some none)
    (eh_NoPlace : PySem.W.hasDictIn K A_NoPlace = true)
    (ea_NoPlace : PySem.W.findIn K (.ref A_NoPlace) "__class__" = some (some (.builtin "object.__class__")))
    (em_NoPlace : PySem.W.mroIn K A_NoPlace (.type "object") = some true)
    (ev_NoPlace : PySem.W.subIn K (.ref A_NoPlace) (.type "ValueError") = some true)
    (es_NoPlace_TooMuch : PySem.W.subIn K (.ref A_NoPlace) (.ref A_TooMuch) = some false)
    (es_NoPlace_NoPlace : PySem.W.subIn K (.ref A_NoPlace) (.ref A_NoPlace) = some true)
    (es_NoPlace_NoPipe : PySem.W.subIn K (.ref A_NoPlace) (.ref A_NoPipe) = some false)
    (es_NoPlace_SamePlace : PySem.W.subIn K (.ref A_NoPlace) (.ref A_SamePlace) = some false)
    (es_NoPlace_NoNet : PySem.W.subIn K (.ref A_NoPlace) (.ref A_NoNet) = some false)
    (eg_NoPipe : PySem.W.findIn K (.ref A_NoPipe) "__getattribute__" = some (some (.builtin "BaseException.__getattribute__")))
    (ek_NoPipe : PySem.W.findIn K (.ref A_NoPipe) "__getattr__" = some none)
    (eh_NoPipe : PySem.W.hasDictIn K A_NoPipe = true)
    (ea_NoPipe : PySem.W.findIn K (.ref A_NoPipe) "__class__" = some (some (.builtin "object.__class__")))
    (em_NoPipe : PySem.W.mroIn K A_NoPipe (.type "object") = some true)
    (ev_NoPipe : PySem.W.subIn K (.ref A_NoPipe) (.type "ValueError") = some true)
    (es_NoPipe_TooMuch : PySem.W.subIn K (.ref A_NoPipe) (.ref A_TooMuch) = some false)
    (es_NoPipe_NoPlace : PySem.W.subIn K (.ref A_NoPipe) (.ref A_NoPlace) = some false)
    (es_NoPipe_NoPipe : PySem.W.subIn K (.ref A_NoPipe) (.ref A_NoPipe) = some true)
    (es_NoPipe_SamePlace : PySem.W.subIn K (.ref A_NoPipe) (.ref A_SamePlace) = some false)
    (es_NoPipe_NoNet : PySem.W.subIn K (.ref A_NoPipe) (.ref A_NoNet) = some false)
    (eg_SamePlace : PySem.W.findIn K (.ref A_SamePlace) "__getattribute__" = some (some (.builtin "BaseException.__getattribute__")))
    (ek_SamePlace : PySem.W.findIn K (.ref A_SamePlace) "__getattr__" = some none)
    (eh_SamePlace : PySem.W.hasDictIn K A_SamePlace = true)
    (ea_SamePlace : PySem.W.findIn K (.ref A_SamePlace) "__class__" = some (some (.builtin "object.__class__")))
    (em_SamePlace : PySem.W.mroIn K A_SamePlace (.type "object") = some true)
    (ev_SamePlace : PySem.W.subIn K (.ref A_SamePlace) (.type "ValueError") = some true)
    (es_SamePlace_TooMuch : PySem.W.subIn K (.ref A_SamePlace) (.ref A_TooMuch) = some false)
    (es_SamePlace_NoPlace : PySem.W.subIn K (.ref A_SamePlace) (.ref A_NoPlace) = some false)
    (es_SamePlace_NoPipe : PySem.W.subIn K (.ref A_SamePlace) (.ref A_NoPipe) = some false)
    (es_SamePlace_SamePlace : PySem.W.subIn K (.ref A_SamePlace) (.ref A_SamePlace) = some true)
    (es_SamePlace_NoNet : PySem.W.subIn K (.ref A_SamePlace) (.ref A_NoNet) = some false)
    (eg_NoNet : PySem.W.findIn K (.ref A_NoNet) "__getattribute__" = some (some (.builtin "BaseException.__getattribute__")))
    (ek_NoNet : PySem.W.findIn K (.ref A_NoNet) "__getattr__" = some none)
    (eh_NoNet : PySem.W.hasDictIn K A_NoNet = true)
    (ea_NoNet : PySem.W.findIn K (.ref A_NoNet) "__class__" = some (some (.builtin "object.__class__")))
    (em_NoNet : PySem.W.mroIn K A_NoNet (.type "object") = some true)
    (ev_NoNet : PySem.W.subIn K (.ref A_NoNet) (.type "ValueError") = some true)
    (es_NoNet_TooMuch : PySem.W.subIn K (.ref A_NoNet) (.ref A_TooMuch) = some false)
    (es_NoNet_NoPlace : PySem.W.subIn K (.ref A_NoNet) (.ref A_NoPlace) = some false)
    (es_NoNet_NoPipe : PySem.W.subIn K (.ref A_NoNet) (.ref A_NoPipe) = some false)
    (es_NoNet_SamePlace : PySem.W.subIn K (.ref A_NoNet) (.ref A_SamePlace) = some false)
    (es_NoNet_NoNet : PySem.W.subIn K (.ref A_NoNet) (.ref A_NoNet) = some true)
    (a0 : PySem.W.findIn K (.ref C) "__init__" = some (some (.ref f0)))
    (i0 : PySem.W.isFn K (.ref f0) = true)
    (l0 : K.lookup f0 = some ⟨oc0, od0, .func (PySem.W.fnOf "__init__" "Net.__init__" (defArgs s_init) (defBody s_init) (defScope s_init) .none kV0 dc0 pm0 an0 cd0 ct0), sl0⟩)
    (c0 : PySem.W.codeIn K cd0 "Net.__init__" = true)
    (k0 : PySem.W.keepIn K (.ref f0) = true)
    (a1 : PySem.W.findIn K (.ref C) "size" = some (some (.ref f1)))
    (i1 : PySem.W.isFn K (.ref f1) = true)
    (l1 : K.lookup f1 = some ⟨oc1, od1, .func (PySem.W.fnOf "size" "Net.size" (defArgs s_size) (defBody s_size) (defScope s_size) .none kV1 dc1 pm1 an1 cd1 ct1), sl1⟩)
    (c1 : PySem.W.codeIn K cd1 "Net.size" = true)
    (k1 : PySem.W.keepIn K (.ref f1) = true)
    (a2 : PySem.W.findIn K (.ref C) "see_place" = some (some (.ref f2)))
    (i2 : PySem.W.isFn K (.ref f2) = true)
    (l2 : K.lookup f2 = some ⟨oc2, od2, .func (PySem.W.fnOf "see_place" "Net.see_place" (defArgs s_see_place) (defBody s_see_place) (defScope s_see_place) .none kV2 dc2 pm2 an2 cd2 ct2), sl2⟩)
    (c2 : PySem.W.codeIn K cd2 "Net.see_place" = true)
    (k2 : PySem.W.keepIn K (.ref f2) = true)
    (a3 : PySem.W.findIn K (.ref C) "see_pipe" = some (some (.ref f3)))
    (i3 : PySem.W.isFn K (.ref f3) = true)
    (l3 : K.lookup f3 = some ⟨oc3, od3, .func (PySem.W.fnOf "see_pipe" "Net.see_pipe" (defArgs s_see_pipe) (defBody s_see_pipe) (defScope s_see_pipe) .none kV3 dc3 pm3 an3 cd3 ct3), sl3⟩)
    (c3 : PySem.W.codeIn K cd3 "Net.see_pipe" = true)
    (k3 : PySem.W.keepIn K (.ref f3) = true)
    (a4 : PySem.W.findIn K (.ref C) "lay" = some (some (.ref f4)))
    (i4 : PySem.W.isFn K (.ref f4) = true)
    (l4 : K.lookup f4 = some ⟨oc4, od4, .func (PySem.W.fnOf "lay" "Net.lay" (defArgs s_lay) (defBody s_lay) (defScope s_lay) .none kV4 dc4 pm4 an4 cd4 ct4), sl4⟩)
    (c4 : PySem.W.codeIn K cd4 "Net.lay" = true)
    (k4 : PySem.W.keepIn K (.ref f4) = true)
    (a5 : PySem.W.findIn K (.ref C) "turn" = some (some (.ref f5)))
    (i5 : PySem.W.isFn K (.ref f5) = true)
    (l5 : K.lookup f5 = some ⟨oc5, od5, .func (PySem.W.fnOf "turn" "Net.turn" (defArgs s_turn) (defBody s_turn) (defScope s_turn) .none kV5 dc5 pm5 an5 cd5 ct5), sl5⟩)
    (c5 : PySem.W.codeIn K cd5 "Net.turn" = true)
    (k5 : PySem.W.keepIn K (.ref f5) = true)
    (a6 : PySem.W.findIn K (.ref C) "shut" = some (some (.ref f6)))
    (i6 : PySem.W.isFn K (.ref f6) = true)
    (l6 : K.lookup f6 = some ⟨oc6, od6, .func (PySem.W.fnOf "shut" "Net.shut" (defArgs s_shut) (defBody s_shut) (defScope s_shut) .none kV6 dc6 pm6 an6 cd6 ct6), sl6⟩)
    (c6 : PySem.W.codeIn K cd6 "Net.shut" = true)
    (k6 : PySem.W.keepIn K (.ref f6) = true)
    (a7 : PySem.W.findIn K (.ref C) "pipes" = some (some (.ref f7)))
    (i7 : PySem.W.isFn K (.ref f7) = true)
    (l7 : K.lookup f7 = some ⟨oc7, od7, .func (PySem.W.fnOf "pipes" "Net.pipes" (defArgs s_pipes) (defBody s_pipes) (defScope s_pipes) .none kV7 dc7 pm7 an7 cd7 ct7), sl7⟩)
    (c7 : PySem.W.codeIn K cd7 "Net.pipes" = true)
    (k7 : PySem.W.keepIn K (.ref f7) = true)
    (a8 : PySem.W.nsIn K mainGlobals "number_of" = some (some (.ref f8)))
    (l8 : K.lookup f8 = some ⟨oc8, od8, .func (PySem.W.fnOf "number_of" "number_of" (defArgs s_number_of_k14) (defBody s_number_of_k14) (defScope s_number_of_k14) .none kV8 dc8 pm8 an8 cd8 ct8), sl8⟩)
    (c8 : PySem.W.codeIn K cd8 "number_of" = true)
    (k8 : PySem.W.keepIn K (.ref f8) = true)
    (a9 : PySem.W.nsIn K mainGlobals "lay_line" = some (some (.ref f9)))
    (l9 : K.lookup f9 = some ⟨oc9, od9, .func (PySem.W.fnOf "lay_line" "lay_line" (defArgs s_lay_line_k14) (defBody s_lay_line_k14) (defScope s_lay_line_k14) .none kV9 dc9 pm9 an9 cd9 ct9), sl9⟩)
    (c9 : PySem.W.codeIn K cd9 "lay_line" = true)
    (k9 : PySem.W.keepIn K (.ref f9) = true)
    (a10 : PySem.W.nsIn K mainGlobals "read" = some (some (.ref f10)))
    (l10 : K.lookup f10 = some ⟨oc10, od10, .func (PySem.W.fnOf "read" "read" (defArgs s_read_k14) (defBody s_read_k14) (defScope s_read_k14) .none kV10 dc10 pm10 an10 cd10 ct10), sl10⟩)
    (c10 : PySem.W.codeIn K cd10 "read" = true)
    (k10 : PySem.W.keepIn K (.ref f10) = true)
    (a11 : PySem.W.nsIn K mainGlobals "_law_cell_at" = some (some (.ref f11)))
    (l11 : K.lookup f11 = some ⟨oc11, od11, .func (PySem.W.fnOf "_law_cell_at" "_law_cell_at" (defArgs s_law_cell_at) (defBody s_law_cell_at) (defScope s_law_cell_at) .none kV11 dc11 pm11 an11 cd11 ct11), sl11⟩)
    (c11 : PySem.W.codeIn K cd11 "_law_cell_at" = true)
    (k11 : PySem.W.keepIn K (.ref f11) = true)
    (a12 : PySem.W.nsIn K mainGlobals "_law_whole" = some (some (.ref f12)))
    (l12 : K.lookup f12 = some ⟨oc12, od12, .func (PySem.W.fnOf "_law_whole" "_law_whole" (defArgs s_law_whole) (defBody s_law_whole) (defScope s_law_whole) .none kV12 dc12 pm12 an12 cd12 ct12), sl12⟩)
    (c12 : PySem.W.codeIn K cd12 "_law_whole" = true)
    (k12 : PySem.W.keepIn K (.ref f12) = true)
    (a13 : PySem.W.nsIn K mainGlobals "_law_pipe_by" = some (some (.ref f13)))
    (l13 : K.lookup f13 = some ⟨oc13, od13, .func (PySem.W.fnOf "_law_pipe_by" "_law_pipe_by" (defArgs s_law_pipe_by) (defBody s_law_pipe_by) (defScope s_law_pipe_by) .none kV13 dc13 pm13 an13 cd13 ct13), sl13⟩)
    (c13 : PySem.W.codeIn K cd13 "_law_pipe_by" = true)
    (k13 : PySem.W.keepIn K (.ref f13) = true)
    (a14 : PySem.W.nsIn K mainGlobals "_law_pipes_by" = some (some (.ref f14)))
    (l14 : K.lookup f14 = some ⟨oc14, od14, .func (PySem.W.fnOf "_law_pipes_by" "_law_pipes_by" (defArgs s_law_pipes_by) (defBody s_law_pipes_by) (defScope s_law_pipes_by) .none kV14 dc14 pm14 an14 cd14 ct14), sl14⟩)
    (c14 : PySem.W.codeIn K cd14 "_law_pipes_by" = true)
    (k14 : PySem.W.keepIn K (.ref f14) = true)
    (a15 : PySem.W.nsIn K mainGlobals "_law_same_pipes" = some (some (.ref f15)))
    (l15 : K.lookup f15 = some ⟨oc15, od15, .func (PySem.W.fnOf "_law_same_pipes" "_law_same_pipes" (defArgs s_law_same_pipes) (defBody s_law_same_pipes) (defScope s_law_same_pipes) .none kV15 dc15 pm15 an15 cd15 ct15), sl15⟩)
    (c15 : PySem.W.codeIn K cd15 "_law_same_pipes" = true)
    (k15 : PySem.W.keepIn K (.ref f15) = true)
    (a16 : PySem.W.nsIn K mainGlobals "_law_line" = some (some (.ref f16)))
    (l16 : K.lookup f16 = some ⟨oc16, od16, .func (PySem.W.fnOf "_law_line" "_law_line" (defArgs s_law_line) (defBody s_law_line) (defScope s_law_line) .none kV16 dc16 pm16 an16 cd16 ct16), sl16⟩)
    (c16 : PySem.W.codeIn K cd16 "_law_line" = true)
    (k16 : PySem.W.keepIn K (.ref f16) = true)
    (a17 : PySem.W.nsIn K mainGlobals "_law_bad_line" = some (some (.ref f17)))
    (l17 : K.lookup f17 = some ⟨oc17, od17, .func (PySem.W.fnOf "_law_bad_line" "_law_bad_line" (defArgs s_law_bad_line) (defBody s_law_bad_line) (defScope s_law_bad_line) .none kV17 dc17 pm17 an17 cd17 ct17), sl17⟩)
    (c17 : PySem.W.codeIn K cd17 "_law_bad_line" = true)
    (k17 : PySem.W.keepIn K (.ref f17) = true)
    (a18 : PySem.W.nsIn K mainGlobals "_law_bad_first" = some (some (.ref f18)))
    (l18 : K.lookup f18 = some ⟨oc18, od18, .func (PySem.W.fnOf "_law_bad_first" "_law_bad_first" (defArgs s_law_bad_first) (defBody s_law_bad_first) (defScope s_law_bad_first) .none kV18 dc18 pm18 an18 cd18 ct18), sl18⟩)
    (c18 : PySem.W.codeIn K cd18 "_law_bad_first" = true)
    (k18 : PySem.W.keepIn K (.ref f18) = true)
    (a19 : PySem.W.nsIn K mainGlobals "_law_spoiled" = some (some (.ref f19)))
    (l19 : K.lookup f19 = some ⟨oc19, od19, .func (PySem.W.fnOf "_law_spoiled" "_law_spoiled" (defArgs s_law_spoiled_k14) (defBody s_law_spoiled_k14) (defScope s_law_spoiled_k14) .none kV19 dc19 pm19 an19 cd19 ct19), sl19⟩)
    (c19 : PySem.W.codeIn K cd19 "_law_spoiled" = true)
    (k19 : PySem.W.keepIn K (.ref f19) = true)
    (a20 : PySem.W.nsIn K mainGlobals "_law_number" = some (some (.ref f20)))
    (l20 : K.lookup f20 = some ⟨oc20, od20, .func (PySem.W.fnOf "_law_number" "_law_number" (defArgs s_law_number) (defBody s_law_number) (defScope s_law_number) .none kV20 dc20 pm20 an20 cd20 ct20), sl20⟩)
    (c20 : PySem.W.codeIn K cd20 "_law_number" = true)
    (k20 : PySem.W.keepIn K (.ref f20) = true)
    (a21 : PySem.W.nsIn K mainGlobals "_law_pipe_of" = some (some (.ref f21)))
    (l21 : K.lookup f21 = some ⟨oc21, od21, .func (PySem.W.fnOf "_law_pipe_of" "_law_pipe_of" (defArgs s_law_pipe_of) (defBody s_law_pipe_of) (defScope s_law_pipe_of) .none kV21 dc21 pm21 an21 cd21 ct21), sl21⟩)
    (c21 : PySem.W.codeIn K cd21 "_law_pipe_of" = true)
    (k21 : PySem.W.keepIn K (.ref f21) = true)
    (a22 : PySem.W.nsIn K mainGlobals "_law_due" = some (some (.ref f22)))
    (l22 : K.lookup f22 = some ⟨oc22, od22, .func (PySem.W.fnOf "_law_due" "_law_due" (defArgs s_law_due_k14) (defBody s_law_due_k14) (defScope s_law_due_k14) .none kV22 dc22 pm22 an22 cd22 ct22), sl22⟩)
    (c22 : PySem.W.codeIn K cd22 "_law_due" = true)
    (k22 : PySem.W.keepIn K (.ref f22) = true)
    (a23 : PySem.W.nsIn K mainGlobals "law" = some (some (.ref f23)))
    (l23 : K.lookup f23 = some ⟨oc23, od23, .func (PySem.W.fnOf "law" "law" (defArgs s_law_k14) (defBody s_law_k14) (defScope s_law_k14) .none kV23 dc23 pm23 an23 cd23 ct23), sl23⟩)
    (c23 : PySem.W.codeIn K cd23 "law" = true)
    (k23 : PySem.W.keepIn K (.ref f23) = true)
    : ∃ fd : FuncData, (∀ (s : Shared) (v : Value), BindsTo s fd ⟨[v], []⟩ [("script", v)]) ∧ ∀ base : Heap, K.In base → base.Ns mainGlobals mg → FnOk P w K mg base CX0 6 fa fd ["script"] (spEnd K) := by
  have e := hfa.symm.trans (PySem.W.mg_of X G a23)
  cases e
  obtain ⟨g, gK, gC, gx⟩ : ∃ g : Glo, g.K = K ∧ g.C = C ∧ g.cls = (fun x => match x with | .much => A_TooMuch | .place => A_NoPlace | .pipe => A_NoPipe | .same => A_SamePlace | .net => A_NoNet) := ⟨⟨K, C, _⟩, rfl, rfl, rfl⟩
  subst gK gC
  have E_TooMuch : g.cls .much = A_TooMuch := by rw [gx]
  have E_NoPlace : g.cls .place = A_NoPlace := by rw [gx]
  have E_NoPipe : g.cls .pipe = A_NoPipe := by rw [gx]
  have E_SamePlace : g.cls .same = A_SamePlace := by rw [gx]
  have E_NoNet : g.cls .net = A_NoNet := by rw [gx]
  have T : Txt g mg := ⟨⟨⟨h_pg, h_hd, h_po, h_sa⟩, h_nM, h_nL⟩, PySem.W.mg_none_of X G z_len, PySem.W.mg_none_of X G z_range, PySem.W.mg_none_of X G z_list, PySem.W.mg_none_of X G z_min, PySem.W.mg_none_of X G z_max, PySem.W.mg_none_of X G z_int, PySem.W.mg_none_of X G z_str, PySem.W.mg_none_of X G z_isinstance, PySem.W.mg_none_of X G z_bool, PySem.W.mg_none_of X G z_tuple, ⟨_, PySem.W.mg_of X G k_PLACES⟩, ⟨_, PySem.W.mg_of X G k_PIPES⟩, ⟨_, PySem.W.mg_of X G k_MOST⟩, ⟨_, PySem.W.mg_of X G k_FIGURES⟩, ⟨by rw [E_TooMuch]; exact xc_TooMuch, by rw [E_TooMuch]; exact PySem.W.mg_of X G xg_TooMuch, by rw [E_TooMuch]; exact xk_TooMuch, by rw [E_TooMuch]; exact xb_TooMuch, by rw [E_TooMuch]; exact xt_TooMuch⟩, ⟨by rw [E_NoPlace]; exact xc_NoPlace, by rw [E_NoPlace]; exact PySem.W.mg_of X G xg_NoPlace, by rw [E_NoPlace]; exact xk_NoPlace, by rw [E_NoPlace]; exact xb_NoPlace, by rw [E_NoPlace]; exact xt_NoPlace⟩, ⟨by rw [E_NoPipe]; exact xc_NoPipe, by rw [E_NoPipe]; exact PySem.W.mg_of X G xg_NoPipe, by rw [E_NoPipe]; exact xk_NoPipe, by rw [E_NoPipe]; exact xb_NoPipe, by rw [E_NoPipe]; exact xt_NoPipe⟩, ⟨by rw [E_SamePlace]; exact xc_SamePlace, by rw [E_SamePlace]; exact PySem.W.mg_of X G xg_SamePlace, by rw [E_SamePlace]; exact xk_SamePlace, by rw [E_SamePlace]; exact xb_SamePlace, by rw [E_SamePlace]; exact xt_SamePlace⟩, ⟨by rw [E_NoNet]; exact xc_NoNet, by rw [E_NoNet]; exact PySem.W.mg_of X G xg_NoNet, by rw [E_NoNet]; exact xk_NoNet, by rw [E_NoNet]; exact xb_NoNet, by rw [E_NoNet]; exact xt_NoNet⟩, ⟨_, PySem.W.mg_of X G xg_NetError, fun xx b e => match xx, e with | .much, e => by have e : some true = some b := e; cases e; rw [E_TooMuch]; exact PySem.W.exm_ref xb_NetError xh_NetError xt_NetError xs_TooMuch_NetError | .place, e => by have e : some true = some b := e; cases e; rw [E_NoPlace]; exact PySem.W.exm_ref xb_NetError xh_NetError xt_NetError xs_NoPlace_NetError | .pipe, e => by have e : some true = some b := e; cases e; rw [E_NoPipe]; exact PySem.W.exm_ref xb_NetError xh_NetError xt_NetError xs_NoPipe_NetError | .same, e => by have e : some true = some b := e; cases e; rw [E_SamePlace]; exact PySem.W.exm_ref xb_NetError xh_NetError xt_NetError xs_SamePlace_NetError | .net, e => by have e : some true = some b := e; cases e; rw [E_NoNet]; exact PySem.W.exm_ref xb_NetError xh_NetError xt_NetError xs_NoNet_NetError⟩, ⟨_, PySem.W.mg_of X G xg_NetError⟩, ⟨fun x => match x with | .much => by rw [E_TooMuch]; exact ⟨eg_TooMuch, ek_TooMuch, xb_TooMuch, eh_TooMuch, ea_TooMuch, eN, eT, em_TooMuch⟩ | .place => by rw [E_NoPlace]; exact ⟨eg_NoPlace, ek_NoPlace, xb_NoPlace, eh_NoPlace, ea_NoPlace, eN, eT, em_NoPlace⟩ | .pipe => by rw [E_NoPipe]; exact ⟨eg_NoPipe, ek_NoPipe, xb_NoPipe, eh_NoPipe, ea_NoPipe, eN, eT, em_NoPipe⟩ | .same => by rw [E_SamePlace]; exact ⟨eg_SamePlace, ek_SamePlace, xb_SamePlace, eh_SamePlace, ea_SamePlace, eN, eT, em_SamePlace⟩ | .net => by rw [E_NoNet]; exact ⟨eg_NoNet, ek_NoNet, xb_NoNet, eh_NoNet, ea_NoNet, eN, eT, em_NoNet⟩, fun x y => match x, y with | .much, .much => by rw [E_TooMuch]; exact kit_ref eh_TooMuch xt_TooMuch es_TooMuch_TooMuch es_TooMuch_TooMuch | .much, .place => by rw [E_TooMuch, E_NoPlace]; exact kit_ref eh_NoPlace xt_NoPlace es_TooMuch_NoPlace es_TooMuch_TooMuch | .much, .pipe => by rw [E_TooMuch, E_NoPipe]; exact kit_ref eh_NoPipe xt_NoPipe es_TooMuch_NoPipe es_TooMuch_TooMuch | .much, .same => by rw [E_TooMuch, E_SamePlace]; exact kit_ref eh_SamePlace xt_SamePlace es_TooMuch_SamePlace es_TooMuch_TooMuch | .much, .net => by rw [E_TooMuch, E_NoNet]; exact kit_ref eh_NoNet xt_NoNet es_TooMuch_NoNet es_TooMuch_TooMuch | .place, .much => by rw [E_NoPlace, E_TooMuch]; exact kit_ref eh_TooMuch xt_TooMuch es_NoPlace_TooMuch es_NoPlace_NoPlace | .place, .place => by rw [E_NoPlace]; exact kit_ref eh_NoPlace xt_NoPlace es_NoPlace_NoPlace es_NoPlace_NoPlace | .place, .pipe => by rw [E_NoPlace, E_NoPipe]; exact kit_ref eh_NoPipe xt_NoPipe es_NoPlace_NoPipe es_NoPlace_NoPlace | .place, .same => by rw [E_NoPlace, E_SamePlace]; exact kit_ref eh_SamePlace xt_SamePlace es_NoPlace_SamePlace es_NoPlace_NoPlace | .place, .net => by rw [E_NoPlace, E_NoNet]; exact kit_ref eh_NoNet xt_NoNet es_NoPlace_NoNet es_NoPlace_NoPlace | .pipe, .much => by rw [E_NoPipe, E_TooMuch]; exact kit_ref eh_TooMuch xt_TooMuch es_NoPipe_TooMuch es_NoPipe_NoPipe | .pipe, .place => by rw [E_NoPipe, E_NoPlace]; exact kit_ref eh_NoPlace xt_NoPlace es_NoPipe_NoPlace es_NoPipe_NoPipe | .pipe, .pipe => by rw [E_NoPipe]; exact kit_ref eh_NoPipe xt_NoPipe es_NoPipe_NoPipe es_NoPipe_NoPipe | .pipe, .same => by rw [E_NoPipe, E_SamePlace]; exact kit_ref eh_SamePlace xt_SamePlace es_NoPipe_SamePlace es_NoPipe_NoPipe | .pipe, .net => by rw [E_NoPipe, E_NoNet]; exact kit_ref eh_NoNet xt_NoNet es_NoPipe_NoNet es_NoPipe_NoPipe | .same, .much => by rw [E_SamePlace, E_TooMuch]; exact kit_ref eh_TooMuch xt_TooMuch es_SamePlace_TooMuch es_SamePlace_SamePlace | .same, .place => by rw [E_SamePlace, E_NoPlace]; exact kit_ref eh_NoPlace xt_NoPlace es_SamePlace_NoPlace es_SamePlace_SamePlace | .same, .pipe => by rw [E_SamePlace, E_NoPipe]; exact kit_ref eh_NoPipe xt_NoPipe es_SamePlace_NoPipe es_SamePlace_SamePlace | .same, .same => by rw [E_SamePlace]; exact kit_ref eh_SamePlace xt_SamePlace es_SamePlace_SamePlace es_SamePlace_SamePlace | .same, .net => by rw [E_SamePlace, E_NoNet]; exact kit_ref eh_NoNet xt_NoNet es_SamePlace_NoNet es_SamePlace_SamePlace | .net, .much => by rw [E_NoNet, E_TooMuch]; exact kit_ref eh_TooMuch xt_TooMuch es_NoNet_TooMuch es_NoNet_NoNet | .net, .place => by rw [E_NoNet, E_NoPlace]; exact kit_ref eh_NoPlace xt_NoPlace es_NoNet_NoPlace es_NoNet_NoNet | .net, .pipe => by rw [E_NoNet, E_NoPipe]; exact kit_ref eh_NoPipe xt_NoPipe es_NoNet_NoPipe es_NoNet_NoNet | .net, .same => by rw [E_NoNet, E_SamePlace]; exact kit_ref eh_SamePlace xt_SamePlace es_NoNet_SamePlace es_NoNet_NoNet | .net, .net => by rw [E_NoNet]; exact kit_ref eh_NoNet xt_NoNet es_NoNet_NoNet es_NoNet_NoNet, fun x => match x with | .much => by rw [E_TooMuch]; exact kit_ve ev_TooMuch | .place => by rw [E_NoPlace]; exact kit_ve ev_NoPlace | .pipe => by rw [E_NoPipe]; exact kit_ve ev_NoPipe | .same => by rw [E_SamePlace]; exact kit_ve ev_SamePlace | .net => by rw [E_NoNet]; exact kit_ve ev_NoNet⟩, PySem.W.mg_none_of X G zV⟩
  have F0 := fun_mk (st := s_init) l0 c0 k0
  have b0 := F0.binds (ps := ["self", "size"]) fun _ _ _ _ _ _ us hl => match us, hl with | [_, _], _ => rfl
  have F1 := fun_mk (st := s_size) l1 c1 k1
  have b1 := F1.binds (ps := ["self"]) fun _ _ _ _ _ _ us hl => match us, hl with | [_], _ => rfl
  have F2 := fun_mk (st := s_see_place) l2 c2 k2
  have b2 := F2.binds (ps := ["self", "place"]) fun _ _ _ _ _ _ us hl => match us, hl with | [_, _], _ => rfl
  have F3 := fun_mk (st := s_see_pipe) l3 c3 k3
  have b3 := F3.binds (ps := ["self", "pipe"]) fun _ _ _ _ _ _ us hl => match us, hl with | [_, _], _ => rfl
  have F4 := fun_mk (st := s_lay) l4 c4 k4
  have b4 := F4.binds (ps := ["self", "start", "goal"]) fun _ _ _ _ _ _ us hl => match us, hl with | [_, _, _], _ => rfl
  have F5 := fun_mk (st := s_turn) l5 c5 k5
  have b5 := F5.binds (ps := ["self", "pipe", "opened"]) fun _ _ _ _ _ _ us hl => match us, hl with | [_, _, _], _ => rfl
  have F6 := fun_mk (st := s_shut) l6 c6 k6
  have b6 := F6.binds (ps := ["self", "pipe"]) fun _ _ _ _ _ _ us hl => match us, hl with | [_, _], _ => rfl
  have F7 := fun_mk (st := s_pipes) l7 c7 k7
  have b7 := F7.binds (ps := ["self"]) fun _ _ _ _ _ _ us hl => match us, hl with | [_], _ => rfl
  have F8 := fun_mk (st := s_number_of_k14) l8 c8 k8
  have b8 := F8.binds (ps := ["word"]) fun _ _ _ _ _ _ us hl => match us, hl with | [_], _ => rfl
  have F9 := fun_mk (st := s_lay_line_k14) l9 c9 k9
  have b9 := F9.binds (ps := ["net", "line"]) fun _ _ _ _ _ _ us hl => match us, hl with | [_, _], _ => rfl
  have F10 := fun_mk (st := s_read_k14) l10 c10 k10
  have b10 := F10.binds (ps := ["text"]) fun _ _ _ _ _ _ us hl => match us, hl with | [_], _ => rfl
  have F11 := fun_mk (st := s_law_cell_at) l11 c11 k11
  have b11 := F11.binds (ps := ["script", "k"]) fun _ _ _ _ _ _ us hl => match us, hl with | [_, _], _ => rfl
  have F12 := fun_mk (st := s_law_whole) l12 c12 k12
  have b12 := F12.binds (ps := ["found"]) fun _ _ _ _ _ _ us hl => match us, hl with | [_], _ => rfl
  have F13 := fun_mk (st := s_law_pipe_by) l13 c13 k13
  have b13 := F13.binds (ps := ["cell", "size"]) fun _ _ _ _ _ _ us hl => match us, hl with | [_, _], _ => rfl
  have F14 := fun_mk (st := s_law_pipes_by) l14 c14 k14
  have b14 := F14.binds (ps := ["script", "first", "many", "size"]) fun _ _ _ _ _ _ us hl => match us, hl with | [_, _, _, _], _ => rfl
  have F15 := fun_mk (st := s_law_same_pipes) l15 c15 k15
  have b15 := F15.binds (ps := ["found", "due"]) fun _ _ _ _ _ _ us hl => match us, hl with | [_, _], _ => rfl
  have F16 := fun_mk (st := s_law_line) l16 c16 k16
  have b16 := F16.binds (ps := ["pipe"]) fun _ _ _ _ _ _ us hl => match us, hl with | [_], _ => rfl
  have F17 := fun_mk (st := s_law_bad_line) l17 c17 k17
  have b17 := F17.binds (ps := ["cell"]) fun _ _ _ _ _ _ us hl => match us, hl with | [_], _ => rfl
  have F18 := fun_mk (st := s_law_bad_first) l18 c18 k18
  have b18 := F18.binds (ps := ["cell"]) fun _ _ _ _ _ _ us hl => match us, hl with | [_], _ => rfl
  have F19 := fun_mk (st := s_law_spoiled_k14) l19 c19 k19
  have b19 := F19.binds (ps := ["lines", "cell"]) fun _ _ _ _ _ _ us hl => match us, hl with | [_, _], _ => rfl
  have F20 := fun_mk (st := s_law_number) l20 c20 k20
  have b20 := F20.binds (ps := ["word"]) fun _ _ _ _ _ _ us hl => match us, hl with | [_], _ => rfl
  have F21 := fun_mk (st := s_law_pipe_of) l21 c21 k21
  have b21 := F21.binds (ps := ["line", "size"]) fun _ _ _ _ _ _ us hl => match us, hl with | [_, _], _ => rfl
  have F22 := fun_mk (st := s_law_due_k14) l22 c22 k22
  have b22 := F22.binds (ps := ["lines"]) fun _ _ _ _ _ _ us hl => match us, hl with | [_], _ => rfl
  have F23 := fun_mk (st := s_law_k14) l23 c23 k23
  refine ⟨PySem.W.fnOf "law" "law" (defArgs s_law_k14) (defBody s_law_k14) (defScope s_law_k14) .none kV23 dc23 pm23 an23 cd23 ct23, fun s v => .of_eq rfl, fun base _ _ => ?_⟩
  have C_init : Cak P w g mg base (L2N.CX P w) "Net" 1 (spInit g) := ⟨_, _, _, PySem.W.mg_of X G hC, ⟨h_mk, a0, i0, h_kc⟩, b0, w_init F0 T⟩
  have C_size : Cam P w g mg base CX0 "size" 1 (spP g 1 F_size) := ⟨_, _, _, ⟨a1, i1, k1⟩, b1, w_size F1 T ⟩
  have C_see_place : Cam P w g mg base (L2N.CX P w) "see_place" 1 (spP g 2 F_see_place) := ⟨_, _, _, ⟨a2, i2, k2⟩, b2, w_see_place F2 T ⟩
  have C_see_pipe : Cam P w g mg base (L2N.CX P w) "see_pipe" 1 (spP g 2 F_see_pipe) := ⟨_, _, _, ⟨a3, i3, k3⟩, b3, w_see_pipe F3 T ⟩
  have C_lay : Cam P w g mg base (L2N.CX P w) "lay" 2 (spM g 3 G_lay) := ⟨_, _, _, ⟨a4, i4, k4⟩, b4, w_lay F4 T C_see_place⟩
  have C_turn : Cam P w g mg base (L2N.CX P w) "turn" 2 (spM g 3 G_turn) := ⟨_, _, _, ⟨a5, i5, k5⟩, b5, w_turn F5 T C_see_pipe⟩
  have C_shut : Cam P w g mg base (L2N.CX P w) "shut" 3 (spM g 2 G_shut) := ⟨_, _, _, ⟨a6, i6, k6⟩, b6, w_shut F6 T C_turn⟩
  have C_pipes : Cam P w g mg base CX0 "pipes" 1 (spP g 1 F_pipes) := ⟨_, _, _, ⟨a7, i7, k7⟩, b7, w_pipes F7 T ⟩
  have C_number_of_k14 : Cal P w g mg base (L2N.CX P w) "number_of" 1 (spP g 1 F_number_of_k14) := ⟨_, _, _, PySem.W.mg_of X G a8, k8, b8, w_number_of_k14 F8 T ⟩
  have C_lay_line_k14 : Cal P w g mg base (L2N.CX P w) "lay_line" 4 (spM g 2 G_lay_line_k14) := ⟨_, _, _, PySem.W.mg_of X G a9, k9, b9, w_lay_line_k14 F9 T C_number_of_k14 C_lay C_shut⟩
  have C_read_k14 : Cal P w g mg base (L2.CX P w) "read" 5 (spP g 1 F_read_k14) := ⟨_, _, _, PySem.W.mg_of X G a10, k10, b10, w_read_k14 F10 T C_init C_number_of_k14 C_lay_line_k14⟩
  have C_law_cell_at : Cal P w g mg base CX0 "_law_cell_at" 1 (spP g 2 F_law_cell_at) := ⟨_, _, _, PySem.W.mg_of X G a11, k11, b11, w_law_cell_at F11 T ⟩
  have C_law_whole : Cal P w g mg base CX0 "_law_whole" 1 (spP g 1 F_law_whole) := ⟨_, _, _, PySem.W.mg_of X G a12, k12, b12, w_law_whole F12 T ⟩
  have C_law_pipe_by : Cal P w g mg base CX0 "_law_pipe_by" 1 (spP g 2 F_law_pipe_by) := ⟨_, _, _, PySem.W.mg_of X G a13, k13, b13, w_law_pipe_by F13 T ⟩
  have C_law_pipes_by : Cal P w g mg base CX0 "_law_pipes_by" 2 (spP g 4 F_law_pipes_by) := ⟨_, _, _, PySem.W.mg_of X G a14, k14, b14, w_law_pipes_by F14 T C_law_pipe_by C_law_cell_at⟩
  have C_law_same_pipes : Cal P w g mg base CX0 "_law_same_pipes" 2 (spP g 2 F_law_same_pipes) := ⟨_, _, _, PySem.W.mg_of X G a15, k15, b15, w_law_same_pipes F15 T C_law_whole⟩
  have C_law_line : Cal P w g mg base CX0 "_law_line" 1 (spP g 1 F_law_line) := ⟨_, _, _, PySem.W.mg_of X G a16, k16, b16, w_law_line F16 T ⟩
  have C_law_bad_line : Cal P w g mg base CX0 "_law_bad_line" 1 (spP g 1 F_law_bad_line) := ⟨_, _, _, PySem.W.mg_of X G a17, k17, b17, w_law_bad_line F17 T ⟩
  have C_law_bad_first : Cal P w g mg base CX0 "_law_bad_first" 1 (spP g 1 F_law_bad_first) := ⟨_, _, _, PySem.W.mg_of X G a18, k18, b18, w_law_bad_first F18 T ⟩
  have C_law_spoiled_k14 : Cal P w g mg base CX0 "_law_spoiled" 2 (spP g 2 F_law_spoiled_k14) := ⟨_, _, _, PySem.W.mg_of X G a19, k19, b19, w_law_spoiled_k14 F19 T C_law_bad_line C_law_bad_first⟩
  have C_law_number : Cal P w g mg base CX0 "_law_number" 1 (spP g 1 F_law_number) := ⟨_, _, _, PySem.W.mg_of X G a20, k20, b20, w_law_number F20 T ⟩
  have C_law_pipe_of : Cal P w g mg base CX0 "_law_pipe_of" 2 (spP g 2 F_law_pipe_of) := ⟨_, _, _, PySem.W.mg_of X G a21, k21, b21, w_law_pipe_of F21 T C_law_number⟩
  have C_law_due_k14 : Cal P w g mg base CX0 "_law_due" 3 (spP g 1 F_law_due_k14) := ⟨_, _, _, PySem.W.mg_of X G a22, k22, b22, w_law_due_k14 F22 T C_law_number C_law_pipe_of⟩
  exact (w_law_k14 F23 T C_law_cell_at C_law_pipes_by C_law_line C_law_spoiled_k14 C_law_due_k14 C_read_k14 C_size C_law_whole C_law_same_pipes C_pipes).imp fun vs H Q E q => sp_end (fun ns hl => F_law_k14_t ns hl) q
theorem walk {l : PySem.W.OpenLaw} {q : Program} {loose : List Str} {XP : (Str → Option Value) → Heap → Prop} {YP : World → Heap → Prop} {d : DefRec} {K : Params → PySem.W.Frag} (hn : l.most = some 63) (hdf : d.params.defaults = [])
    (hY : ∀ (w : World) (h : Heap), YP w h → (K w.params).In h)
    (F : ∀ (w : World) (mg : Str → Option Value) (fa : Addr) (h : Heap), (K w.params).In h → h.Ns mainGlobals mg → mg d.name = some (.ref fa) →
      ∃ fd : FuncData, (∀ (s : Shared) (u : Value), BindsTo s fd ⟨[u], []⟩ [("script", u)]) ∧ ∀ base : Heap, (K w.params).In base → base.Ns mainGlobals mg → FnOk l.prog w (K w.params) mg base CX0 6 fa fd ["script"] (spEnd (K w.params))) :
    PySem.W.WalkO q loose XP YP l.row.toRowW d [] (fun f vs => PySem.call f vs) :=
  L2.walk_of (n := 63) (k := 6) (x := "script") (CX := fun _ => CX0) (sp := fun w => spEnd (K w.params)) hn (by decide) hdf ⟨rfl, by decide, by decide⟩ hY F (fun _ _ a ns hl _ hS => ⟨a, ns, rfl, hS, hl, fun _ => rfl⟩) fun _ _ _ _ _ z => z
end Z

open PySem PySem.W PyProof.Rows in
set_option maxRecDepth 100000 in
set_option maxHeartbeats 0 in
set_option pp.maxSteps 300 in
theorem PySem.Challenge.cw_springways_k14_nets_read_or_refused_holds : PySem.Challenge.rw_springways_k14_nets_read_or_refused.Holds := by
  w_on; o_law; k_head; (case hw => w_witness2)
  k_fill
  refine Z.walk (l := PySem.Challenge.rw_springways_k14_nets_read_or_refused) rfl rfl (fun w h Y => PySem.W.kIn_of Y) ?F
  case F =>
    intro w mg fa h KX G hmg
    refine' Z.all_mk KX G hmg ?hC ?h_pg ?h_hd ?h_po ?h_sa ?h_mk ?h_kc ?h_nM ?h_nL ?z_len ?z_range ?z_list ?z_min ?z_max ?z_int ?z_str ?z_isinstance ?z_bool ?z_tuple ?k_PLACES ?k_PIPES ?k_MOST ?k_FIGURES ?xg_TooMuch ?xc_TooMuch ?xk_TooMuch ?xb_TooMuch ?xt_TooMuch ?xg_NoPlace ?xc_NoPlace ?xk_NoPlace ?xb_NoPlace ?xt_NoPlace ?xg_NoPipe ?xc_NoPipe ?xk_NoPipe ?xb_NoPipe ?xt_NoPipe ?xg_SamePlace ?xc_SamePlace ?xk_SamePlace ?xb_SamePlace ?xt_SamePlace ?xg_NoNet ?xc_NoNet ?xk_NoNet ?xb_NoNet ?xt_NoNet ?xg_NetError ?xb_NetError ?xt_NetError ?xh_NetError ?xs_TooMuch_NetError ?xs_NoPlace_NetError ?xs_NoPipe_NetError ?xs_SamePlace_NetError ?xs_NoNet_NetError ?eN ?eT ?zV ?eg_TooMuch ?ek_TooMuch ?eh_TooMuch ?ea_TooMuch ?em_TooMuch ?ev_TooMuch ?es_TooMuch_TooMuch ?es_TooMuch_NoPlace ?es_TooMuch_NoPipe ?es_TooMuch_SamePlace ?es_TooMuch_NoNet ?eg_NoPlace ?ek_NoPlace ?eh_NoPlace ?ea_NoPlace ?em_NoPlace ?ev_NoPlace ?es_NoPlace_TooMuch ?es_NoPlace_NoPlace ?es_NoPlace_NoPipe ?es_NoPlace_SamePlace ?es_NoPlace_NoNet ?eg_NoPipe ?ek_NoPipe ?eh_NoPipe ?ea_NoPipe ?em_NoPipe ?ev_NoPipe ?es_NoPipe_TooMuch ?es_NoPipe_NoPlace ?es_NoPipe_NoPipe ?es_NoPipe_SamePlace ?es_NoPipe_NoNet ?eg_SamePlace ?ek_SamePlace ?eh_SamePlace ?ea_SamePlace ?em_SamePlace ?ev_SamePlace ?es_SamePlace_TooMuch ?es_SamePlace_NoPlace ?es_SamePlace_NoPipe ?es_SamePlace_SamePlace ?es_SamePlace_NoNet ?eg_NoNet ?ek_NoNet ?eh_NoNet ?ea_NoNet ?em_NoNet ?ev_NoNet ?es_NoNet_TooMuch ?es_NoNet_NoPlace ?es_NoNet_NoPipe ?es_NoNet_SamePlace ?es_NoNet_NoNet ?a0 ?i0 ?l0 ?c0 ?k0 ?a1 ?i1 ?l1 ?c1 ?k1 ?a2 ?i2 ?l2 ?c2 ?k2 ?a3 ?i3 ?l3 ?c3 ?k3 ?a4 ?i4 ?l4 ?c4 ?k4 ?a5 ?i5 ?l5 ?c5 ?k5 ?a6 ?i6 ?l6 ?c6 ?k6 ?a7 ?i7 ?l7 ?c7 ?k7 ?a8 ?l8 ?c8 ?k8 ?a9 ?l9 ?c9 ?k9 ?a10 ?l10 ?c10 ?k10 ?a11 ?l11 ?c11 ?k11 ?a12 ?l12 ?c12 ?k12 ?a13 ?l13 ?c13 ?k13 ?a14 ?l14 ?c14 ?k14 ?a15 ?l15 ?c15 ?k15 ?a16 ?l16 ?c16 ?k16 ?a17 ?l17 ?c17 ?k17 ?a18 ?l18 ?c18 ?k18 ?a19 ?l19 ?c19 ?k19 ?a20 ?l20 ?c20 ?k20 ?a21 ?l21 ?c21 ?k21 ?a22 ?l22 ?c22 ?k22 ?a23 ?l23 ?c23 ?k23
    (case hC => k_is)
    (case h_pg => k_is)
    (case h_hd => k_is)
    (case h_po => k_is)
    (case h_sa => k_is)
    (case h_mk => k_is)
    (case h_kc => k_is)
    (case h_nM => k_is)
    (case h_nL => k_is)
    (case z_len => k_is)
    (case z_range => k_is)
    (case z_list => k_is)
    (case z_min => k_is)
    (case z_max => k_is)
    (case z_int => k_is)
    (case z_str => k_is)
    (case z_isinstance => k_is)
    (case z_bool => k_is)
    (case z_tuple => k_is)
    (case k_PLACES => k_is)
    (case k_PIPES => k_is)
    (case k_MOST => k_is)
    (case k_FIGURES => k_is)
    (case xg_TooMuch => k_is)
    (case xc_TooMuch => k_exc)
    (case xk_TooMuch => k_is)
    (case xb_TooMuch => k_is)
    (case xt_TooMuch => k_is)
    (case xg_NoPlace => k_is)
    (case xc_NoPlace => k_exc)
    (case xk_NoPlace => k_is)
    (case xb_NoPlace => k_is)
    (case xt_NoPlace => k_is)
    (case xg_NoPipe => k_is)
    (case xc_NoPipe => k_exc)
    (case xk_NoPipe => k_is)
    (case xb_NoPipe => k_is)
    (case xt_NoPipe => k_is)
    (case xg_SamePlace => k_is)
    (case xc_SamePlace => k_exc)
    (case xk_SamePlace => k_is)
    (case xb_SamePlace => k_is)
    (case xt_SamePlace => k_is)
    (case xg_NoNet => k_is)
    (case xc_NoNet => k_exc)
    (case xk_NoNet => k_is)
    (case xb_NoNet => k_is)
    (case xt_NoNet => k_is)
    (case xg_NetError => k_is)
    (case xb_NetError => k_is)
    (case xt_NetError => k_is)
    (case xh_NetError => k_is)
    (case xs_TooMuch_NetError => k_is)
    (case xs_NoPlace_NetError => k_is)
    (case xs_NoPipe_NetError => k_is)
    (case xs_SamePlace_NetError => k_is)
    (case xs_NoNet_NetError => k_is)
    (case eN => k_is)
    (case eT => k_is)
    (case zV => k_is)
    (case eg_TooMuch => k_is)
    (case ek_TooMuch => k_is)
    (case eh_TooMuch => k_is)
    (case ea_TooMuch => k_is)
    (case em_TooMuch => k_is)
    (case ev_TooMuch => k_is)
    (case es_TooMuch_TooMuch => k_is)
    (case es_TooMuch_NoPlace => k_is)
    (case es_TooMuch_NoPipe => k_is)
    (case es_TooMuch_SamePlace => k_is)
    (case es_TooMuch_NoNet => k_is)
    (case eg_NoPlace => k_is)
    (case ek_NoPlace => k_is)
    (case eh_NoPlace => k_is)
    (case ea_NoPlace => k_is)
    (case em_NoPlace => k_is)
    (case ev_NoPlace => k_is)
    (case es_NoPlace_TooMuch => k_is)
    (case es_NoPlace_NoPlace => k_is)
    (case es_NoPlace_NoPipe => k_is)
    (case es_NoPlace_SamePlace => k_is)
    (case es_NoPlace_NoNet => k_is)
    (case eg_NoPipe => k_is)
    (case ek_NoPipe => k_is)
    (case eh_NoPipe => k_is)
    (case ea_NoPipe => k_is)
    (case em_NoPipe => k_is)
    (case ev_NoPipe => k_is)
    (case es_NoPipe_TooMuch => k_is)
    (case es_NoPipe_NoPlace => k_is)
    (case es_NoPipe_NoPipe => k_is)
    (case es_NoPipe_SamePlace => k_is)
    (case es_NoPipe_NoNet => k_is)
    (case eg_SamePlace => k_is)
    (case ek_SamePlace => k_is)
    (case eh_SamePlace => k_is)
    (case ea_SamePlace => k_is)
    (case em_SamePlace => k_is)
    (case ev_SamePlace => k_is)
    (case es_SamePlace_TooMuch => k_is)
    (case es_SamePlace_NoPlace => k_is)
    (case es_SamePlace_NoPipe => k_is)
    (case es_SamePlace_SamePlace => k_is)
    (case es_SamePlace_NoNet => k_is)
    (case eg_NoNet => k_is)
    (case ek_NoNet => k_is)
    (case eh_NoNet => k_is)
    (case ea_NoNet => k_is)
    (case em_NoNet => k_is)
    (case ev_NoNet => k_is)
    (case es_NoNet_TooMuch => k_is)
    (case es_NoNet_NoPlace => k_is)
    (case es_NoNet_NoPipe => k_is)
    (case es_NoNet_SamePlace => k_is)
    (case es_NoNet_NoNet => k_is)
    (case a0 => k_is)
    (case i0 => k_is)
    (case l0 => k_is)
    (case c0 => k_is)
    (case k0 => k_is)
    (case a1 => k_is)
    (case i1 => k_is)
    (case l1 => k_is)
    (case c1 => k_is)
    (case k1 => k_is)
    (case a2 => k_is)
    (case i2 => k_is)
    (case l2 => k_is)
    (case c2 => k_is)
    (case k2 => k_is)
    (case a3 => k_is)
    (case i3 => k_is)
    (case l3 => k_is)
    (case c3 => k_is)
    (case k3 => k_is)
    (case a4 => k_is)
    (case i4 => k_is)
    (case l4 => k_is)
    (case c4 => k_is)
    (case k4 => k_is)
    (case a5 => k_is)
    (case i5 => k_is)
    (case l5 => k_is)
    (case c5 => k_is)
    (case k5 => k_is)
    (case a6 => k_is)
    (case i6 => k_is)
    (case l6 => k_is)
    (case c6 => k_is)
    (case k6 => k_is)
    (case a7 => k_is)
    (case i7 => k_is)
    (case l7 => k_is)
    (case c7 => k_is)
    (case k7 => k_is)
    (case a8 => k_is)
    (case l8 => k_is)
    (case c8 => k_is)
    (case k8 => k_is)
    (case a9 => k_is)
    (case l9 => k_is)
    (case c9 => k_is)
    (case k9 => k_is)
    (case a10 => k_is)
    (case l10 => k_is)
    (case c10 => k_is)
    (case k10 => k_is)
    (case a11 => k_is)
    (case l11 => k_is)
    (case c11 => k_is)
    (case k11 => k_is)
    (case a12 => k_is)
    (case l12 => k_is)
    (case c12 => k_is)
    (case k12 => k_is)
    (case a13 => k_is)
    (case l13 => k_is)
    (case c13 => k_is)
    (case k13 => k_is)
    (case a14 => k_is)
    (case l14 => k_is)
    (case c14 => k_is)
    (case k14 => k_is)
    (case a15 => k_is)
    (case l15 => k_is)
    (case c15 => k_is)
    (case k15 => k_is)
    (case a16 => k_is)
    (case l16 => k_is)
    (case c16 => k_is)
    (case k16 => k_is)
    (case a17 => k_is)
    (case l17 => k_is)
    (case c17 => k_is)
    (case k17 => k_is)
    (case a18 => k_is)
    (case l18 => k_is)
    (case c18 => k_is)
    (case k18 => k_is)
    (case a19 => k_is)
    (case l19 => k_is)
    (case c19 => k_is)
    (case k19 => k_is)
    (case a20 => k_is)
    (case l20 => k_is)
    (case c20 => k_is)
    (case k20 => k_is)
    (case a21 => k_is)
    (case l21 => k_is)
    (case c21 => k_is)
    (case k21 => k_is)
    (case a22 => k_is)
    (case l22 => k_is)
    (case c22 => k_is)
    (case k22 => k_is)
    (case a23 => k_is)
    (case l23 => k_is)
    (case c23 => k_is)
    (case k23 => k_is)
#print axioms PySem.Challenge.cw_springways_k14_nets_read_or_refused_holds
