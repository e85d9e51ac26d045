import PyProof.Rows.All
import Wide.All
import OpenK.AllK
import Wide.FinOn
import HandS.ForMost
import HandS.ForExc
import HandS.IsInst
import HandS.SetKeys
import HandS.Deep
import HandS.SortInts
import HandS.Strs
import HandS.Zip
import HandS.Style
import HandS.ExcIs
import HandS.More
import PySem.Challenge.RW_springways_k08_trees_known
set_option Elab.async false
set_option linter.all false
set_option maxRecDepth 100000
/-! The value layer: Python data without the heap; slots; readings by values. -/
namespace Z
open PySem PySem.Spec PyProof.Rows L2

/-! ### data -/
inductive D where
  | non
  | bl (b : Bool)
  | int (i : Int)
  | str (s : Str)
  | lst (xs : List D)
  | tup (xs : List D)
  | dic (ks : List Int)
  | scr (ns : List Int)

/-- a dict whose values are all True -/
def dk (ks : List Int) : List (Key × V) := ks.map fun k => (Sum.inl k, V.bl true)

mutual
def Rep (K : PySem.W.Frag) (H : Hp) (v : V) : D → Prop
  | .non => v = .non
  | .bl b => v = .bl b
  | .int i => v = .int i
  | .str s => v = .str s
  | .lst ds => ∃ a vs, v = .ref a ∧ H a = some (.lst vs) ∧ Reps K H vs ds
  | .tup ds => ∃ a vs, v = .ref a ∧ H a = some (.tup vs) ∧ Reps K H vs ds
  | .dic ks => ∃ a, v = .ref a ∧ H a = some (.dK (dk ks))
  | .scr ns => ∃ a, v = .ref a ∧ SqL K H a (ns.map V.int)
def Reps (K : PySem.W.Frag) (H : Hp) (vs : List V) : List D → Prop
  | [] => vs = []
  | d :: ds => ∃ v r, vs = v :: r ∧ Rep K H v d ∧ Reps K H r ds
end

section
variable {K : PySem.W.Frag} {H H' : Hp}
mutual
theorem Rep.same (s : Same H H') : ∀ {d : D} {v : V}, Rep K H v d → Rep K H' v d
  | .non, _, h => by unfold Rep at h ⊢; exact h
  | .bl _, _, h => by unfold Rep at h ⊢; exact h
  | .int _, _, h => by unfold Rep at h ⊢; exact h
  | .str _, _, h => by unfold Rep at h ⊢; exact h
  | .lst ds, _, h => by
    unfold Rep at h ⊢
    obtain ⟨a, vs, e, h1, h2⟩ := h
    exact ⟨a, vs, e, s _ _ h1, Reps.same s h2⟩
  | .tup ds, _, h => by
    unfold Rep at h ⊢
    obtain ⟨a, vs, e, h1, h2⟩ := h
    exact ⟨a, vs, e, s _ _ h1, Reps.same s h2⟩
  | .dic ks, _, h => by
    unfold Rep at h ⊢
    obtain ⟨a, e, h1⟩ := h
    exact ⟨a, e, s _ _ h1⟩
  | .scr ns, _, h => by
    unfold Rep at h ⊢
    obtain ⟨a, e, h1⟩ := h
    exact ⟨a, e, s.seq h1⟩
theorem Reps.same (s : Same H H') : ∀ {ds : List D} {vs : List V}, Reps K H vs ds → Reps K H' vs ds
  | [], _, h => by unfold Reps at h ⊢; exact h
  | d :: ds, _, h => by
    unfold Reps at h ⊢
    obtain ⟨v, r, e, h1, h2⟩ := h
    exact ⟨v, r, e, Rep.same s h1, Reps.same s h2⟩
end
theorem rep_non {v : V} : Rep K H v .non ↔ v = .non := by unfold Rep; exact Iff.rfl
theorem rep_bl {v : V} {b : Bool} : Rep K H v (.bl b) ↔ v = .bl b := by unfold Rep; exact Iff.rfl
theorem rep_int {v : V} {i : Int} : Rep K H v (.int i) ↔ v = .int i := by unfold Rep; exact Iff.rfl
theorem rep_str {v : V} {i : Str} : Rep K H v (.str i) ↔ v = .str i := by unfold Rep; exact Iff.rfl
theorem rep_lst {v : V} {ds : List D} : Rep K H v (.lst ds) ↔ ∃ a vs, v = .ref a ∧ H a = some (.lst vs) ∧ Reps K H vs ds := by rw [Rep]
theorem rep_tup {v : V} {ds : List D} : Rep K H v (.tup ds) ↔ ∃ a vs, v = .ref a ∧ H a = some (.tup vs) ∧ Reps K H vs ds := by rw [Rep]
theorem rep_dic {v : V} {ks : List Int} : Rep K H v (.dic ks) ↔ ∃ a, v = .ref a ∧ H a = some (.dK (dk ks)) := by rw [Rep]
theorem rep_scr {v : V} {ns : List Int} : Rep K H v (.scr ns) ↔ ∃ a, v = .ref a ∧ SqL K H a (ns.map V.int) := by rw [Rep]
theorem reps_nil {vs : List V} : Reps K H vs [] ↔ vs = [] := by rw [Reps]
theorem reps_cons {vs : List V} {d : D} {ds : List D} : Reps K H vs (d :: ds) ↔ ∃ v r, vs = v :: r ∧ Rep K H v d ∧ Reps K H r ds := by rw [Reps]
theorem Reps.cons {v : V} {vs : List V} {d : D} {ds : List D} (h : Rep K H v d) (t : Reps K H vs ds) : Reps K H (v :: vs) (d :: ds) := reps_cons.mpr ⟨v, vs, rfl, h, t⟩
theorem Reps.nil : Reps K H [] [] := reps_nil.mpr rfl
theorem Reps.len : ∀ {ds : List D} {vs : List V}, Reps K H vs ds → vs.length = ds.length
  | [], _, h => by rw [reps_nil.mp h]; rfl
  | d :: ds, _, h => by
    obtain ⟨v, r, rfl, _, t⟩ := reps_cons.mp h
    simp [t.len]
theorem Reps.get : ∀ {ds : List D} {vs : List V} {i : Nat} {d : D}, Reps K H vs ds → ds[i]? = some d → ∃ v, vs[i]? = some v ∧ Rep K H v d
  | [], _, _, _, _, e => by simp at e
  | d :: ds, _, 0, _, h, e => by
    obtain ⟨v, r, rfl, h1, _⟩ := reps_cons.mp h
    simp at e
    subst e
    exact ⟨v, by simp, h1⟩
  | d :: ds, _, i + 1, _, h, e => by
    obtain ⟨v, r, rfl, _, t⟩ := reps_cons.mp h
    obtain ⟨u, q1, q2⟩ := Reps.get (i := i) t (by simpa using e)
    exact ⟨u, by simpa using q1, q2⟩
theorem Reps.get' {ds : List D} {vs : List V} {i : Nat} {v : V} (h : Reps K H vs ds) (e : vs[i]? = some v) : ∃ d, ds[i]? = some d ∧ Rep K H v d := by
  have hl := h.len
  have hi : i < vs.length := (List.getElem?_eq_some_iff.mp e).1
  have e2 : ds[i]? = some (ds[i]'(by omega)) := by simp
  obtain ⟨u, q1, q2⟩ := h.get e2
  rw [q1] at e
  cases e
  exact ⟨_, e2, q2⟩
theorem Reps.append : ∀ {ds es : List D} {vs us : List V}, Reps K H vs ds → Reps K H us es → Reps K H (vs ++ us) (ds ++ es)
  | [], _, _, _, h, t => by rw [reps_nil.mp h]; exact t
  | d :: ds, _, _, _, h, t => by
    obtain ⟨v, r, rfl, h1, h2⟩ := reps_cons.mp h
    exact Reps.cons h1 (h2.append t)
theorem Reps.one {v : V} {d : D} (h : Rep K H v d) : Reps K H [v] [d] := Reps.cons h Reps.nil
theorem Reps.set : ∀ {ds : List D} {vs : List V} {i : Nat} {v : V} {d : D}, Reps K H vs ds → Rep K H v d → Reps K H (vs.set i v) (ds.set i d)
  | [], _, _, _, _, h, _ => by rw [reps_nil.mp h]; exact Reps.nil
  | e :: ds, _, 0, _, _, h, q => by
    obtain ⟨v, r, rfl, _, h2⟩ := reps_cons.mp h
    exact Reps.cons q h2
  | e :: ds, _, i + 1, _, _, h, q => by
    obtain ⟨v, r, rfl, h1, h2⟩ := reps_cons.mp h
    exact Reps.cons h1 (h2.set q)
theorem Reps.take : ∀ {ds : List D} {vs : List V} (n : Nat), Reps K H vs ds → Reps K H (vs.take n) (ds.take n)
  | _, _, 0, _ => by simpa using Reps.nil
  | [], _, n + 1, h => by rw [reps_nil.mp h]; simpa using Reps.nil
  | d :: ds, _, n + 1, h => by
    obtain ⟨v, r, rfl, h1, h2⟩ := reps_cons.mp h
    simpa using Reps.cons h1 (h2.take n)
theorem Reps.drop : ∀ {ds : List D} {vs : List V} (n : Nat), Reps K H vs ds → Reps K H (vs.drop n) (ds.drop n)
  | _, _, 0, h => h
  | [], _, n + 1, h => by rw [reps_nil.mp h]; simpa using Reps.nil
  | d :: ds, _, n + 1, h => by
    obtain ⟨v, r, rfl, h1, h2⟩ := reps_cons.mp h
    simpa using h2.drop n
theorem Reps.eraseIdx : ∀ {ds : List D} {vs : List V} (n : Nat), Reps K H vs ds → Reps K H (vs.eraseIdx n) (ds.eraseIdx n)
  | [], _, n, h => by rw [reps_nil.mp h]; simpa using Reps.nil
  | d :: ds, _, 0, h => by
    obtain ⟨v, r, rfl, h1, h2⟩ := reps_cons.mp h
    simpa using h2
  | d :: ds, _, n + 1, h => by
    obtain ⟨v, r, rfl, h1, h2⟩ := reps_cons.mp h
    simpa using Reps.cons h1 (h2.eraseIdx n)
theorem Reps.ints : ∀ {ns : List Int} {vs : List V}, Reps K H vs (ns.map D.int) → vs = ns.map V.int
  | [], _, h => reps_nil.mp h
  | n :: ns, _, h => by
    obtain ⟨v, r, rfl, h1, h2⟩ := reps_cons.mp h
    rw [rep_int.mp h1, Reps.ints h2]; rfl
theorem Reps.of_ints : ∀ (ns : List Int), Reps K H (ns.map V.int) (ns.map D.int)
  | [] => Reps.nil
  | n :: ns => Reps.cons (rep_int.mpr rfl) (Reps.of_ints ns)
theorem Reps.strs : ∀ {ns : List Str} {vs : List V}, Reps K H vs (ns.map D.str) → vs = ns.map V.str
  | [], _, h => reps_nil.mp h
  | n :: ns, _, h => by
    obtain ⟨v, r, rfl, h1, h2⟩ := reps_cons.mp h
    rw [rep_str.mp h1, Reps.strs h2]; rfl
theorem Reps.of_strs : ∀ (ns : List Str), Reps K H (ns.map V.str) (ns.map D.str)
  | [] => Reps.nil
  | n :: ns => Reps.cons (rep_str.mpr rfl) (Reps.of_strs ns)
end

/-! ### slots -/
inductive Md where
  | loc
  | mut
  | ro
  deriving DecidableEq
inductive Sl where
  | val (d : D)
  | own (m : Md) (ds : List D)
  | odic (m : Md) (ks : List Int)
  | net (m : Md) (size : Int) (ps : List D)
abbrev En := List (Option Sl)
abbrev SS := L2.St

/-- the exceptions' classes -/
inductive Ex where
  | much
  | place
  | pipe
  | same
  | net
  deriving DecidableEq
/-- what the text's top has made: the written part, the class of nets, the exceptions' classes -/
structure Glo where
  K : PySem.W.Frag
  C : Addr
  cls : Ex → Addr

def netF (size : Int) (l : Addr) : List (Str × V) := [("many", .int size), ("laid", .ref l)]

/-- the slot i, of the value v, holds what is said; ow: who owns an address -/
def SlOk (g : Glo) (Hb H : Hp) (ow : Addr → Option Nat) (i : Nat) (v : V) : Sl → Prop
  | .val d => Rep g.K Hb v d
  | .own _ ds => ∃ a vs, v = .ref a ∧ ow a = some i ∧ H a = some (.lst vs) ∧ Reps g.K Hb vs ds
  | .odic _ ks => ∃ a, v = .ref a ∧ ow a = some i ∧ H a = some (.dK (dk ks))
  | .net _ size ps => ∃ a dx l vs, v = .ref a ∧ ow a = some i ∧ ow l = some i ∧ H a = some (.ins g.C dx (netF size l)) ∧ H l = some (.lst vs) ∧ Reps g.K Hb vs ps

structure Sat (g : Glo) (Γ : En) (σ : SS) (Hb H : Hp) (ow : Addr → Option Nat) : Prop where
  same : Same Hb H
  ows : ∀ a i, ow a = some i → Hb a = none ∧ H a ≠ none
  slots : ∀ i s, Γ[i]? = some (some s) → ∃ v, σ[i]? = some (some v) ∧ SlOk g Hb H ow i v s
  len : Γ.length = σ.length

/-- only what is new has come -/
structure Grow (Hb H Hb' H' : Hp) : Prop where
  hb : Same Hb Hb'
  h : Same H H'
  same : Same Hb' H'
  new : ∀ a, Hb' a ≠ none → Hb a ≠ none ∨ H a = none

theorem Grow.refl {Hb H : Hp} (s : Same Hb H) : Grow Hb H Hb H := ⟨Same.refl _, Same.refl _, s, fun _ h => .inl h⟩
theorem ne_none_of_same {H H' : Hp} (s : Same H H') {a : Addr} (h : H a ≠ none) : H' a ≠ none := by
  cases e : H a with
  | none => exact absurd e h
  | some o => rw [s _ _ e]; simp
theorem Grow.trans {Hb H Hb1 H1 Hb2 H2 : Hp} (a : Grow Hb H Hb1 H1) (b : Grow Hb1 H1 Hb2 H2) : Grow Hb H Hb2 H2 := by
  refine ⟨a.hb.trans b.hb, a.h.trans b.h, b.same, fun x hx => ?_⟩
  rcases b.new x hx with h | h
  · exact a.new x h
  · exact .inr (a.h.free h)

theorem Grow.keepNone {Hb H Hb' H' : Hp} (g : Grow Hb H Hb' H') {a : Addr} (h : Hb a = none) (h' : H a ≠ none) : Hb' a = none := by
  cases e : Hb' a with
  | none => rfl
  | some o =>
    rcases g.new a (by rw [e]; simp) with q | q
    · exact absurd h q
    · exact absurd q h'

theorem SlOk.grow {g : Glo} {Hb H Hb' H' : Hp} {ow : Addr → Option Nat} {i : Nat} {v : V} {s : Sl} (gr : Grow Hb H Hb' H') (h : SlOk g Hb H ow i v s) : SlOk g Hb' H' ow i v s := by
  cases s with
  | val d => exact Rep.same gr.hb h
  | own m ds =>
    obtain ⟨a, vs, e, o, h1, h2⟩ := h
    exact ⟨a, vs, e, o, gr.h _ _ h1, h2.same gr.hb⟩
  | odic m ks =>
    obtain ⟨a, e, o, h1⟩ := h
    exact ⟨a, e, o, gr.h _ _ h1⟩
  | net m size ps =>
    obtain ⟨a, dx, l, vs, e, o, ol, h1, h2, h3⟩ := h
    exact ⟨a, dx, l, vs, e, o, ol, gr.h _ _ h1, gr.h _ _ h2, h3.same gr.hb⟩
theorem Sat.grow {g : Glo} {Γ : En} {σ : SS} {Hb H Hb' H' : Hp} {ow : Addr → Option Nat} (S : Sat g Γ σ Hb H ow) (gr : Grow Hb H Hb' H') : Sat g Γ σ Hb' H' ow := by
  refine ⟨gr.same, fun a i e => ?_, fun i s e => ?_, S.len⟩
  · obtain ⟨h1, h2⟩ := S.ows a i e
    exact ⟨gr.keepNone h1 h2, ne_none_of_same gr.h h2⟩
  · obtain ⟨v, q1, q2⟩ := S.slots i s e
    exact ⟨v, q1, q2.grow gr⟩

/-- a new object, frozen at once -/
theorem Grow.put {Hb H : Hp} {p : Addr} {o : HO} (s : Same Hb H) (hp : H p = none) : Grow Hb H (upd Hb p o) (upd H p o) := by
  have hbp : Hb p = none := s.free hp
  refine ⟨fun b u e => ?_, fun b u e => ?_, fun b u e => ?_, fun a h => ?_⟩
  · rw [upd_ne (ne_of_none e hbp)]; exact e
  · rw [upd_ne (ne_of_none e hp)]; exact e
  · by_cases q : b = p
    · subst q; rw [upd_same] at e ⊢; exact e
    · rw [upd_ne q] at e ⊢; exact s _ _ e
  · by_cases q : a = p
    · subst q; exact .inr hp
    · rw [upd_ne q] at h; exact .inl h
/-- a new object, owned -/
theorem Grow.own {Hb H : Hp} {p : Addr} {o : HO} (s : Same Hb H) (hp : H p = none) : Grow Hb H Hb (upd H p o) := by
  refine ⟨Same.refl _, fun b u e => ?_, fun b u e => ?_, fun a h => .inl h⟩
  · rw [upd_ne (ne_of_none e hp)]; exact e
  · rw [upd_ne (ne_of_none (s _ _ e) hp)]; exact s _ _ e
/-- something outside the frozen part comes to be frozen -/
theorem Same.froze {Hb H : Hp} {p : Addr} {o : HO} (s : Same Hb H) (h : H p = some o) : Same (upd Hb p o) H := fun b u e => by
  by_cases q : b = p
  · subst q; rw [upd_same] at e; rw [h]; exact e
  · rw [upd_ne q] at e; exact s _ _ e

/-! ### the readings by values -/
abbrev VF := En → Option D
abbrev VB := En → Option Bool
abbrev VL := En → Option (List D)
abbrev VS := En → Option Sl

theorem frees {H H' : Hp} (s : Same H H') : ∀ a, H' a = none → H a = none := fun _ h => s.free h
/-- how a value stands for a thing of the type α: the heap ahead, the frozen part, the heap -/
abbrev RP (α : Type) := Glo → Hp → Hp → Hp → V → α → Prop
class Mono {α : Type} (r : RP α) : Prop where
  mono : ∀ {g : Glo} {H0 Hb H Hb' H' : Hp} {v : V} {x : α}, Grow Hb H Hb' H' → r g H0 Hb H v x → r g H0 Hb' H' v x
  back : ∀ {g : Glo} {H0 H1 Hb H : Hp} {v : V} {x : α}, (∀ a, H1 a = none → H0 a = none) → r g H1 Hb H v x → r g H0 Hb H v x

def eK (g : Glo) {α : Type} (r : RP α) (f : En → Option α) : TE := fun σ H Q => ∃ Γ Hb ow x, f Γ = some x ∧ Sat g Γ σ Hb H ow ∧ ∀ v Hb' H', Grow Hb H Hb' H' → r g H Hb' H' v x → Q v H'

/-- frozen data -/
def rD : RP D := fun g _ Hb _ v d => Rep g.K Hb v d
instance : Mono rD := ⟨fun gr h => Rep.same gr.hb h, fun _ h => h⟩
/-- a list that may be read: its items are frozen, itself perhaps not -/
def rL : RP (List D) := fun g _ Hb H v ds => ∃ a vs, v = .ref a ∧ H a = some (.lst vs) ∧ Reps g.K Hb vs ds
instance : Mono rL := ⟨fun gr ⟨a, vs, e, h1, h2⟩ => ⟨a, vs, e, gr.h _ _ h1, h2.same gr.hb⟩, fun _ h => h⟩
/-- a dict that may be read -/
def rM : RP (List Int) := fun _ _ _ H v ks => ∃ a, v = .ref a ∧ H a = some (.dK (dk ks))
instance : Mono rM := ⟨fun gr ⟨a, e, h1⟩ => ⟨a, e, gr.h _ _ h1⟩, fun _ h => h⟩
/-- a net that may be read -/
def rN : RP (Int × List D) := fun g _ Hb H v n => ∃ a dx l vs, v = .ref a ∧ H a = some (.ins g.C dx (netF n.1 l)) ∧ H l = some (.lst vs) ∧ Reps g.K Hb vs n.2
instance : Mono rN := ⟨fun gr ⟨a, dx, l, vs, e, h1, h2, h3⟩ => ⟨a, dx, l, vs, e, gr.h _ _ h1, gr.h _ _ h2, h3.same gr.hb⟩, fun _ h => h⟩
/-- a result that is new -/
def rO : RP Sl := fun g H Hb' H' v s => match s with
  | .val d => Rep g.K Hb' v d
  | .own _ ds => ∃ a vs, v = .ref a ∧ H a = none ∧ Hb' a = none ∧ H' a = some (.lst vs) ∧ Reps g.K Hb' vs ds
  | .odic _ ks => ∃ a, v = .ref a ∧ H a = none ∧ Hb' a = none ∧ H' a = some (.dK (dk ks))
  | .net _ size ps => ∃ a dx l vs, v = .ref a ∧ H a = none ∧ Hb' a = none ∧ H l = none ∧ Hb' l = none ∧ H' a = some (.ins g.C dx (netF size l)) ∧ H' l = some (.lst vs) ∧ Reps g.K Hb' vs ps
theorem some_ne {α : Type} {o : Option α} {x : α} (h : o = some x) : o ≠ none := by rw [h]; simp
instance : Mono rO where
  mono := fun {g H0 Hb H Hb' H' v x} gr h => by
    cases x with
    | val d => exact Rep.same gr.hb h
    | own m ds =>
      obtain ⟨a, vs, e, h0, hb, h1, h2⟩ := h
      exact ⟨a, vs, e, h0, gr.keepNone hb (some_ne h1), gr.h _ _ h1, h2.same gr.hb⟩
    | odic m ks =>
      obtain ⟨a, e, h0, hb, h1⟩ := h
      exact ⟨a, e, h0, gr.keepNone hb (some_ne h1), gr.h _ _ h1⟩
    | net m size ps =>
      obtain ⟨a, dx, l, vs, e, h0, hb, l0, lb, h1, h2, h3⟩ := h
      exact ⟨a, dx, l, vs, e, h0, gr.keepNone hb (some_ne h1), l0, gr.keepNone lb (some_ne h2), gr.h _ _ h1, gr.h _ _ h2, h3.same gr.hb⟩
  back := fun {g H0 H1 Hb H v x} s h => by
    cases x with
    | val d => exact h
    | own m ds =>
      obtain ⟨a, vs, e, h0, q⟩ := h
      exact ⟨a, vs, e, s _ h0, q⟩
    | odic m ks =>
      obtain ⟨a, e, h0, q⟩ := h
      exact ⟨a, e, s _ h0, q⟩
    | net m size ps =>
      obtain ⟨a, dx, l, vs, e, h0, hb, l0, q⟩ := h
      exact ⟨a, dx, l, vs, e, s _ h0, hb, s _ l0, q⟩

abbrev eV (g : Glo) (f : VF) : TE := eK g rD f
abbrev eL (g : Glo) (f : VL) : TE := eK g rL f
abbrev eO (g : Glo) (f : VS) : TE := eK g rO f
def eT (g : Glo) (f : VB) : TT := fun σ H Q => ∃ Γ Hb ow d, f Γ = some d ∧ Sat g Γ σ Hb H ow ∧ ∀ Hb' H', Grow Hb H Hb' H' → Q d H'

section
variable {X : Cx} {e : Expr} {es : List Expr}
theorem PE_mono {t t' : TE} (h : PE X e t) (m : ∀ σ H Q, t' σ H Q → t σ H Q) : PE X e t' := ⟨fun pins s σ H Q I hw => h.run pins s σ H Q I (m σ H Q hw)⟩
theorem PT_mono {t t' : TT} (h : PT X e t) (m : ∀ σ H Q, t' σ H Q → t σ H Q) : PT X e t' := ⟨fun pins s σ H Q I hw => h.run pins s σ H Q I (m σ H Q hw)⟩
theorem PW_mono {t t' : TT} (h : PW X e t) (m : ∀ σ H Q, t' σ H Q → t σ H Q) : PW X e t' := ⟨fun wh pins s σ H Q I hw => h.run wh pins s σ H Q I (m σ H Q hw)⟩
theorem PA_mono {t t' : TA} (h : PA X es t) (m : ∀ σ H Q, t' σ H Q → t σ H Q) : PA X es t' := ⟨fun pos pins s σ H Q I hw => h.run pos pins s σ H Q I (m σ H Q hw)⟩
theorem PS_mono {st : Stmt} {t t' : TS} (h : PS X st t) (m : ∀ D σ H, t' D σ H → t D σ H) : PS X st t' := ⟨fun pins s σ H D I hw => h.run pins s σ H D I (m D σ H hw)⟩
theorem PSs_mono {sts : List Stmt} {t t' : TS} (h : PSs X sts t) (m : ∀ D σ H, t' D σ H → t D σ H) : PSs X sts t' := ⟨fun pins s σ H D I hw => h.run pins s σ H D I (m D σ H hw)⟩
end

end Z

set_option maxRecDepth 100000
namespace Z
open PySem PySem.Spec PyProof.Rows L2
section
variable {X : Cx} {g : Glo} {c e : Expr}

/-! ### names and constants -/
def vVar (i : Nat) : VF := fun Γ => match Γ[i]? with | some (some (.val d)) => some d | _ => none
def lVar (i : Nat) : VL := fun Γ => match Γ[i]? with | some (some (.val (.lst ds))) => some ds | some (some (.own _ ds)) => some ds | _ => none
def mVar (i : Nat) : En → Option (List Int) := fun Γ => match Γ[i]? with | some (some (.val (.dic ks))) => some ks | some (some (.odic _ ks)) => some ks | _ => none
def nVar (i : Nat) : En → Option (Int × List D) := fun Γ => match Γ[i]? with | some (some (.net _ size ps)) => some (size, ps) | _ => none
theorem ev_var {i : Nat} (h : PE X e (tVar i)) : PE X e (eV g (vVar i)) := PE_mono h fun σ H Q ⟨Γ, Hb, ow, d, ef, S, k⟩ => by
  unfold vVar at ef
  split at ef
  · rename_i d' e1
    cases ef
    obtain ⟨v, q1, q2⟩ := S.slots _ _ e1
    exact ⟨v, q1, k v Hb H (Grow.refl S.same) q2⟩
  · cases ef
theorem el_var {i : Nat} (h : PE X e (tVar i)) : PE X e (eL g (lVar i)) := PE_mono h fun σ H Q ⟨Γ, Hb, ow, d, ef, S, k⟩ => by
  unfold lVar at ef
  split at ef
  · rename_i ds e1
    cases ef
    obtain ⟨v, q1, q2⟩ := S.slots _ _ e1
    obtain ⟨a, vs, rfl, h1, h2⟩ := rep_lst.mp (show Rep g.K Hb v (.lst d) from q2)
    exact ⟨_, q1, k _ Hb H (Grow.refl S.same) ⟨a, vs, rfl, S.same _ _ h1, h2⟩⟩
  · rename_i m ds e1
    cases ef
    obtain ⟨v, q1, a, vs, rfl, _, h1, h2⟩ := S.slots _ _ e1
    exact ⟨_, q1, k _ Hb H (Grow.refl S.same) ⟨a, vs, rfl, h1, h2⟩⟩
  · cases ef
theorem em_var {i : Nat} (h : PE X e (tVar i)) : PE X e (eK g rM (mVar i)) := PE_mono h fun σ H Q ⟨Γ, Hb, ow, d, ef, S, k⟩ => by
  unfold mVar at ef
  split at ef
  · rename_i ds e1
    cases ef
    obtain ⟨v, q1, q2⟩ := S.slots _ _ e1
    obtain ⟨a, rfl, h1⟩ := rep_dic.mp (show Rep g.K Hb v (.dic d) from q2)
    exact ⟨_, q1, k _ Hb H (Grow.refl S.same) ⟨a, rfl, S.same _ _ h1⟩⟩
  · rename_i m ds e1
    cases ef
    obtain ⟨v, q1, a, rfl, _, h1⟩ := S.slots _ _ e1
    exact ⟨_, q1, k _ Hb H (Grow.refl S.same) ⟨a, rfl, h1⟩⟩
  · cases ef
theorem en_var {i : Nat} (h : PE X e (tVar i)) : PE X e (eK g rN (nVar i)) := PE_mono h fun σ H Q ⟨Γ, Hb, ow, d, ef, S, k⟩ => by
  unfold nVar at ef
  split at ef
  · rename_i m size ps e1
    cases ef
    obtain ⟨v, q1, a, dx, l, vs, rfl, _, _, h1, h2, h3⟩ := S.slots _ _ e1
    exact ⟨_, q1, k _ Hb H (Grow.refl S.same) ⟨a, dx, l, vs, rfl, h1, h2, h3⟩⟩
  · cases ef
def vC (d : D) : VF := fun _ => some d
theorem ev_c {v : V} {d : D} (h : PE X e (tC v)) (r : ∀ K H, Rep K H v d) : PE X e (eV g (vC d)) := PE_mono h fun σ H Q ⟨Γ, Hb, ow, d', ef, S, k⟩ => by
  cases ef
  exact k v Hb H (Grow.refl S.same) (r _ _)
theorem ev_int {i : Int} (h : PE X e (tC (.int i))) : PE X e (eV g (vC (.int i))) := ev_c h fun _ _ => rep_int.mpr rfl
theorem ev_bl {i : Bool} (h : PE X e (tC (.bl i))) : PE X e (eV g (vC (.bl i))) := ev_c h fun _ _ => rep_bl.mpr rfl
theorem ev_str {i : Str} (h : PE X e (tC (.str i))) : PE X e (eV g (vC (.str i))) := ev_c h fun _ _ => rep_str.mpr rfl
theorem ev_non (h : PE X e (tC .non)) : PE X e (eV g (vC .non)) := ev_c h fun _ _ => rep_non.mpr rfl

/-! ### one, two operands -/
variable {α β γ : Type} {r1 : RP α} {r2 : RP β} {r3 : RP γ}
def v1 (F : α → Option γ) (f : En → Option α) : En → Option γ := fun Γ => (f Γ).bind F
def v2 (F : α → β → Option γ) (f : En → Option α) (h : En → Option β) : En → Option γ := fun Γ => (f Γ).bind fun x => (h Γ).bind fun y => F x y
/-- a rule of one operand, by values -/
def Op1 (g : Glo) (r : V → Hp → VK → Prop) (r1 : RP α) (r3 : RP γ) (F : α → Option γ) : Prop :=
  ∀ x d v H0 Hb H Q, F x = some d → Same Hb H → r1 g H0 Hb H v x → (∀ v' Hb' H', Grow Hb H Hb' H' → r3 g H Hb' H' v' d → Q v' H') → r v H Q
def Op2 (g : Glo) (r : R2) (r1 : RP α) (r2 : RP β) (r3 : RP γ) (F : α → β → Option γ) : Prop :=
  ∀ x y d v u H0 H1 Hb H Q, F x y = some d → Same Hb H → r1 g H0 Hb H v x → r2 g H1 Hb H u y → (∀ v' Hb' H', Grow Hb H Hb' H' → r3 g H Hb' H' v' d → Q v' H') → r v u H Q
/-- of whatever reading has been gained by a rule over one operand's reading -/
theorem ek_1 [Mono r3] {f : En → Option α} {F : α → Option γ} {r : V → Hp → VK → Prop} (h : PE X c (tUn r (eK g r1 f))) (hd : Op1 g r r1 r3 F) : PE X c (eK g r3 (v1 F f)) := PE_mono h fun σ H Q ⟨Γ, Hb, ow, d, ef, S, k⟩ => by
  obtain ⟨x, e1, e2⟩ := Option.bind_eq_some_iff.mp ef
  exact ⟨Γ, Hb, ow, x, e1, S, fun v Hb1 H1 g1 q1 => hd x d v H Hb1 H1 Q e2 g1.same q1 fun v' Hb2 H2 g2 q2 => k v' Hb2 H2 (g1.trans g2) (Mono.back (frees g1.h) q2)⟩
theorem ek_2 [Mono r1] [Mono r3] {f : En → Option α} {h' : En → Option β} {F : α → β → Option γ} {r : R2} (h : PE X c (tOp r (eK g r1 f) (eK g r2 h'))) (hd : Op2 g r r1 r2 r3 F) : PE X c (eK g r3 (v2 F f h')) := PE_mono h fun σ H Q ⟨Γ, Hb, ow, d, ef, S, k⟩ => by
  obtain ⟨x, e1, e2⟩ := Option.bind_eq_some_iff.mp ef
  obtain ⟨y, e3, e4⟩ := Option.bind_eq_some_iff.mp e2
  exact ⟨Γ, Hb, ow, x, e1, S, fun v Hb1 H1 g1 q1 => ⟨Γ, Hb1, ow, y, e3, S.grow g1, fun u Hb2 H2 g2 q2 => hd x y d v u H H1 Hb2 H2 Q e4 g2.same (Mono.mono g2 q1) q2 fun v' Hb3 H3 g3 q3 =>
    k v' Hb3 H3 ((g1.trans g2).trans g3) (Mono.back (frees (g1.h.trans g2.h)) q3)⟩⟩
/-- a result that needs nothing new -/
theorem op1_of {r : V → Hp → VK → Prop} {F : α → Option γ} (h : ∀ x d v H0 Hb H Q, F x = some d → Same Hb H → r1 g H0 Hb H v x → (∀ v', r3 g H Hb H v' d → Q v' H) → r v H Q) : Op1 g r r1 r3 F := fun x d v H0 Hb H Q e s q k =>
  h x d v H0 Hb H Q e s q fun v' q' => k v' Hb H (Grow.refl s) q'
theorem op2_of {r : R2} {F : α → β → Option γ} (h : ∀ x y d v u H0 H1 Hb H Q, F x y = some d → Same Hb H → r1 g H0 Hb H v x → r2 g H1 Hb H u y → (∀ v', r3 g H Hb H v' d → Q v' H) → r v u H Q) : Op2 g r r1 r2 r3 F := fun x y d v u H0 H1 Hb H Q e s q q' k =>
  h x y d v u H0 H1 Hb H Q e s q q' fun v' z => k v' Hb H (Grow.refl s) z

/-- two whole numbers -/
def i2 (C : Int → Int → Bool) (F : Int → Int → D) : D → D → Option D
  | .int i, .int j => if C i j = true then some (F i j) else none
  | _, _ => none
theorem op2_i {r : R2} {C : Int → Int → Bool} {F : Int → Int → D} {G : Int → Int → V} (hr : ∀ i j H Q, C i j = true → Q (G i j) H → r (.int i) (.int j) H Q) (hG : ∀ i j K H, Rep K H (G i j) (F i j)) : Op2 g r rD rD rD (i2 C F) :=
  op2_of fun x y d v u H0 H1 Hb H Q e s q q' k => by
    unfold i2 at e
    split at e
    · split at e
      · cases e
        rw [rep_int.mp q, rep_int.mp q']
        exact hr _ _ _ _ (by assumption) (k _ (hG _ _ _ _))
      · cases e
    · cases e
abbrev tt2 : Int → Int → Bool := fun _ _ => true
def fAdd := i2 tt2 fun i j => .int (i + j)
def fSub := i2 tt2 fun i j => .int (i - j)
def small (i : Int) : Bool := decide (-(2 ^ 64) < i ∧ i < 2 ^ 64)
def fMul := i2 (fun i j => small i || small j) fun i j => .int (i * j)
def fDiv := i2 (fun _ j => decide (0 < j ∧ j < 1073741824)) fun i j => .int (i / j)
def fMod := i2 (fun _ j => decide (0 < j)) fun i j => .int (i % j)
def fPow := i2 (fun i j => decide (0 ≤ j ∧ j ≤ 1000000 ∧ i.natAbs < 2 ^ 64)) fun i j => .int (i ^ j.toNat)
def fLt := i2 tt2 fun i j => .bl (decide (i < j))
def fLe := i2 tt2 fun i j => .bl (decide (i ≤ j))
def fGt := i2 tt2 fun i j => .bl (decide (j < i))
def fGe := i2 tt2 fun i j => .bl (decide (j ≤ i))
theorem d_add : Op2 g (rI0 fun i j => .int (i + j)) rD rD rD fAdd := op2_i (fun i j H Q _ q => ⟨i, j, rfl, rfl, q⟩) fun _ _ _ _ => rep_int.mpr rfl
theorem d_sub : Op2 g (rI0 fun i j => .int (i - j)) rD rD rD fSub := op2_i (fun i j H Q _ q => ⟨i, j, rfl, rfl, q⟩) fun _ _ _ _ => rep_int.mpr rfl
theorem d_mul : Op2 g (rI CMul fun i j => .int (i * j)) rD rD rD fMul := op2_i (fun i j H Q h q => ⟨i, j, rfl, rfl, by
  rcases Bool.or_eq_true_iff.mp h with h | h
  · exact .inl (of_decide_eq_true h)
  · exact .inr (of_decide_eq_true h), q⟩) fun _ _ _ _ => rep_int.mpr rfl
theorem d_div : Op2 g (rI CDiv fun i j => .int (i / j)) rD rD rD fDiv := op2_i (fun i j H Q h q => ⟨i, j, rfl, rfl, (show 0 < j ∧ j < 1073741824 from of_decide_eq_true h), q⟩) fun _ _ _ _ => rep_int.mpr rfl
theorem d_mod : Op2 g (rI (fun _ j => 0 < j) fun i j => .int (i % j)) rD rD rD fMod := op2_i (fun i j H Q h q => ⟨i, j, rfl, rfl, of_decide_eq_true h, q⟩) fun _ _ _ _ => rep_int.mpr rfl
theorem d_pow : Op2 g (rI CPow fun i j => .int (i ^ j.toNat)) rD rD rD fPow := op2_i (fun i j H Q h q => ⟨i, j, rfl, rfl, (show 0 ≤ j ∧ j ≤ 1000000 ∧ i.natAbs < 2 ^ 64 from of_decide_eq_true h), q⟩) fun _ _ _ _ => rep_int.mpr rfl
theorem d_lt : Op2 g (rI0 fun i j => .bl (decide (i < j))) rD rD rD fLt := op2_i (fun i j H Q _ q => ⟨i, j, rfl, rfl, q⟩) fun _ _ _ _ => rep_bl.mpr rfl
theorem d_le : Op2 g (rI0 fun i j => .bl (decide (i ≤ j))) rD rD rD fLe := op2_i (fun i j H Q _ q => ⟨i, j, rfl, rfl, q⟩) fun _ _ _ _ => rep_bl.mpr rfl
theorem d_gt : Op2 g (rI0 fun i j => .bl (decide (j < i))) rD rD rD fGt := op2_i (fun i j H Q _ q => ⟨i, j, rfl, rfl, q⟩) fun _ _ _ _ => rep_bl.mpr rfl
theorem d_ge : Op2 g (rI0 fun i j => .bl (decide (j ≤ i))) rD rD rD fGe := op2_i (fun i j H Q _ q => ⟨i, j, rfl, rfl, q⟩) fun _ _ _ _ => rep_bl.mpr rfl
def fNeg : D → Option D
  | .int i => some (.int (-i))
  | _ => none
theorem d_neg : Op1 g (rU fun i => .int (-i)) rD rD fNeg := op1_of fun x d v H0 Hb H Q e s q k => by
  unfold fNeg at e
  split at e
  · cases e
    exact ⟨_, rep_int.mp q, k _ (rep_int.mpr rfl)⟩
  · cases e

/-! ### is None -/
def isNon : D → Bool
  | .non => true
  | _ => false
theorem rep_isNon {K : PySem.W.Frag} {H : Hp} {v : V} {d : D} (h : Rep K H v d) : decide (v = .non) = isNon d := by
  cases d with
  | non => rw [rep_non.mp h]; rfl
  | bl b => rw [rep_bl.mp h]; rfl
  | int b => rw [rep_int.mp h]; rfl
  | str b => rw [rep_str.mp h]; rfl
  | lst b => obtain ⟨a, vs, rfl, _⟩ := rep_lst.mp h; rfl
  | tup b => obtain ⟨a, vs, rfl, _⟩ := rep_tup.mp h; rfl
  | dic b => obtain ⟨a, rfl, _⟩ := rep_dic.mp h; rfl
  | scr b => obtain ⟨a, rfl, _⟩ := rep_scr.mp h; rfl
def fIsN : D → D → Option D
  | d, .non => some (.bl (isNon d))
  | _, _ => none
def fNotN : D → D → Option D
  | d, .non => some (.bl (!isNon d))
  | _, _ => none
theorem d_isN : Op2 g (fun x y H Q => y = .non ∧ Q (.bl (decide (x = .non))) H) rD rD rD fIsN := op2_of fun x y d v u H0 H1 Hb H Q e s q q' k => by
  unfold fIsN at e
  split at e
  · cases e
    exact ⟨rep_non.mp q', k _ (rep_bl.mpr (by rw [rep_isNon q]))⟩
  · cases e
theorem d_notN : Op2 g (fun x y H Q => y = .non ∧ Q (.bl (!decide (x = .non))) H) rD rD rD fNotN := op2_of fun x y d v u H0 H1 Hb H Q e s q q' k => by
  unfold fNotN at e
  split at e
  · cases e
    exact ⟨rep_non.mp q', k _ (rep_bl.mpr (by rw [rep_isNon q]))⟩
  · cases e

/-! ### == of data -/
mutual
def toPy : D → PyData
  | .non => .none
  | .bl b => .bool b
  | .int i => .int i
  | .str s => .str s
  | .lst ds => .list (toPys ds)
  | .tup ds => .tuple (toPys ds)
  | .dic _ => .dict []
  | .scr ns => .list (ns.map .int)
def toPys : List D → List PyData
  | [] => []
  | d :: ds => toPy d :: toPys ds
end
mutual
/-- no dict stands in it -/
def flatD : D → Bool
  | .dic _ => false
  | .lst ds => flatDs ds
  | .tup ds => flatDs ds
  | _ => true
def flatDs : List D → Bool
  | [] => true
  | d :: ds => flatD d && flatDs ds
end
mutual
theorem rep_dp {K : PySem.W.Frag} {H : Hp} : ∀ {d : D} {v : V}, flatD d = true → Rep K H v d → Dp K H v (toPy d)
  | .non, _, _, h => by rw [rep_non.mp h, toPy]; exact .non
  | .bl _, _, _, h => by rw [rep_bl.mp h, toPy]; exact .bl _
  | .int _, _, _, h => by rw [rep_int.mp h, toPy]; exact .int _
  | .str _, _, _, h => by rw [rep_str.mp h, toPy]; exact .str _
  | .lst ds, _, f, h => by
    obtain ⟨a, vs, rfl, h1, h2⟩ := rep_lst.mp h
    rw [toPy]
    rw [flatD] at f
    exact .lst (SqL.of h1) (reps_dp f h2)
  | .tup ds, _, f, h => by
    obtain ⟨a, vs, rfl, h1, h2⟩ := rep_tup.mp h
    rw [toPy]
    rw [flatD] at f
    exact .tup (SqT.of h1) (reps_dp f h2)
  | .dic ks, _, f, _ => by rw [flatD] at f; cases f
  | .scr ns, _, _, h => by
    obtain ⟨a, rfl, h1⟩ := rep_scr.mp h
    rw [toPy]
    exact .lst h1 (scr_dp ns)
theorem reps_dp {K : PySem.W.Frag} {H : Hp} : ∀ {ds : List D} {vs : List V}, flatDs ds = true → Reps K H vs ds → DpAll K H vs (toPys ds)
  | [], _, _, h => by rw [reps_nil.mp h, toPys]; exact .nil
  | d :: ds, _, f, h => by
    obtain ⟨v, r, rfl, h1, h2⟩ := reps_cons.mp h
    rw [flatDs, Bool.and_eq_true] at f
    rw [toPys]
    exact .cons (rep_dp f.1 h1) (reps_dp f.2 h2)
theorem scr_dp {K : PySem.W.Frag} {H : Hp} : ∀ (ns : List Int), DpAll K H (ns.map V.int) (ns.map PyData.int)
  | [] => .nil
  | n :: ns => .cons (.int n) (scr_dp ns)
end
def okD (d : D) : Bool := flatD d && SeqAt.shaped (toPy d)
def fEq : D → D → Option D
  | .int i, .int j => some (.bl (decide (i = j)))
  | .str i, .str j => some (.bl (decide (i = j)))
  | .bl i, .bl j => some (.bl (decide (i = j)))
  | x, y => if okD x && okD y then some (.bl (PyData.eqv (toPy x) (toPy y))) else none
def notD : D → Option D
  | .bl b => some (.bl (!b))
  | _ => none
def fNe (x y : D) : Option D := (fEq x y).bind notD
def rEq2 (K : PySem.W.Frag) : R2 := fun x y H Q => rEq x y H Q ∨ rEqD K x y H Q
def rNe2 (K : PySem.W.Frag) : R2 := fun x y H Q => rNe x y H Q ∨ rNeD K x y H Q
theorem op_eq2 (hu : X.A.units + 64 < cLine) : OpR X (compareOp .Eq) (rEq2 X.K) := op_eq.or (op_eqD hu)
theorem op_ne2 (hu : X.A.units + 64 < cLine) : OpR X (compareOp .NotEq) (rNe2 X.K) := op_ne.or (op_neD hu)
theorem d_eq : Op2 g (rEq2 g.K) rD rD rD fEq := op2_of fun x y d v u H0 H1 Hb H Q e s q q' k => by
  unfold fEq at e
  split at e
  · cases e
    rw [rep_int.mp q, rep_int.mp q']
    refine .inl ⟨rfl, k _ (rep_bl.mpr ?_)⟩
    rw [dec_int, Bool.beq_eq_decide_eq]
  · cases e
    rw [rep_str.mp q, rep_str.mp q']
    refine .inl ⟨rfl, k _ (rep_bl.mpr ?_)⟩
    rw [dec_str, Bool.beq_eq_decide_eq]
  · cases e
    rw [rep_bl.mp q, rep_bl.mp q']
    refine .inl ⟨rfl, k _ (rep_bl.mpr ?_)⟩
    rw [dec_bl, Bool.beq_eq_decide_eq]
  · split at e
    · rename_i h
      cases e
      simp only [okD, Bool.and_eq_true] at h
      exact .inr ⟨_, _, rep_dp h.1.1 (Rep.same s q), rep_dp h.2.1 (Rep.same s q'), h.1.2, h.2.2, k _ (rep_bl.mpr rfl)⟩
    · cases e
theorem d_ne : Op2 g (rNe2 g.K) rD rD rD fNe := op2_of fun x y d v u H0 H1 Hb H Q e s q q' k => by
  obtain ⟨z, e1, e2⟩ := Option.bind_eq_some_iff.mp e
  unfold fEq at e1
  split at e1
  · cases e1
    cases e2
    rw [rep_int.mp q, rep_int.mp q']
    refine .inl ⟨rfl, k _ (rep_bl.mpr ?_)⟩
    rw [dec_int, Bool.beq_eq_decide_eq]
  · cases e1
    cases e2
    rw [rep_str.mp q, rep_str.mp q']
    refine .inl ⟨rfl, k _ (rep_bl.mpr ?_)⟩
    rw [dec_str, Bool.beq_eq_decide_eq]
  · cases e1
    cases e2
    rw [rep_bl.mp q, rep_bl.mp q']
    refine .inl ⟨rfl, k _ (rep_bl.mpr ?_)⟩
    rw [dec_bl, Bool.beq_eq_decide_eq]
  · split at e1
    · rename_i h
      cases e1
      cases e2
      simp only [okD, Bool.and_eq_true] at h
      exact .inr ⟨_, _, rep_dp h.1.1 (Rep.same s q), rep_dp h.2.1 (Rep.same s q'), h.1.2, h.2.2, k _ (rep_bl.mpr rfl)⟩
    · cases e1

/-! ### tests; and, or, not -/
def toB : D → Option Bool
  | .bl b => some b
  | _ => none
def bV (f : VF) : VB := fun Γ => (f Γ).bind toB
theorem toB_some {d : D} {b : Bool} (h : toB d = some b) : d = .bl b := by
  unfold toB at h
  split at h
  · cases h; rfl
  · cases h
theorem pt_v {f : VF} (h : PT X c (tB (eV g f))) : PT X c (eT g (bV f)) := PT_mono h fun σ H Q ⟨Γ, Hb, ow, d, ef, S, k⟩ => by
  obtain ⟨x, e1, e2⟩ := Option.bind_eq_some_iff.mp ef
  cases toB_some e2
  exact ⟨Γ, Hb, ow, _, e1, S, fun v Hb' H' g' r => ⟨d, rep_bl.mp r, k Hb' H' g'⟩⟩
def bNot (f : VB) : VB := fun Γ => (f Γ).bind fun b => some (!b)
def bAnd (f h : VB) : VB := fun Γ => (f Γ).bind fun b => if b = true then h Γ else some false
def bOr (f h : VB) : VB := fun Γ => (f Γ).bind fun b => if b = true then some true else h Γ
theorem pt_n {f : VB} (h : PT X c (tNot (eT g f))) : PT X c (eT g (bNot f)) := PT_mono h fun σ H Q ⟨Γ, Hb, ow, d, ef, S, k⟩ => by
  obtain ⟨x, e1, e2⟩ := Option.bind_eq_some_iff.mp ef
  cases e2
  exact ⟨Γ, Hb, ow, _, e1, S, fun Hb' H' g' => k Hb' H' g'⟩
theorem pw_a {f f' : VB} (h : PW X c (tAnd (eT g f) (eT g f'))) : PW X c (eT g (bAnd f f')) := PW_mono h fun σ H Q ⟨Γ, Hb, ow, d, ef, S, k⟩ => by
  obtain ⟨x, e1, e2⟩ := Option.bind_eq_some_iff.mp ef
  refine ⟨Γ, Hb, ow, _, e1, S, fun Hb' H' g' => ?_⟩
  cases x with
  | true => exact iteT ⟨Γ, Hb', ow, d, e2, S.grow g', fun Hb2 H2 g2 => k Hb2 H2 (g'.trans g2)⟩
  | false => cases e2; exact iteF (k Hb' H' g')
theorem pw_o {f f' : VB} (h : PW X c (tOr (eT g f) (eT g f'))) : PW X c (eT g (bOr f f')) := PW_mono h fun σ H Q ⟨Γ, Hb, ow, d, ef, S, k⟩ => by
  obtain ⟨x, e1, e2⟩ := Option.bind_eq_some_iff.mp ef
  refine ⟨Γ, Hb, ow, _, e1, S, fun Hb' H' g' => ?_⟩
  cases x with
  | false => exact iteF ⟨Γ, Hb', ow, d, e2, S.grow g', fun Hb2 H2 g2 => k Hb2 H2 (g'.trans g2)⟩
  | true => cases e2; exact iteT (k Hb' H' g')
/-- as values -/
def vAnd (f h : VF) : VF := fun Γ => (f Γ).bind fun d => match d with | .bl true => h Γ | .bl false => some (.bl false) | _ => none
def vOr (f h : VF) : VF := fun Γ => (f Γ).bind fun d => match d with | .bl true => some (.bl true) | .bl false => h Γ | _ => none
theorem ev_and {f f' : VF} (h : PE X c (tAndV (eV g f) (eV g f'))) : PE X c (eV g (vAnd f f')) := PE_mono h fun σ H Q ⟨Γ, Hb, ow, d, ef, S, k⟩ => by
  obtain ⟨x, e1, e2⟩ := Option.bind_eq_some_iff.mp ef
  refine ⟨Γ, Hb, ow, _, e1, S, fun v Hb' H' g' r => ?_⟩
  split at e2
  · exact ⟨true, rep_bl.mp r, iteT ⟨Γ, Hb', ow, d, e2, S.grow g', fun v2 Hb2 H2 g2 => k v2 Hb2 H2 (g'.trans g2)⟩⟩
  · cases e2; exact ⟨false, rep_bl.mp r, iteF (k _ Hb' H' g' (rep_bl.mpr rfl))⟩
  · cases e2
theorem ev_or {f f' : VF} (h : PE X c (tOrV (eV g f) (eV g f'))) : PE X c (eV g (vOr f f')) := PE_mono h fun σ H Q ⟨Γ, Hb, ow, d, ef, S, k⟩ => by
  obtain ⟨x, e1, e2⟩ := Option.bind_eq_some_iff.mp ef
  refine ⟨Γ, Hb, ow, _, e1, S, fun v Hb' H' g' r => ?_⟩
  split at e2
  · cases e2; exact ⟨true, rep_bl.mp r, iteT (k _ Hb' H' g' (rep_bl.mpr rfl))⟩
  · exact ⟨false, rep_bl.mp r, iteF ⟨Γ, Hb', ow, d, e2, S.grow g', fun v2 Hb2 H2 g2 => k v2 Hb2 H2 (g'.trans g2)⟩⟩
  · cases e2
theorem ev_not {f : VF} (h : PE X c (tNotV (eV g f))) : PE X c (eV g (v1 notD f)) := PE_mono h fun σ H Q ⟨Γ, Hb, ow, d, ef, S, k⟩ => by
  obtain ⟨x, e1, e2⟩ := Option.bind_eq_some_iff.mp ef
  refine ⟨Γ, Hb, ow, _, e1, S, fun v Hb' H' g' r => ?_⟩
  unfold notD at e2
  split at e2
  · cases e2; exact ⟨_, rep_bl.mp r, k _ Hb' H' g' (rep_bl.mpr rfl)⟩
  · cases e2
def vIf {α : Type} (t : VB) (f h : En → Option α) : En → Option α := fun Γ => (t Γ).bind fun b => if b = true then f Γ else h Γ
theorem ek_if {α : Type} {r : RP α} [Mono r] {t : VB} {f f' : En → Option α} (h : PE X c (tIf (eT g t) (eK g r f) (eK g r f'))) : PE X c (eK g r (vIf t f f')) := PE_mono h fun σ H Q ⟨Γ, Hb, ow, d, ef, S, k⟩ => by
  obtain ⟨x, e1, e2⟩ := Option.bind_eq_some_iff.mp ef
  refine ⟨Γ, Hb, ow, _, e1, S, fun Hb' H' g' => ?_⟩
  cases x with
  | true => exact iteT ⟨Γ, Hb', ow, d, e2, S.grow g', fun v2 Hb2 H2 g2 q => k v2 Hb2 H2 (g'.trans g2) (Mono.back (frees g'.h) q)⟩
  | false => exact iteF ⟨Γ, Hb', ow, d, e2, S.grow g', fun v2 Hb2 H2 g2 q => k v2 Hb2 H2 (g'.trans g2) (Mono.back (frees g'.h) q)⟩
/-- a < b < c -/
def vChain (F G : D → D → Option D) (f h j : VF) : VF := fun Γ => (f Γ).bind fun x => (h Γ).bind fun y => (F x y).bind fun z => match z with | .bl true => (j Γ).bind fun w => G y w | .bl false => some (.bl false) | _ => none
theorem chain_read {r r' : R2} {F G : D → D → Option D} {f h' j : VF} {σ : SS} {H : Hp} {Q : VK} (d1 : Op2 g r rD rD rD F) (d2 : Op2 g r' rD rD rD G) (h : eV g (vChain F G f h' j) σ H Q) : tChain r r' (eV g f) (eV g h') (eV g j) σ H Q := by
  obtain ⟨Γ, Hb, ow, d, ef, S, k⟩ := h
  obtain ⟨x, e1, ef⟩ := Option.bind_eq_some_iff.mp ef
  obtain ⟨y, e2, ef⟩ := Option.bind_eq_some_iff.mp ef
  obtain ⟨z, e3, ef⟩ := Option.bind_eq_some_iff.mp ef
  refine ⟨Γ, Hb, ow, x, e1, S, fun v Hb1 H1 g1 q1 => ⟨Γ, Hb1, ow, y, e2, S.grow g1, fun u Hb2 H2 g2 q2 => d1 x y z v u H H1 Hb2 H2 _ e3 g2.same (Mono.mono g2 q1) q2 fun v3 Hb3 H3 g3 q3 => ?_⟩⟩
  split at ef
  · obtain ⟨w, e4, e5⟩ := Option.bind_eq_some_iff.mp ef
    refine ⟨true, rep_bl.mp q3, iteT ⟨Γ, Hb3, ow, w, e4, (S.grow g1).grow (g2.trans g3), fun v4 Hb4 H4 g4 q4 => ?_⟩⟩
    exact d2 y w d u v4 H1 H3 Hb4 H4 Q e5 g4.same (Mono.mono (g3.trans g4) q2) q4 fun v5 Hb5 H5 g5 q5 => k v5 Hb5 H5 ((((g1.trans g2).trans g3).trans g4).trans g5) (Mono.back (frees (((g1.h.trans g2.h).trans g3.h).trans g4.h)) q5)
  · cases ef
    exact ⟨false, rep_bl.mp q3, iteF (k _ Hb3 H3 ((g1.trans g2).trans g3) (rep_bl.mpr rfl))⟩
  · cases ef
theorem ev_chain {r r' : R2} {F G : D → D → Option D} {f h' j : VF} (h : PE X c (tChain r r' (eV g f) (eV g h') (eV g j))) (d1 : Op2 g r rD rD rD F) (d2 : Op2 g r' rD rD rD G) : PE X c (eV g (vChain F G f h' j)) := PE_mono h fun σ H Q q => chain_read d1 d2 q
end
end Z

set_option maxRecDepth 100000
namespace Z
open PySem PySem.Spec PyProof.Rows L2
theorem le_line {n : Nat} (h : n ≤ 1000000) : n ≤ sizeLine := by rw [sizeLine_eq]; omega
theorem lt_line {n : Nat} (h : n ≤ 1000000) : n < sizeLine := by rw [sizeLine_eq]; omega
theorem Reps.map_inj {K : PySem.W.Frag} {H : Hp} {α : Type} {F : α → D} {G : α → V} (h : ∀ x v, Rep K H v (F x) → v = G x) : ∀ {xs : List α} {vs : List V}, Reps K H vs (xs.map F) → vs = xs.map G
  | [], _, q => reps_nil.mp q
  | x :: xs, _, q => by
    obtain ⟨v, r, rfl, h1, h2⟩ := reps_cons.mp q
    rw [h _ _ h1, Reps.map_inj h h2]; rfl

section
variable {X : Cx} {g : Glo} {c e : Expr} {es : List Expr}

/-! ### rows of expressions; displays -/
def eA (g : Glo) (f : VL) : TA := fun σ H Q => ∃ Γ Hb ow d, f Γ = some d ∧ Sat g Γ σ Hb H ow ∧ ∀ vs Hb' H', Grow Hb H Hb' H' → Reps g.K Hb' vs d → Q vs H'
def aNil : VL := fun _ => some []
def aCons (f : VF) (fs : VL) : VL := fun Γ => (f Γ).bind fun x => (fs Γ).bind fun xs => some (x :: xs)
theorem ea_nil (h : PA X es tNil) : PA X es (eA g aNil) := PA_mono h fun σ H Q ⟨Γ, Hb, ow, d, ef, S, k⟩ => by
  cases ef
  exact k [] Hb H (Grow.refl S.same) Reps.nil
theorem ea_cons {f : VF} {fs : VL} (h : PA X es (tCons (eV g f) (eA g fs))) : PA X es (eA g (aCons f fs)) := PA_mono h fun σ H Q ⟨Γ, Hb, ow, d, ef, S, k⟩ => by
  obtain ⟨x, e1, ef⟩ := Option.bind_eq_some_iff.mp ef
  obtain ⟨xs, e2, ef⟩ := Option.bind_eq_some_iff.mp ef
  cases ef
  exact ⟨Γ, Hb, ow, x, e1, S, fun v Hb1 H1 g1 q1 => ⟨Γ, Hb1, ow, xs, e2, S.grow g1, fun vs Hb2 H2 g2 q2 => k _ Hb2 H2 (g1.trans g2) (Reps.cons (Rep.same g2.hb q1) q2)⟩⟩
def fewD (ds : List D) : Bool := decide (ds.length ≤ 1000000)
def oLst (f : VL) : VS := fun Γ => (f Γ).bind fun ds => if fewD ds = true then some (.own .loc ds) else none
def vTup (f : VL) : VF := fun Γ => (f Γ).bind fun ds => if fewD ds = true then some (.tup ds) else none
theorem eo_lst {f : VL} (h : PE X c (tLst (eA g f))) : PE X c (eO g (oLst f)) := PE_mono h fun σ H Q ⟨Γ, Hb, ow, d, ef, S, k⟩ => by
  obtain ⟨x, e1, ef⟩ := Option.bind_eq_some_iff.mp ef
  split at ef
  · rename_i hf
    cases ef
    refine ⟨Γ, Hb, ow, x, e1, S, fun vs Hb1 H1 g1 q1 => ⟨by rw [q1.len]; exact le_line (of_decide_eq_true hf), fun p hp => ?_⟩⟩
    exact k _ Hb1 _ (g1.trans (Grow.own g1.same hp)) ⟨p, vs, rfl, g1.h.free hp, g1.same.free hp, upd_same, q1⟩
  · cases ef
theorem ev_tup {f : VL} (h : PE X c (tTup (eA g f))) : PE X c (eV g (vTup f)) := PE_mono h fun σ H Q ⟨Γ, Hb, ow, d, ef, S, k⟩ => by
  obtain ⟨x, e1, ef⟩ := Option.bind_eq_some_iff.mp ef
  split at ef
  · rename_i hf
    cases ef
    refine ⟨Γ, Hb, ow, x, e1, S, fun vs Hb1 H1 g1 q1 => ⟨by rw [q1.len]; exact le_line (of_decide_eq_true hf), fun p hp => ?_⟩⟩
    have g2 := Grow.put (o := .tup vs) g1.same hp
    exact k _ _ _ (g1.trans g2) (rep_tup.mpr ⟨p, vs, rfl, upd_same, q1.same g2.hb⟩)
  · cases ef

/-! ### from kind to kind -/
def slD : Sl → Option D
  | .val d => some d
  | .own _ ds => some (.lst ds)
  | .odic _ ks => some (.dic ks)
  | .net _ _ _ => none
/-- what is new is frozen -/
theorem froze {Hb H Hb1 H1 : Hp} {a : Addr} {o : HO} (g1 : Grow Hb H Hb1 H1) (h0 : H a = none) (hb : Hb1 a = none) (h1 : H1 a = some o) : Grow Hb H (upd Hb1 a o) H1 := by
  refine ⟨fun b u e => ?_, g1.h, Same.froze g1.same h1, fun b hb' => ?_⟩
  · have q := g1.hb _ _ e
    rw [upd_ne (ne_of_none q hb)]
    exact q
  · by_cases q : b = a
    · subst q; exact .inr h0
    · rw [upd_ne q] at hb'; exact g1.new b hb'
theorem same_upd {Hb : Hp} {a : Addr} {o : HO} (hb : Hb a = none) : Same Hb (upd Hb a o) := fun b u e => by
  rw [upd_ne (ne_of_none e hb)]; exact e
theorem ev_ofO {f : VS} (h : PE X c (eO g f)) : PE X c (eV g (v1 slD f)) := PE_mono h fun σ H Q ⟨Γ, Hb, ow, d, ef, S, k⟩ => by
  obtain ⟨x, e1, ef⟩ := Option.bind_eq_some_iff.mp ef
  refine ⟨Γ, Hb, ow, x, e1, S, fun v Hb1 H1 g1 q1 => ?_⟩
  cases x with
  | val d' => cases ef; exact k v Hb1 H1 g1 q1
  | own m ds =>
    cases ef
    obtain ⟨a, vs, rfl, h0, hb, h1, h2⟩ := q1
    exact k _ _ H1 (froze g1 h0 hb h1) (rep_lst.mpr ⟨a, vs, rfl, upd_same, h2.same (same_upd hb)⟩)
  | odic m ks =>
    cases ef
    obtain ⟨a, rfl, h0, hb, h1⟩ := q1
    exact k _ _ H1 (froze g1 h0 hb h1) (rep_dic.mpr ⟨a, rfl, upd_same⟩)
  | net m size ps => cases ef
def slL : Sl → Option (List D)
  | .val (.lst ds) => some ds
  | .own _ ds => some ds
  | _ => none
def dL : D → Option (List D)
  | .lst ds => some ds
  | _ => none
def dM : D → Option (List Int)
  | .dic ds => some ds
  | _ => none
theorem el_ofV {f : VF} (h : PE X c (eV g f)) : PE X c (eL g (v1 dL f)) := PE_mono h fun σ H Q ⟨Γ, Hb, ow, d, ef, S, k⟩ => by
  obtain ⟨x, e1, ef⟩ := Option.bind_eq_some_iff.mp ef
  refine ⟨Γ, Hb, ow, x, e1, S, fun v Hb1 H1 g1 q1 => ?_⟩
  unfold dL at ef
  split at ef
  · cases ef
    obtain ⟨a, vs, rfl, h1, h2⟩ := rep_lst.mp (show Rep g.K Hb1 v (.lst d) from q1)
    exact k _ Hb1 H1 g1 ⟨a, vs, rfl, g1.same _ _ h1, h2⟩
  · cases ef
theorem em_ofV {f : VF} (h : PE X c (eV g f)) : PE X c (eK g rM (v1 dM f)) := PE_mono h fun σ H Q ⟨Γ, Hb, ow, d, ef, S, k⟩ => by
  obtain ⟨x, e1, ef⟩ := Option.bind_eq_some_iff.mp ef
  refine ⟨Γ, Hb, ow, x, e1, S, fun v Hb1 H1 g1 q1 => ?_⟩
  unfold dM at ef
  split at ef
  · cases ef
    obtain ⟨a, rfl, h1⟩ := rep_dic.mp (show Rep g.K Hb1 v (.dic d) from q1)
    exact k _ Hb1 H1 g1 ⟨a, rfl, g1.same _ _ h1⟩
  · cases ef
theorem el_ofO {f : VS} (h : PE X c (eO g f)) : PE X c (eL g (v1 slL f)) := PE_mono h fun σ H Q ⟨Γ, Hb, ow, d, ef, S, k⟩ => by
  obtain ⟨x, e1, ef⟩ := Option.bind_eq_some_iff.mp ef
  refine ⟨Γ, Hb, ow, x, e1, S, fun v Hb1 H1 g1 q1 => ?_⟩
  unfold slL at ef
  split at ef
  · cases ef
    obtain ⟨a, vs, rfl, h1, h2⟩ := rep_lst.mp (show Rep g.K Hb1 v (.lst d) from q1)
    exact k _ Hb1 H1 g1 ⟨a, vs, rfl, g1.same _ _ h1, h2⟩
  · cases ef
    obtain ⟨a, vs, rfl, h0, hb, h1, h2⟩ := q1
    exact k _ Hb1 H1 g1 ⟨a, vs, rfl, h1, h2⟩
  · cases ef
def dO : D → Option Sl := fun d => some (.val d)
theorem eo_ofV {f : VF} (h : PE X c (eV g f)) : PE X c (eO g (v1 dO f)) := PE_mono h fun σ H Q ⟨Γ, Hb, ow, d, ef, S, k⟩ => by
  obtain ⟨x, e1, ef⟩ := Option.bind_eq_some_iff.mp ef
  cases ef
  exact ⟨Γ, Hb, ow, x, e1, S, fun v Hb1 H1 g1 q1 => k v Hb1 H1 g1 q1⟩

/-! ### a look at all as if it were frozen, for what is no reference -/
def scalD : D → Bool
  | .non => true
  | .bl _ => true
  | .int _ => true
  | .str _ => true
  | _ => false
theorem scal_rep {K : PySem.W.Frag} {H H' : Hp} {v : V} {d : D} (s : scalD d = true) (h : Rep K H v d) : Rep K H' v d := by
  cases d with
  | non => exact rep_non.mpr (rep_non.mp h)
  | bl b => exact rep_bl.mpr (rep_bl.mp h)
  | int b => exact rep_int.mpr (rep_int.mp h)
  | str b => exact rep_str.mpr (rep_str.mp h)
  | lst b => cases s
  | tup b => cases s
  | dic b => cases s
  | scr b => cases s
def frzS : Sl → Sl
  | .own _ ds => .val (.lst ds)
  | .odic _ ks => .val (.dic ks)
  | s => s
def frz (Γ : En) : En := Γ.map fun s => s.map frzS
/-- the frozen part with all that is owned and is no net's -/
noncomputable def frzHb (Γ : En) (ow : Addr → Option Nat) (Hb H : Hp) : Hp := fun a => match Hb a with
  | some o => some o
  | none => match ow a with
    | some i => match Γ[i]? with
      | some (some (.own _ _)) => H a
      | some (some (.odic _ _)) => H a
      | _ => none
    | none => none
theorem frz_get {Γ : En} {i : Nat} : (frz Γ)[i]? = (Γ[i]?).map fun s => s.map frzS := by simp [frz]
theorem Sat.frz {Γ : En} {σ : SS} {Hb H : Hp} {ow : Addr → Option Nat} (S : Sat g Γ σ Hb H ow) : Sat g (frz Γ) σ (frzHb Γ ow Hb H) H (fun a => match ow a with | some i => (match Γ[i]? with | some (some (.net _ _ _)) => some i | _ => none) | none => none) := by
  have sb : Same Hb (frzHb Γ ow Hb H) := fun a o e => by unfold frzHb; rw [e]
  have low : ∀ {i : Nat} {m : Md} {ds : List D}, Γ[i]? = some (some (.own m ds)) → ∀ {a : Addr}, ow a = some i → frzHb Γ ow Hb H a = H a := fun {i m ds} e {a} q => by
    unfold frzHb; rw [(S.ows a i q).1]; simp only [q, e]
  have lod : ∀ {i : Nat} {m : Md} {ds : List Int}, Γ[i]? = some (some (.odic m ds)) → ∀ {a : Addr}, ow a = some i → frzHb Γ ow Hb H a = H a := fun {i m ds} e {a} q => by
    unfold frzHb; rw [(S.ows a i q).1]; simp only [q, e]
  refine ⟨fun a o e => ?_, fun a i e => ?_, fun i s e => ?_, by rw [← S.len]; simp [Z.frz]⟩
  · unfold frzHb at e
    split at e
    · rename_i o' e'
      cases e
      exact S.same _ _ e'
    · split at e
      · split at e
        · exact e
        · exact e
        · cases e
      · cases e
  · split at e
    · rename_i j ej
      split at e
      · rename_i n1 n2 n3 en
        have e := Option.some.inj e
        subst e
        obtain ⟨h1, h2⟩ := S.ows a _ ej
        refine ⟨?_, h2⟩
        unfold frzHb
        rw [h1]
        simp only [ej, en]
      · cases e
    · cases e
  · rw [frz_get] at e
    cases q : Γ[i]? with
    | none => rw [q] at e; cases e
    | some o =>
      cases o with
      | none => rw [q] at e; cases e
      | some t =>
        rw [q] at e
        cases e
        obtain ⟨v, q1, q2⟩ := S.slots i t q
        refine ⟨v, q1, ?_⟩
        cases t with
        | val d => exact Rep.same sb q2
        | own m ds =>
          obtain ⟨a, vs, rfl, o1, h1, h2⟩ := q2
          exact rep_lst.mpr ⟨a, vs, rfl, by rw [low q o1]; exact h1, h2.same sb⟩
        | odic m ks =>
          obtain ⟨a, rfl, o1, h1⟩ := q2
          exact (rep_dic (K := g.K)).mpr ⟨a, rfl, by rw [lod q o1]; exact h1⟩
        | net m size ps =>
          obtain ⟨a, dx, l, vs, rfl, o1, o2, h1, h2, h3⟩ := q2
          refine ⟨a, dx, l, vs, rfl, ?_, ?_, h1, h2, h3.same sb⟩
          · simp only [o1, q]
          · simp only [o2, q]
def vFrz (f : VF) : VF := fun Γ => (f (frz Γ)).bind fun d => if scalD d = true then some d else none
theorem ev_frz {f : VF} (h : PE X c (eV g f)) : PE X c (eV g (vFrz f)) := PE_mono h fun σ H Q ⟨Γ, Hb, ow, d, ef, S, k⟩ => by
  obtain ⟨x, e1, ef⟩ := Option.bind_eq_some_iff.mp ef
  split at ef
  · rename_i hs
    have ef := Option.some.inj ef
    subst ef
    exact ⟨frz Γ, _, _, x, e1, S.frz, fun v Hb1 H1 g1 q1 => k v Hb H1 ⟨Same.refl _, g1.h, S.same.trans g1.h, fun a h => .inl h⟩ (scal_rep hs q1)⟩
  · cases ef
def bFrz (f : VB) : VB := fun Γ => f (frz Γ)
theorem pt_frz {f : VB} (h : PT X c (eT g f)) : PT X c (eT g (bFrz f)) := PT_mono h fun σ H Q ⟨Γ, Hb, ow, d, ef, S, k⟩ =>
  ⟨frz Γ, _, _, d, ef, S.frz, fun Hb1 H1 g1 => k Hb H1 ⟨Same.refl _, g1.h, S.same.trans g1.h, fun a h => .inl h⟩⟩

/-! ### places -/
theorem atI_rep {K : PySem.W.Frag} {H : Hp} {ds : List D} {vs : List V} {i : Int} {d : D} (h : Reps K H vs ds) (e : atI ds i = some d) : ∃ v, atI vs i = some v ∧ Rep K H v d := by
  unfold atI at e ⊢
  obtain ⟨j, e1, e2⟩ := Option.bind_eq_some_iff.mp e
  obtain ⟨v, q1, q2⟩ := h.get e2
  exact ⟨v, by rw [h.len, e1]; exact q1, q2⟩
def fIxL : List D → D → Option D
  | ds, .int i => atI ds i
  | _, _ => none
theorem d_ixL : Op2 g (rIxL g.K) rL rD rD fIxL := op2_of fun x y d v u H0 H1 Hb H Q e s q q' k => by
  unfold fIxL at e
  split at e
  · obtain ⟨a, vs, rfl, h1, h2⟩ := q
    obtain ⟨w, e1, e2⟩ := atI_rep h2 e
    exact ⟨a, vs, _, w, rfl, rep_int.mp q', SqL.of h1, e1, k _ e2⟩
  · cases e
def fIx : D → D → Option D
  | .lst ds, .int i => atI ds i
  | .tup ds, .int i => atI ds i
  | .scr ns, .int i => (atI ns i).map .int
  | .str z, .int i => if decide (z.length ≤ 1000000) = true then (atI z.cps.toList i).map fun c => .str ⟨#[c]⟩ else none
  | _, _ => none
theorem atI_map {α β : Type} (F : α → β) (xs : List α) (i : Int) : atI (xs.map F) i = (atI xs i).map F := by
  unfold atI
  rw [List.length_map]
  cases ixN xs.length i with
  | none => rfl
  | some j => simp
theorem d_ix : Op2 g (rIx g.K) rD rD rD fIx := op2_of fun x y d v u H0 H1 Hb H Q e s q q' k => by
  unfold fIx at e
  split at e
  · obtain ⟨a, vs, rfl, h1, h2⟩ := rep_lst.mp q
    obtain ⟨w, e1, e2⟩ := atI_rep h2 e
    exact .inl ⟨a, vs, _, w, rfl, rep_int.mp q', SqL.of (s _ _ h1), e1, k _ e2⟩
  · obtain ⟨a, vs, rfl, h1, h2⟩ := rep_tup.mp q
    obtain ⟨w, e1, e2⟩ := atI_rep h2 e
    exact .inr (.inl ⟨a, vs, _, w, rfl, rep_int.mp q', SqT.of (s _ _ h1), e1, k _ e2⟩)
  · obtain ⟨a, rfl, h1⟩ := rep_scr.mp q
    obtain ⟨n, e1, rfl⟩ := Option.map_eq_some_iff.mp e
    exact .inl ⟨a, _, _, .int n, rfl, rep_int.mp q', s.seq h1, by rw [atI_map, e1]; rfl, k _ (rep_int.mpr rfl)⟩
  · split at e
    · rename_i hz
      obtain ⟨n, e1, rfl⟩ := Option.map_eq_some_iff.mp e
      exact .inr (.inr ⟨_, _, n, rep_str.mp q, rep_int.mp q', le_line (of_decide_eq_true hz), e1, k _ (rep_str.mpr rfl)⟩)
    · cases e
  · cases e

/-! ### in -/
def eqF : D → D → Bool
  | .non, .non => true
  | .bl a, .bl b => a == b
  | .bl a, .int b => (if a then 1 else 0) == b
  | .int a, .bl b => a == (if b then 1 else 0)
  | .int a, .int b => a == b
  | .str a, .str b => a == b
  | _, _ => false
theorem scal_flat {K : PySem.W.Frag} {H : Hp} {v : V} {d : D} (s : scalD d = true) (h : Rep K H v d) : flatV v = true := by
  cases d with
  | non => rw [rep_non.mp h]; rfl
  | bl b => rw [rep_bl.mp h]; rfl
  | int b => rw [rep_int.mp h]; rfl
  | str b => rw [rep_str.mp h]; rfl
  | _ => cases s
theorem eqF_rep {K K' : PySem.W.Frag} {H H' : Hp} {v u : V} {d x : D} (s : scalD d = true) (s' : scalD x = true) (h : Rep K H v d) (h' : Rep K' H' u x) : eqV v u = eqF d x := by
  cases d with
  | non =>
    rw [rep_non.mp h]
    cases x with
    | non => rw [rep_non.mp h']; rfl
    | bl b => rw [rep_bl.mp h']; rfl
    | int b => rw [rep_int.mp h']; rfl
    | str b => rw [rep_str.mp h']; rfl
    | _ => cases s'
  | bl a =>
    rw [rep_bl.mp h]
    cases x with
    | non => rw [rep_non.mp h']; rfl
    | bl b => rw [rep_bl.mp h']; rfl
    | int b => rw [rep_int.mp h']; rfl
    | str b => rw [rep_str.mp h']; rfl
    | _ => cases s'
  | int a =>
    rw [rep_int.mp h]
    cases x with
    | non => rw [rep_non.mp h']; rfl
    | bl b => rw [rep_bl.mp h']; rfl
    | int b => rw [rep_int.mp h']; rfl
    | str b => rw [rep_str.mp h']; rfl
    | _ => cases s'
  | str a =>
    rw [rep_str.mp h]
    cases x with
    | non => rw [rep_non.mp h']; rfl
    | bl b => rw [rep_bl.mp h']; rfl
    | int b => rw [rep_int.mp h']; rfl
    | str b => rw [rep_str.mp h']; rfl
    | _ => cases s'
  | _ => cases s
theorem flat_reps {K : PySem.W.Frag} {H : Hp} : ∀ {ds : List D} {vs : List V}, ds.all scalD = true → Reps K H vs ds → vs.all flatV = true
  | [], _, _, h => by rw [reps_nil.mp h]; rfl
  | d :: ds, _, f, h => by
    obtain ⟨v, r, rfl, h1, h2⟩ := reps_cons.mp h
    rw [List.all_cons, Bool.and_eq_true] at f ⊢
    exact ⟨scal_flat f.1 h1, flat_reps f.2 h2⟩
theorem inV_rep {K K' : PySem.W.Frag} {H H' : Hp} {x : D} {u : V} (s : scalD x = true) (hu : Rep K' H' u x) : ∀ {ds : List D} {vs : List V}, ds.all scalD = true → Reps K H vs ds → inV u vs = ds.any fun y => eqF y x
  | [], _, _, h => by rw [reps_nil.mp h]; rfl
  | d :: ds, _, f, h => by
    obtain ⟨v, r, rfl, h1, h2⟩ := reps_cons.mp h
    rw [List.all_cons, Bool.and_eq_true] at f
    have ih := inV_rep s hu f.2 h2
    unfold inV at ih ⊢
    rw [List.any_cons, List.any_cons, eqF_rep f.1 s h1 hu, ih]
def inD (x : D) (ds : List D) : Option Bool := if scalD x && ds.all scalD then some (ds.any fun y => eqF y x) else none
def fIn (neg : Bool) (x : D) (ds : List D) : Option D := (inD x ds).map fun b => .bl (if neg = true then !b else b)
theorem d_inL (neg : Bool) : Op2 g (rIn g.K neg) rD rL rD (fIn neg) := op2_of fun x y d v u H0 H1 Hb H Q e s q q' k => by
  obtain ⟨b, e1, rfl⟩ := Option.map_eq_some_iff.mp e
  unfold inD at e1
  split at e1
  · rename_i hs
    cases e1
    rw [Bool.and_eq_true] at hs
    obtain ⟨a, vs, rfl, h1, h2⟩ := q'
    refine ⟨a, vs, rfl, .inl (SqL.of h1), scal_flat hs.1 q, flat_reps hs.2 h2, ?_⟩
    rw [inV_rep hs.1 q hs.2 h2]
    exact k _ (rep_bl.mpr rfl)
  · cases e1
/-- x in a tuple -/
def dT : D → Option (List D)
  | .tup ds => some ds
  | _ => none
def fInT (neg : Bool) (x y : D) : Option D := (dT y).bind fun ds => fIn neg x ds
theorem d_inT (neg : Bool) : Op2 g (rIn g.K neg) rD rD rD (fInT neg) := op2_of fun x y d v u H0 H1 Hb H Q e s q q' k => by
  obtain ⟨ds, e0, e⟩ := Option.bind_eq_some_iff.mp e
  unfold dT at e0
  split at e0
  · cases e0
    obtain ⟨b, e1, rfl⟩ := Option.map_eq_some_iff.mp e
    unfold inD at e1
    split at e1
    · rename_i hs
      cases e1
      rw [Bool.and_eq_true] at hs
      obtain ⟨a, vs, rfl, h1, h2⟩ := rep_tup.mp q'
      refine ⟨a, vs, rfl, .inr (SqT.of (s _ _ h1)), scal_flat hs.1 q, flat_reps hs.2 h2, ?_⟩
      rw [inV_rep hs.1 q hs.2 h2]
      exact k _ (rep_bl.mpr rfl)
    · cases e1
  · cases e0

/-! ### dicts -/
theorem val_dk (n : Int) : ∀ ks : List Int, valV (dk ks) (Sum.inl n) = if n ∈ ks then some (V.bl true) else none
  | [] => rfl
  | k :: ks => by
    show valV ((Sum.inl k, V.bl true) :: dk ks) (Sum.inl n) = _
    by_cases e : k = n
    · subst e
      rw [valV_pos rfl]
      simp
    · rw [valV_neg (fun q => e (Sum.inl.inj q)), val_dk n ks]
      have e' : ¬ n = k := fun q => e q.symm
      simp [e']
def fInM (neg : Bool) : D → List Int → Option D
  | .int n, ks => some (.bl (if neg = true then !decide (n ∈ ks) else decide (n ∈ ks)))
  | _, _ => none
def rDIn (neg : Bool) : R2 := fun y x H Q => ∃ a o, x = .ref a ∧ DGet H a y o ∧ Q (.bl (if neg = true then !o.isSome else o.isSome)) H
theorem d_inM (neg : Bool) : Op2 g (rDIn neg) rD rM rD (fInM neg) := op2_of fun x y d v u H0 H1 Hb H Q e s q q' k => by
  unfold fInM at e
  split at e
  · rename_i ks n
    cases e
    obtain ⟨a, rfl, h1⟩ := q'
    refine ⟨a, _, rfl, by rw [rep_int.mp q]; exact DGet.k (k := Sum.inl n) h1, ?_⟩
    refine k _ ?_
    have e2 : (valV (dk y) (Sum.inl n)).isSome = decide (n ∈ y) := by
      rw [val_dk]
      by_cases hm : n ∈ y
      · rw [if_pos hm, decide_eq_true hm]; rfl
      · rw [if_neg hm, decide_eq_false hm]; rfl
    rw [e2]
    exact rep_bl.mpr rfl
  · cases e
theorem to_din {ty td : TE} (h : PE X c (tDIn ty td)) : PE X c (tOp (rDIn false) ty td) := PE_mono h fun σ H Q q => q
theorem to_dnotin {ty td : TE} (h : PE X c (tDNotIn ty td)) : PE X c (tOp (rDIn true) ty td) := PE_mono h fun σ H Q q => q

/-! ### calls of built-ins -/
def C1 (r : List V → Hp → VK → Prop) : V → Hp → VK → Prop := fun v H Q => r [v] H Q
theorem to_1 {r : List V → Hp → VK → Prop} {te : TE} (h : PE X c (tCB r (tCons te tNil))) : PE X c (tUn (C1 r) te) := PE_mono h fun σ H Q q => q
def C2 (r : List V → Hp → VK → Prop) : R2 := fun v u H Q => r [v, u] H Q
theorem to_2 {r : List V → Hp → VK → Prop} {te tu : TE} (h : PE X c (tCB r (tCons te (tCons tu tNil)))) : PE X c (tOp (C2 r) te tu) := PE_mono h fun σ H Q q => q
def fLenL (ds : List D) : Option D := some (.int ds.length)
def rLen (K : PySem.W.Frag) : List V → Hp → VK → Prop := fun xs H Q => ∃ x n, xs = [x] ∧ LenV K x H n ∧ Q (.int n) H
theorem d_lenL : Op1 g (C1 (rLen g.K)) rL rD fLenL := op1_of fun x d v H0 Hb H Q e s q k => by
  cases e
  obtain ⟨a, vs, rfl, h1, h2⟩ := q
  refine ⟨_, x.length, rfl, .inl ⟨vs, SqL.of h1, h2.len.symm⟩, k _ (rep_int.mpr rfl)⟩
def fLen : D → Option D
  | .lst ds => some (.int ds.length)
  | .tup ds => some (.int ds.length)
  | .scr ns => some (.int ns.length)
  | .str z => if decide (z.length ≤ 1000000) = true then some (.int z.length) else none
  | _ => none
theorem d_len : Op1 g (C1 (rLen g.K)) rD rD fLen := op1_of fun x d v H0 Hb H Q e s q k => by
  unfold fLen at e
  split at e
  · cases e
    obtain ⟨a, vs, rfl, h1, h2⟩ := rep_lst.mp q
    refine ⟨_, _, rfl, .inl ⟨vs, SqL.of (s _ _ h1), h2.len.symm⟩, k _ (rep_int.mpr rfl)⟩
  · cases e
    obtain ⟨a, vs, rfl, h1, h2⟩ := rep_tup.mp q
    refine ⟨_, _, rfl, .inr ⟨vs, SqT.of (s _ _ h1), h2.len.symm⟩, k _ (rep_int.mpr rfl)⟩
  · rename_i ns
    cases e
    obtain ⟨a, rfl, h1⟩ := rep_scr.mp q
    exact ⟨_, ns.length, rfl, .inl ⟨_, s.seq h1, (List.length_map ..).symm⟩, k _ (rep_int.mpr rfl)⟩
  · split at e
    · rename_i hz
      cases e
      exact ⟨v, _, rfl, by rw [rep_str.mp q]; exact ⟨le_line (of_decide_eq_true hz), rfl⟩, k _ (rep_int.mpr rfl)⟩
    · cases e
  · cases e
def rLenD : List V → Hp → VK → Prop := fun xs H Q => ∃ a kvs, xs = [V.ref a] ∧ H a = some (.dK kvs) ∧ Q (.int kvs.length) H
def fLenM (ks : List Int) : Option D := some (.int ks.length)
theorem d_lenM : Op1 g (C1 rLenD) rM rD fLenM := op1_of fun x d v H0 Hb H Q e s q k => by
  cases e
  obtain ⟨a, rfl, h1⟩ := q
  exact ⟨a, _, rfl, h1, k _ (rep_int.mpr (by simp [dk]))⟩
def fMin := i2 tt2 fun i j => .int (if j < i then j else i)
def fMax := i2 tt2 fun i j => .int (if j > i then j else i)
theorem d_min2 : Op2 g (C2 fun xs H Q => ∃ i j, xs = [.int i, .int j] ∧ Q (.int (if j < i then j else i)) H) rD rD rD fMin := op2_i (fun i j H Q _ q => ⟨i, j, rfl, q⟩) fun _ _ _ _ => rep_int.mpr rfl
theorem d_max2 : Op2 g (C2 fun xs H Q => ∃ i j, xs = [.int i, .int j] ∧ Q (.int (if j > i then j else i)) H) rD rD rD fMax := op2_i (fun i j H Q _ q => ⟨i, j, rfl, q⟩) fun _ _ _ _ => rep_int.mpr rfl
/-- int(a bool) -/
def fIntB : D → Option D
  | .bl b => some (.int (if b = true then 1 else 0))
  | .int i => some (.int i)
  | _ => none
theorem d_int1 : Op1 g (C1 fun xs H Q => (∃ i, xs = [.int i] ∧ Q (.int i) H) ∨ ∃ k, xs = [.bl k] ∧ Q (.int (if k then 1 else 0)) H) rD rD fIntB := op1_of fun x d v H0 Hb H Q e s q k => by
  unfold fIntB at e
  split at e
  · cases e
    exact .inr ⟨_, by rw [rep_bl.mp q], k _ (rep_int.mpr rfl)⟩
  · cases e
    exact .inl ⟨_, by rw [rep_int.mp q], k _ (rep_int.mpr rfl)⟩
  · cases e

/-! ### lists from lists -/
def oList (ds : List D) : Option Sl := if fewD ds = true then some (.own .loc ds) else none
/-- a new list is laid -/
theorem new_lst {Hb H : Hp} {p : Addr} {vs : List V} {ds : List D} {Q : VK} (s : Same Hb H) (hp : H p = none) (r : Reps g.K Hb vs ds) (k : ∀ v' Hb' H', Grow Hb H Hb' H' → rO g H Hb' H' v' (.own .loc ds) → Q v' H') : Q (.ref p) (upd H p (.lst vs)) :=
  k _ Hb _ (Grow.own s hp) ⟨p, vs, rfl, hp, s.free hp, upd_same, r⟩
def rListOf (K : PySem.W.Frag) : List V → Hp → VK → Prop := fun xs H Q => ∃ p ys, xs = [.ref p] ∧ (SqL K H p ys ∨ SqT K H p ys) ∧ ∀ l, H l = none → Q (.ref l) (upd H l (.lst ys))
def fList (ds : List D) : Option Sl := some (.own .loc ds)
theorem d_list : Op1 g (C1 (rListOf g.K)) rL rO fList := fun x d v H0 Hb H Q e s q k => by
  cases e
  obtain ⟨a, vs, rfl, h1, h2⟩ := q
  exact ⟨a, vs, rfl, .inl (SqL.of h1), fun l hl => new_lst s hl h2 k⟩
def fCat (ds es : List D) : Option Sl := if decide (ds.length + es.length ≤ 1000000) = true then some (.own .loc (ds ++ es)) else none
theorem d_cat : Op2 g rCat rL rL rO fCat := fun x y d v u H0 H1 Hb H Q e s q q' k => by
  unfold fCat at e
  split at e
  · rename_i hf
    cases e
    obtain ⟨a, vs, rfl, h1, h2⟩ := q
    obtain ⟨b, us, rfl, h3, h4⟩ := q'
    exact ⟨a, b, vs, us, rfl, rfl, h1, h3, by rw [h2.len, h4.len]; exact le_line (of_decide_eq_true hf), fun p hp => new_lst s hp (h2.append h4) k⟩
  · cases e
/-- the whole numbers of a list -/
def toI : D → Option Int
  | .int i => some i
  | _ => none
def toIs : List D → Option (List Int)
  | [] => some []
  | d :: ds => (toI d).bind fun i => (toIs ds).bind fun is => some (i :: is)
theorem toIs_some : ∀ {ds : List D} {ns : List Int}, toIs ds = some ns → ds = ns.map .int
  | [], _, h => by cases h; rfl
  | d :: ds, _, h => by
    obtain ⟨i, e1, h⟩ := Option.bind_eq_some_iff.mp h
    obtain ⟨is, e2, h⟩ := Option.bind_eq_some_iff.mp h
    cases h
    rw [toIs_some e2]
    unfold toI at e1
    split at e1
    · cases e1; rfl
    · cases e1
theorem toIs_map (ns : List Int) : toIs (ns.map .int) = some ns := by
  induction ns with
  | nil => rfl
  | cons n ns ih => simp [toIs, toI, ih]
/-- sorted -/
def srt (ns : List Int) : List Int := ns.mergeSort (fun a b => decide (a ≤ b))
theorem srt_perm (ns : List Int) : (srt ns).Perm ns := List.mergeSort_perm _ _
theorem srt_pairwise (ns : List Int) : (srt ns).Pairwise (· ≤ ·) := by
  have h := List.pairwise_mergeSort (le := fun (a b : Int) => decide (a ≤ b)) (fun a b c h1 h2 => by simp at *; omega) (fun a b => by simp; omega) ns
  exact h.imp fun h => by simpa using h
theorem perm_sorted_eq : ∀ {as bs : List Int}, as.Perm bs → as.Pairwise (· ≤ ·) → bs.Pairwise (· ≤ ·) → as = bs := fun {as bs} p h1 h2 =>
  p.eq_of_pairwise (le := fun (a b : Int) => a ≤ b) (fun a b _ _ q1 q2 => Int.le_antisymm q1 q2) h1 h2
theorem srt_eq {ns ns' : List Int} (p : ns'.Perm ns) (h : ns'.Pairwise (· ≤ ·)) : ns' = srt ns := perm_sorted_eq (p.trans (srt_perm ns).symm) h (srt_pairwise ns)
def fSorted (ds : List D) : Option Sl := (toIs ds).map fun ns => .own .loc ((srt ns).map .int)
theorem d_sorted : Op1 g (C1 (rSortedI g.K)) rL rO fSorted := fun x d v H0 Hb H Q e s q k => by
  obtain ⟨ns, e1, rfl⟩ := Option.map_eq_some_iff.mp e
  obtain ⟨a, vs, rfl, h1, h2⟩ := q
  cases toIs_some e1
  cases Reps.ints h2
  exact ⟨a, ns, rfl, SqL.of h1, fun ns' p pm so hp => by rw [srt_eq pm so]; exact new_lst s hp (Reps.of_ints _) k⟩
/-- min of a list -/
def minOf : List Int → Int
  | [] => 0
  | n :: ns => ns.foldl (fun a b => if b < a then b else a) n
theorem min_fold : ∀ (ns : List Int) (n : Int), (∀ y ∈ ns, ns.foldl (fun a b => if b < a then b else a) n ≤ y) ∧ ns.foldl (fun a b => if b < a then b else a) n ≤ n ∧ (ns.foldl (fun a b => if b < a then b else a) n = n ∨ ns.foldl (fun a b => if b < a then b else a) n ∈ ns)
  | [], n => ⟨fun y h => (nomatch h), Int.le_refl _, Or.inl rfl⟩
  | m :: ns, n => by
    obtain ⟨h1, h2, h3⟩ := min_fold ns (if m < n then m else n)
    rw [List.foldl_cons]
    refine ⟨fun y hy => ?_, ?_, ?_⟩
    · rcases List.mem_cons.mp hy with rfl | hy
      · refine Int.le_trans h2 ?_
        split <;> omega
      · exact h1 y hy
    · refine Int.le_trans h2 ?_
      split <;> omega
    · rcases h3 with h3 | h3
      · rw [h3]
        split
        · exact .inr (by simp)
        · exact .inl rfl
      · exact .inr (List.mem_cons_of_mem _ h3)
theorem minOf_mem {ns : List Int} (h : ns ≠ []) : minOf ns ∈ ns ∧ ∀ y ∈ ns, minOf ns ≤ y := by
  cases ns with
  | nil => exact absurd rfl h
  | cons n ns =>
    obtain ⟨h1, h2, h3⟩ := min_fold ns n
    refine ⟨?_, fun y hy => ?_⟩
    · show ns.foldl _ n ∈ _
      rcases h3 with h3 | h3
      · rw [h3]; simp
      · exact List.mem_cons_of_mem _ h3
    · rcases List.mem_cons.mp hy with rfl | hy
      · exact h2
      · exact h1 y hy
def fMinL (ds : List D) : Option D := (toIs ds).bind fun ns => if ns = [] then none else some (.int (minOf ns))
theorem d_minL : Op1 g (C1 (rMin g.K)) rL rD fMinL := op1_of fun x d v H0 Hb H Q e s q k => by
  obtain ⟨ns, e1, e⟩ := Option.bind_eq_some_iff.mp e
  split at e
  · cases e
  · rename_i hne
    cases e
    obtain ⟨a, vs, rfl, h1, h2⟩ := q
    cases toIs_some e1
    cases Reps.ints h2
    refine ⟨a, ns, rfl, SqL.of h1, List.length_pos_iff.mpr hne, fun m hm hl => k _ (rep_int.mpr ?_)⟩
    obtain ⟨z1, z2⟩ := minOf_mem hne
    have : m = minOf ns := Int.le_antisymm (hl _ z1) (z2 _ hm)
    rw [this]
/-- len(set(xs)), no number twice -/
def fLenSet (ds : List D) : Option D := (toIs ds).bind fun ns => if decide (ns.Nodup ∧ ns.length ≤ 4000) = true then some (.int ns.length) else none
def rLenSet (K : PySem.W.Frag) : V → Hp → VK → Prop := fun x H Q => ∃ (l : Addr) (ns : List Int), x = .ref l ∧ SqL K H l (ns.map V.int) ∧ ns.Nodup ∧ ns.length ≤ 4000 ∧ Q (.int (ns.length : Nat)) H
theorem to_lenSet {K : PySem.W.Frag} {te : TE} (h : PE X c (RZ.tLenSetI K te)) : PE X c (tUn (rLenSet K) te) := PE_mono h fun σ H Q q => q
theorem d_lenSet : Op1 g (rLenSet g.K) rL rD fLenSet := op1_of fun x d v H0 Hb H Q e s q k => by
  obtain ⟨ns, e1, e⟩ := Option.bind_eq_some_iff.mp e
  split at e
  · rename_i hn
    cases e
    have hn := of_decide_eq_true hn
    obtain ⟨a, vs, rfl, h1, h2⟩ := q
    cases toIs_some e1
    cases Reps.ints h2
    exact ⟨a, ns, rfl, SqL.of h1, hn.1, hn.2, k _ (rep_int.mpr rfl)⟩
  · cases e
/-- a copy of a dict -/
theorem call_dictD : CallR X (.type "dict") (fun xs H Q => ∃ a kvs, xs = [V.ref a] ∧ H a = some (.dK kvs) ∧ ∀ p, H p = none → Q (.ref p) (upd H p (.dK kvs))) := by
  intro pins s σ H xs us Q I r h
  obtain ⟨a, kvs, rfl, ha, q⟩ := h
  cases Vals.ref1 r
  exact d_copyOf I (.inl ha) fun p s' hp I' => ⟨.ref p, _, I', rfl, q p hp⟩
def rDictOf : List V → Hp → VK → Prop := fun xs H Q => ∃ a kvs, xs = [V.ref a] ∧ H a = some (.dK kvs) ∧ ∀ p, H p = none → Q (.ref p) (upd H p (.dK kvs))
def fDict (ks : List Int) : Option Sl := some (.odic .loc ks)
theorem d_dict : Op1 g (C1 rDictOf) rM rO fDict := fun x d v H0 Hb H Q e s q k => by
  cases e
  obtain ⟨a, rfl, h1⟩ := q
  exact ⟨a, _, rfl, h1, fun p hp => k _ Hb _ (Grow.own s hp) ⟨p, rfl, hp, s.free hp, upd_same⟩⟩
/-- {} -/
def oDic0 : VS := fun _ => some (.odic .loc [])
theorem eo_dic0 (h : PE X c tDNewK) : PE X c (eO g oDic0) := PE_mono h fun σ H Q ⟨Γ, Hb, ow, d, ef, S, k⟩ => by
  cases ef
  exact fun p hp => k _ Hb _ (Grow.own S.same hp) ⟨p, rfl, hp, S.same.free hp, upd_same⟩

/-! ### slices -/
def oN (g : Glo) (f : En → Option (Option Int)) : TO := fun σ H Q => ∃ Γ Hb ow x, f Γ = some x ∧ Sat g Γ σ Hb H ow ∧ ∀ Hb' H', Grow Hb H Hb' H' → Q x H'
theorem PO_mono {oe : Option Expr} {t t' : TO} (h : PO X oe t) (m : ∀ σ H Q, t' σ H Q → t σ H Q) : PO X oe t' := ⟨fun pins s σ H Q I hw => h.run pins s σ H Q I (m σ H Q hw)⟩
def pN : En → Option (Option Int) := fun _ => some none
def pI (f : VF) : En → Option (Option Int) := fun Γ => (f Γ).bind fun d => (toI d).map some
theorem po_n {oe : Option Expr} (h : PO X oe tNoPart) : PO X oe (oN g pN) := PO_mono h fun σ H Q ⟨Γ, Hb, ow, x, ef, S, k⟩ => by
  cases ef
  exact k Hb H (Grow.refl S.same)
theorem toI_some {d : D} {i : Int} (h : toI d = some i) : d = .int i := by
  unfold toI at h
  split at h
  · cases h; rfl
  · cases h
theorem po_i {oe : Option Expr} {f : VF} (h : PO X oe (tPart (eV g f))) : PO X oe (oN g (pI f)) := PO_mono h fun σ H Q ⟨Γ, Hb, ow, x, ef, S, k⟩ => by
  obtain ⟨d, e1, e2⟩ := Option.bind_eq_some_iff.mp ef
  obtain ⟨i, e3, rfl⟩ := Option.map_eq_some_iff.mp e2
  cases toI_some e3
  exact ⟨Γ, Hb, ow, _, e1, S, fun v Hb1 H1 g1 q1 => ⟨i, rep_int.mp q1, k Hb1 H1 g1⟩⟩
def cutD {α : Type} (xs : List α) (lo hi : Option Int) : List α := (xs.drop (HT.sIx xs.length 0 lo)).take (HT.sIx xs.length xs.length hi - HT.sIx xs.length 0 lo)
theorem cutD_reps {K : PySem.W.Frag} {H : Hp} {vs : List V} {ds : List D} (h : Reps K H vs ds) (lo hi : Option Int) : Reps K H (cutV vs lo hi) (cutD ds lo hi) := by
  unfold cutV cutD
  rw [h.len]
  exact (h.drop _).take _
def vCut {α : Type} (F : α → Option Int → Option Int → Option Sl) (f : En → Option α) (a b : En → Option (Option Int)) : VS := fun Γ => (f Γ).bind fun x => (a Γ).bind fun i => (b Γ).bind fun j => F x i j
def cutL (ds : List D) (lo hi : Option Int) : Option Sl := some (.own .loc (cutD ds lo hi))
theorem eo_cut {f : VL} {a b : En → Option (Option Int)} (h : PE X c (tSl (rSlL g.K) (eL g f) (oN g a) (oN g b))) : PE X c (eO g (vCut cutL f a b)) := PE_mono h fun σ H Q ⟨Γ, Hb, ow, x, ef, S, k⟩ => by
  obtain ⟨ds, e1, ef⟩ := Option.bind_eq_some_iff.mp ef
  obtain ⟨i, e2, ef⟩ := Option.bind_eq_some_iff.mp ef
  obtain ⟨j, e3, ef⟩ := Option.bind_eq_some_iff.mp ef
  cases ef
  refine ⟨Γ, Hb, ow, ds, e1, S, fun v Hb1 H1 g1 q1 => ⟨Γ, Hb1, ow, i, e2, S.grow g1, fun Hb2 H2 g2 => ⟨Γ, Hb2, ow, j, e3, (S.grow g1).grow g2, fun Hb3 H3 g3 => ?_⟩⟩⟩
  obtain ⟨l, vs, rfl, h1, h2⟩ := Mono.mono (r := rL) (g2.trans g3) q1
  refine ⟨l, vs, rfl, SqL.of h1, fun p hp => ?_⟩
  exact k _ Hb3 _ (((g1.trans g2).trans g3).trans (Grow.own g3.same hp)) ⟨p, _, rfl, ((g1.h.trans g2.h).trans g3.h).free hp, g3.same.free hp, upd_same, cutD_reps h2 _ _⟩
/-- a slice of the script -/
def cutS' (d : D) (lo hi : Option Int) : Option Sl := match d with
  | .scr ns => some (.own .loc ((cutD ns lo hi).map .int))
  | _ => none
theorem cut_map {α β : Type} (F : α → β) (xs : List α) (lo hi : Option Int) : cutD (xs.map F) lo hi = (cutD xs lo hi).map F := by
  unfold cutD
  rw [List.length_map, List.map_take, List.map_drop]
theorem eo_cutS {f : VF} {a b : En → Option (Option Int)} (h : PE X c (tSl (rSlL g.K) (eV g f) (oN g a) (oN g b))) : PE X c (eO g (vCut cutS' f a b)) := PE_mono h fun σ H Q ⟨Γ, Hb, ow, x, ef, S, k⟩ => by
  obtain ⟨ds, e1, ef⟩ := Option.bind_eq_some_iff.mp ef
  obtain ⟨i, e2, ef⟩ := Option.bind_eq_some_iff.mp ef
  obtain ⟨j, e3, ef⟩ := Option.bind_eq_some_iff.mp ef
  refine ⟨Γ, Hb, ow, ds, e1, S, fun v Hb1 H1 g1 q1 => ⟨Γ, Hb1, ow, i, e2, S.grow g1, fun Hb2 H2 g2 => ⟨Γ, Hb2, ow, j, e3, (S.grow g1).grow g2, fun Hb3 H3 g3 => ?_⟩⟩⟩
  cases ds with
  | scr ns =>
    cases ef
    obtain ⟨l, rfl, h1⟩ := rep_scr.mp q1
    refine ⟨l, _, rfl, ((g1.same.trans g2.h).trans g3.h).seq h1, fun p hp => ?_⟩
    refine k _ Hb3 _ (((g1.trans g2).trans g3).trans (Grow.own g3.same hp)) ⟨p, _, rfl, ((g1.h.trans g2.h).trans g3.h).free hp, g3.same.free hp, upd_same, ?_⟩
    show Reps g.K Hb3 (cutV (ns.map V.int) i j) _
    rw [show cutV (ns.map V.int) i j = cutD (ns.map V.int) i j from rfl, cut_map]
    exact Reps.of_ints _
  | _ => cases ef
end
end Z

set_option maxRecDepth 100000
namespace Z
open PySem PySem.Spec PyProof.Rows L2
section
variable {X : Cx} {g : Glo} {c e : Expr} {es : List Expr}

/-! ### arguments: data, or a slot that is handed on -/
inductive Ar where
  | v (d : D)
  | s (i : Nat)
abbrev VA := En → Option (List Ar)
def ArOk (K : PySem.W.Frag) (Hb : Hp) (σ : SS) (v : V) : Ar → Prop
  | .v d => Rep K Hb v d
  | .s i => σ[i]? = some (some v)
def ArsOk (K : PySem.W.Frag) (Hb : Hp) (σ : SS) (vs : List V) : List Ar → Prop
  | [] => vs = []
  | a :: as => ∃ v r, vs = v :: r ∧ ArOk K Hb σ v a ∧ ArsOk K Hb σ r as
def eAr (g : Glo) (f : VA) : TA := fun σ H Q => ∃ Γ Hb ow as, f Γ = some as ∧ Sat g Γ σ Hb H ow ∧ ∀ vs Hb' H', Grow Hb H Hb' H' → ArsOk g.K Hb' σ vs as → Q vs H'
def rNil : VA := fun _ => some []
def rV (f : VF) (fs : VA) : VA := fun Γ => (f Γ).bind fun x => (fs Γ).bind fun xs => some (.v x :: xs)
def rS (i : Nat) (fs : VA) : VA := fun Γ => (fs Γ).bind fun xs => match Γ[i]? with | some (some _) => some (.s i :: xs) | _ => none
theorem ear_nil (h : PA X es tNil) : PA X es (eAr g rNil) := PA_mono h fun σ H Q ⟨Γ, Hb, ow, d, ef, S, k⟩ => by
  cases ef
  exact k [] Hb H (Grow.refl S.same) rfl
theorem ear_v {f : VF} {fs : VA} (h : PA X es (tCons (eV g f) (eAr g fs))) : PA X es (eAr g (rV f fs)) := PA_mono h fun σ H Q ⟨Γ, Hb, ow, d, ef, S, k⟩ => by
  obtain ⟨x, e1, ef⟩ := Option.bind_eq_some_iff.mp ef
  obtain ⟨xs, e2, ef⟩ := Option.bind_eq_some_iff.mp ef
  cases ef
  exact ⟨Γ, Hb, ow, x, e1, S, fun v Hb1 H1 g1 q1 => ⟨Γ, Hb1, ow, xs, e2, S.grow g1, fun vs Hb2 H2 g2 q2 => k _ Hb2 H2 (g1.trans g2) ⟨v, vs, rfl, Rep.same g2.hb q1, q2⟩⟩⟩
theorem ear_s {i : Nat} {fs : VA} (h : PA X es (tCons (tVar i) (eAr g fs))) : PA X es (eAr g (rS i fs)) := PA_mono h fun σ H Q ⟨Γ, Hb, ow, d, ef, S, k⟩ => by
  obtain ⟨xs, e2, ef⟩ := Option.bind_eq_some_iff.mp ef
  split at ef
  · rename_i s e1
    cases ef
    obtain ⟨v, q1, q2⟩ := S.slots _ _ e1
    exact ⟨v, q1, Γ, Hb, ow, xs, e2, S, fun vs Hb2 H2 g2 q2 => k _ Hb2 H2 g2 ⟨v, vs, rfl, q1, q2⟩⟩
  · cases ef
def roS : Sl → Sl
  | .val d => .val d
  | .own _ ds => .own .ro ds
  | .odic _ ks => .odic .ro ks
  | .net _ size ps => .net .ro size ps
def arSl (Γ : En) : Ar → Option Sl
  | .v d => some (.val d)
  | .s i => match Γ[i]? with
    | some (some s) => some (roS s)
    | _ => none
theorem arSl_s {Γ : En} {i : Nat} {s : Sl} (h : arSl Γ (.s i) = some s) : ∃ s0, Γ[i]? = some (some s0) ∧ s = roS s0 := by
  simp only [arSl] at h
  split at h
  · exact ⟨_, by assumption, (Option.some.inj h).symm⟩
  · cases h
def arSls (Γ : En) : List Ar → Option (List Sl)
  | [] => some []
  | a :: as => (arSl Γ a).bind fun s => (arSls Γ as).bind fun ss => some (s :: ss)
/-- where the slot i is handed on -/
def ixA : List Ar → Nat → Option Nat
  | [], _ => none
  | .v _ :: as, i => (ixA as i).map (· + 1)
  | .s j :: as, i => if j = i then some 0 else (ixA as i).map (· + 1)
/-- no slot twice -/
def ndA : List Ar → Bool
  | [] => true
  | .v _ :: as => ndA as
  | .s j :: as => (ixA as j).isNone && ndA as
theorem ixA_at : ∀ {as : List Ar} {k i : Nat}, ndA as = true → as[k]? = some (.s i) → ixA as i = some k
  | [], _, _, _, e => by simp at e
  | .v d :: as, 0, i, h, e => by simp at e
  | .v d :: as, k + 1, i, h, e => by
    have := ixA_at (as := as) (k := k) h (by simpa using e)
    simp [ixA, this]
  | .s j :: as, 0, i, h, e => by
    simp at e
    subst e
    simp [ixA]
  | .s j :: as, k + 1, i, h, e => by
    simp only [ndA, Bool.and_eq_true] at h
    have q := ixA_at (as := as) (k := k) h.2 (by simpa using e)
    have ne : ¬ j = i := fun z => by subst z; rw [q] at h; simp at h
    simp [ixA, ne, q]
theorem arsOk_len {K : PySem.W.Frag} {Hb : Hp} {σ : SS} : ∀ {as : List Ar} {vs : List V}, ArsOk K Hb σ vs as → vs.length = as.length
  | [], _, h => by rw [show _ = _ from h]; rfl
  | a :: as, _, h => by
    obtain ⟨v, r, rfl, _, t⟩ := h
    simp [arsOk_len t]
theorem arsOk_get {K : PySem.W.Frag} {Hb : Hp} {σ : SS} : ∀ {as : List Ar} {vs : List V} {k : Nat} {a : Ar}, ArsOk K Hb σ vs as → as[k]? = some a → ∃ v, vs[k]? = some v ∧ ArOk K Hb σ v a
  | [], _, _, _, _, e => by simp at e
  | b :: as, _, 0, _, h, e => by
    obtain ⟨v, r, rfl, h1, _⟩ := h
    simp at e
    subst e
    exact ⟨v, by simp, h1⟩
  | b :: as, _, k + 1, _, h, e => by
    obtain ⟨v, r, rfl, _, t⟩ := h
    obtain ⟨u, q1, q2⟩ := arsOk_get (k := k) t (by simpa using e)
    exact ⟨u, by simpa using q1, q2⟩
theorem arSls_get {Γ : En} : ∀ {as : List Ar} {ss : List Sl} {k : Nat} {s : Sl}, arSls Γ as = some ss → ss[k]? = some s → ∃ a, as[k]? = some a ∧ arSl Γ a = some s
  | [], _, _, _, h, e => by cases h; simp at e
  | b :: as, _, 0, _, h, e => by
    obtain ⟨s0, e1, h⟩ := Option.bind_eq_some_iff.mp h
    obtain ⟨ss0, e2, h⟩ := Option.bind_eq_some_iff.mp h
    cases h
    simp at e
    subst e
    exact ⟨b, by simp, e1⟩
  | b :: as, _, k + 1, _, h, e => by
    obtain ⟨s0, e1, h⟩ := Option.bind_eq_some_iff.mp h
    obtain ⟨ss0, e2, h⟩ := Option.bind_eq_some_iff.mp h
    cases h
    obtain ⟨a, q1, q2⟩ := arSls_get (k := k) e2 (by simpa using e)
    exact ⟨a, by simpa using q1, q2⟩
theorem arSls_len {Γ : En} : ∀ {as : List Ar} {ss : List Sl}, arSls Γ as = some ss → ss.length = as.length
  | [], _, h => by cases h; rfl
  | b :: as, _, h => by
    obtain ⟨s0, e1, h⟩ := Option.bind_eq_some_iff.mp h
    obtain ⟨ss0, e2, h⟩ := Option.bind_eq_some_iff.mp h
    cases h
    simp [arSls_len e2]
theorem roS_ro (s : Sl) : roS (roS s) = roS s := by cases s <;> rfl
theorem arSls_ro {Γ : En} {as : List Ar} {ss : List Sl} (h : arSls Γ as = some ss) : ∀ s ∈ ss, roS s = s := fun s hs => by
  obtain ⟨k, hk⟩ := List.getElem?_of_mem hs
  obtain ⟨a, _, q⟩ := arSls_get h hk
  cases a with
  | v d => cases q; rfl
  | s i =>
    obtain ⟨s0, _, rfl⟩ := arSl_s q
    exact roS_ro s0
/-- who owns, as the callee sees it -/
def owA (ow : Addr → Option Nat) (as : List Ar) : Addr → Option Nat := fun a => match ow a with
  | some i => ixA as i
  | none => none
theorem owA_of {ow : Addr → Option Nat} {as : List Ar} {a : Addr} {i : Nat} (h : ow a = some i) : owA ow as a = ixA as i := by unfold owA; rw [h]
theorem Sat.args {Γ : En} {σ : SS} {Hb H : Hp} {ow : Addr → Option Nat} {as : List Ar} {ss : List Sl} {vs : List V} (S : Sat g Γ σ Hb H ow) (h1 : arSls Γ as = some ss) (h2 : ArsOk g.K Hb σ vs as) (nd : ndA as = true) :
    Sat g (ss.map some) (vs.map some) Hb H (owA ow as) := by
  refine ⟨S.same, fun a k e => ?_, fun k s e => ?_, by rw [List.length_map, List.length_map, arSls_len h1, arsOk_len h2]⟩
  · unfold owA at e
    split at e
    · rename_i i ei
      exact S.ows a i ei
    · cases e
  · rw [List.getElem?_map] at e
    obtain ⟨s', e1, e2⟩ := Option.map_eq_some_iff.mp e
    cases e2
    obtain ⟨a, q1, q2⟩ := arSls_get h1 e1
    obtain ⟨v, q3, q4⟩ := arsOk_get h2 q1
    refine ⟨v, by rw [List.getElem?_map, q3]; rfl, ?_⟩
    cases a with
    | v d => cases q2; exact q4
    | s i =>
      have ix := ixA_at nd q1
      obtain ⟨s0, e0, rfl⟩ := arSl_s q2
      · obtain ⟨v', z1, z2⟩ := S.slots i s0 e0
        have z3 : σ[i]? = some (some v) := q4
        rw [z1] at z3
        cases z3
        cases s0 with
        | val d => exact z2
        | own m ds =>
          obtain ⟨a, us, rfl, o1, o2⟩ := z2
          exact ⟨a, us, rfl, by rw [owA_of o1]; exact ix, o2⟩
        | odic m ds =>
          obtain ⟨a, rfl, o1, o2⟩ := z2
          exact ⟨a, rfl, by rw [owA_of o1]; exact ix, o2⟩
        | net m size ps =>
          obtain ⟨a, dx, l, us, rfl, o1, o2, o3⟩ := z2
          exact ⟨a, dx, l, us, rfl, by rw [owA_of o1]; exact ix, by rw [owA_of o2]; exact ix, o3⟩

/-! ### what a def promises that changes nothing -/
abbrev Rs := Sl ⊕ Ex
abbrev FN := List Sl → Option Rs
def RsK (g : Glo) (Hb H : Hp) (Q : VK) (E : XK) : Rs → Prop
  | .inl s => ∀ v Hb' H', Grow Hb H Hb' H' → rO g H Hb' H' v s → Q v H'
  | .inr x => ∀ Hb' H', Grow Hb H Hb' H' → E (.ref (g.cls x)) none H'
def spP (g : Glo) (n : Nat) (F : FN) : Sp := fun vs H Q E => vs.length = n ∧ ∃ ss r Hb ow, F ss = some r ∧ ss.length = n ∧ (∀ s ∈ ss, roS s = s) ∧ Sat g (ss.map some) (vs.map some) Hb H ow ∧
  RsK g Hb H Q E r
def eX (g : Glo) (W : WX) (f : En → Option Rs) : TE := fun σ H Q => ∃ Γ Hb ow r, f Γ = some r ∧ Sat g Γ σ Hb H ow ∧
  RsK g Hb H Q (WE W σ) r
def xCall (n : Nat) (F : FN) (fs : VA) : En → Option Rs := fun Γ => (fs Γ).bind fun as => if ndA as = true ∧ as.length = n then (arSls Γ as).bind F else none
theorem sp_call {n : Nat} {F : FN} {fs : VA} {W : WX} {σ : SS} {H : Hp} {Q : VK} {Γ : En} {Hb : Hp} {ow : Addr → Option Nat} {r : Rs} {as : List Ar} {vs : List V} {Hb1 H1 : Hp} (e1 : fs Γ = some as) (ef : xCall n F fs Γ = some r) (S : Sat g Γ σ Hb H ow)
    (k : RsK g Hb H Q (WE W σ) r)
    (g1 : Grow Hb H Hb1 H1) (q1 : ArsOk g.K Hb1 σ vs as) : spP g n F vs H1 Q (WE W σ) := by
  unfold xCall at ef
  rw [e1, Option.bind_some] at ef
  split at ef
  · rename_i hn
    obtain ⟨ss, e2, e3⟩ := Option.bind_eq_some_iff.mp ef
    refine ⟨by rw [arsOk_len q1]; exact hn.2, ss, r, Hb1, owA ow as, e3, by rw [arSls_len e2]; exact hn.2, arSls_ro e2, (S.grow g1).args e2 q1 hn.1, ?_⟩
    cases r with
    | inl s => exact fun v Hb2 H2 g2 q2 => k v Hb2 H2 (g1.trans g2) (Mono.back (frees g1.h) q2)
    | inr x => exact fun Hb2 H2 g2 => k Hb2 H2 (g1.trans g2)
  · cases ef
theorem xCall_args {n : Nat} {F : FN} {fs : VA} {Γ : En} {r : Rs} (ef : xCall n F fs Γ = some r) : ∃ as, fs Γ = some as := by
  unfold xCall at ef
  obtain ⟨as, e1, _⟩ := Option.bind_eq_some_iff.mp ef
  exact ⟨as, e1⟩
theorem ex_call {n : Nat} {F : FN} {fs : VA} {W : WX} (h : PE X c (tCallS (spP g n F) (WE W) (eAr g fs))) : PE X c (eX g W (xCall n F fs)) := PE_mono h fun σ H Q ⟨Γ, Hb, ow, r, ef, S, k⟩ => by
  obtain ⟨as, e1⟩ := xCall_args ef
  exact ⟨Γ, Hb, ow, as, e1, S, fun vs Hb1 H1 g1 q1 => sp_call e1 ef S k g1 q1⟩
def noW : WX := fun _ _ _ _ => False
def inlO : Rs → Option Sl
  | .inl s => some s
  | .inr _ => none
theorem eo_ofX {W : WX} {f : En → Option Rs} (h : PE X c (eX g W f)) : PE X c (eO g (v1 inlO f)) := PE_mono h fun σ H Q ⟨Γ, Hb, ow, s, ef, S, k⟩ => by
  obtain ⟨r, e1, ef⟩ := Option.bind_eq_some_iff.mp ef
  cases r with
  | inl s' => cases ef; exact ⟨Γ, Hb, ow, _, e1, S, k⟩
  | inr x => cases ef
theorem noPass0 {σ : SS} : PassesAt CX0 X σ (WE noW σ) := fun _ _ _ _ _ _ h => h.elim
theorem noPassX {σ : SS} : PassesAt (L2.CX X.prog X.w) X σ (WE noW σ) := fun _ _ _ _ _ _ h => by
  obtain ⟨_, _, _, _, _, _, _, _, _, _, _, _, z⟩ := h
  exact z.elim

/-! ### methods, by σ -/
section
variable {CX : CXT} {k : Nat} {f C : Addr} {fd : FuncData} {ps : List Str} {sp : Sp} {E : L2.St → XK} {x m : Str} {p pos apos : Pos} {o : Expr} {ta : TE} {t : TA}
def tMethE (C : Addr) (m : Str) (sp : Sp) (E : L2.St → XK) (ta : TE) (t : TA) : TE := fun σ H Q => ta σ H fun x H1 => ∃ a dx fs, x = .ref a ∧ H1 a = some (.ins C dx fs) ∧ fs.lookup m = none ∧ t σ H1 fun vs H2 => sp (x :: vs) H2 Q (E σ)
theorem pe_methE {pl : Sem Bool} (he : PE X o ta) (cl : Cls X.K C) (hm : Meth X.K C m f) (F : FnOk X.prog X.w X.K X.mg X.base CX k f fd ps sp) (hr : Room k X.A) (hb : Binds X.K fd ps []) (hx : ∀ σ, PassesAt CX X σ (E σ)) (ha : PA X (e :: es) t)
    (hst : starEach (e :: es) X.env = (false, eval e X.env) :: starEach es X.env := by rfl) (hpl : (backTo pos (starEach es X.env)).any (·.1) = false := by rfl)
    (ht : eval (.Call (.Attribute o m apos) (e :: es) [] pos) X.env = (do let ov ← eval o X.env; standAt apos.atName; let (f, first) ← holding [ov] (getMethod ov m pl); callWith pos f first (backTo pos (starEach (e :: es) X.env)) (backToKw pos (keywordEach [] X.env))) := by rfl) :
    PE X (.Call (.Attribute o m apos) (e :: es) [] pos) (tMethE C m sp E ta t) :=
  ⟨fun pins s σ H Q I h => PySem.W.methodCall_KW (pl := pl) (thn (he.run pins s σ H _ I h) fun u s1 ⟨y, H1, I1, rx, a, dx, fs, ex, ea, l, q⟩ => by
    subst ex
    cases (show u = Value.ref a from rx)
    exact getmeth_ok I1 ea cl hm l (PySem.W.callWith_K (first := [.ref a]) (h₀ := X.base) I.ok.mod.kin hm.kp
      (thn (ha.run pos pins s1 σ H1 _ I1 q) fun us s2 ⟨vs, H2, I2, r, q2⟩ => ⟨I2.kIn, run_fnS (us := .ref a :: us) (vs := .ref a :: vs) F hr hb (hx σ) I2 (.cons rfl r) q2⟩) hst hpl)) ht⟩
theorem pe_methE0 {pl : Sem Bool} (he : PE X o ta) (cl : Cls X.K C) (hm : Meth X.K C m f) (F : FnOk X.prog X.w X.K X.mg X.base CX k f fd ps sp) (hr : Room k X.A) (hb : Binds X.K fd ps []) (hx : ∀ σ, PassesAt CX X σ (E σ))
    (ht : eval (.Call (.Attribute o m apos) [] [] pos) X.env = (do let ov ← eval o X.env; standAt apos.atName; let (f, first) ← holding [ov] (getMethod ov m pl); callWith pos f first (backTo pos (starEach [] X.env)) (backToKw pos (keywordEach [] X.env))) := by rfl) :
    PE X (.Call (.Attribute o m apos) [] [] pos) (tMethE C m sp E ta tNil) :=
  ⟨fun pins s σ H Q I h => PySem.W.methodCall_KW (pl := pl) (thn (he.run pins s σ H _ I h) fun u s1 ⟨y, H1, I1, rx, a, dx, fs, ex, ea, l, q⟩ => by
    subst ex
    cases (show u = Value.ref a from rx)
    exact getmeth_ok I1 ea cl hm l (PySem.W.callWith_K0 (first := [.ref a]) I1.kIn hm.kp (run_fnS (us := [.ref a]) (vs := [.ref a]) F hr hb (hx σ) I1 (.cons rfl .nil) q))) ht⟩
end
/-- no field of a net has the name -/
def noFld (m : Str) : Prop := ∀ size l, (netF size l).lookup m = none
theorem noFld_of {m : Str} (h1 : (m == ("many" : Str)) = false) (h2 : (m == ("laid" : Str)) = false) : noFld m := fun size l => by
  show (match m == ("many" : Str) with | true => some (V.int size) | false => List.lookup m [(("laid" : Str), V.ref l)]) = none
  rw [h1]
  show (match m == ("laid" : Str) with | true => some (V.ref l) | false => List.lookup m []) = none
  rw [h2]
  rfl
def netAt (i : Nat) (Γ : En) : Bool := match Γ[i]? with
  | some (some (.net _ _ _)) => true
  | _ => false
def xMeth (n : Nat) (F : FN) (i : Nat) (fs : VA) : En → Option Rs := fun Γ => if netAt i Γ = true then xCall n F (rS i fs) Γ else none
theorem netAt_get {i : Nat} {Γ : En} (h : netAt i Γ = true) : ∃ m size ps, Γ[i]? = some (some (.net m size ps)) := by
  unfold netAt at h
  split at h
  · exact ⟨_, _, _, by assumption⟩
  · cases h
theorem ex_meth {n i : Nat} {m : Str} {F : FN} {fs : VA} {W : WX} (nf : noFld m) (h : PE X c (tMethE g.C m (spP g n F) (WE W) (tVar i) (eAr g fs))) : PE X c (eX g W (xMeth n F i fs)) := PE_mono h fun σ H Q ⟨Γ, Hb, ow, r, ef, S, k⟩ => by
  unfold xMeth at ef
  split at ef
  · rename_i hn
    obtain ⟨md, size, ps, e0⟩ := netAt_get hn
    obtain ⟨v, z1, a, dx, l, us, rfl, o1, o2, h1, h2, h3⟩ := S.slots i _ e0
    obtain ⟨as, e1⟩ := xCall_args ef
    have e1' := e1
    obtain ⟨as0, e2, e1'⟩ := Option.bind_eq_some_iff.mp e1'
    rw [e0] at e1'
    cases e1'
    refine ⟨_, z1, a, dx, _, rfl, h1, nf _ _, Γ, Hb, ow, as0, e2, S, fun vs Hb1 H1 g1 q1 => sp_call e1 ef S k g1 ⟨_, vs, rfl, z1, q1⟩⟩
  · cases ef
theorem ex_meth0 {n i : Nat} {m : Str} {F : FN} {W : WX} (nf : noFld m) (h : PE X c (tMethE g.C m (spP g n F) (WE W) (tVar i) tNil)) : PE X c (eX g W (xMeth n F i rNil)) := PE_mono h fun σ H Q ⟨Γ, Hb, ow, r, ef, S, k⟩ => by
  unfold xMeth at ef
  split at ef
  · rename_i hn
    obtain ⟨md, size, ps, e0⟩ := netAt_get hn
    obtain ⟨v, z1, a, dx, l, us, rfl, o1, o2, h1, h2, h3⟩ := S.slots i _ e0
    obtain ⟨as, e1⟩ := xCall_args ef
    have e1' := e1
    obtain ⟨as0, e2, e1'⟩ := Option.bind_eq_some_iff.mp e1'
    rw [e0] at e1'
    cases e1'
    cases e2
    exact ⟨_, z1, a, dx, _, rfl, h1, nf _ _, sp_call e1 ef S k (Grow.refl S.same) ⟨_, [], rfl, z1, rfl⟩⟩
  · cases ef

/-! ### what is walked -/
/-- what the walked thing leans on stands -/
def WkOk (g : Glo) (J : It) (ds : List D) (St : Hp → Hp → Prop) : Prop := ∀ i Hb H, Same Hb H → St Hb H → (∀ d, ds[i]? = some d → J.go i H ∧ ∀ x H', J.yld i H x H' → ∃ Hb', Grow Hb H Hb' H' ∧ Rep g.K Hb' x d) ∧ (ds[i]? = none → J.stop i H)
abbrev KpR := Hp → Hp → Hp → Hp → Prop
def KpS : KpR := fun Hb _ Hb' H' => Same Hb Hb' ∧ Same Hb' H'
def KpG : KpR := fun Hb H Hb' H' => Grow Hb H Hb' H'
def eI (g : Glo) (Kp : KpR) (f : VL) : TI := fun σ H R => ∃ Γ Hb ow ds, f Γ = some ds ∧ Sat g Γ σ Hb H ow ∧ ∀ J Hb' H' (St : Hp → Hp → Prop), Grow Hb H Hb' H' → WkOk g J ds St → St Hb' H' → (∀ Hb1 H1 Hb2 H2, St Hb1 H1 → Kp Hb1 H1 Hb2 H2 → St Hb2 H2) → R J H'
variable {tg it : Expr}
theorem PI_mono {w w' : TI} (h : PI X tg it w) (m : ∀ σ H Q, w' σ H Q → w σ H Q) : PI X tg it w' := ⟨fun pins s σ H R I hw => h.run pins s σ H R I (m σ H R hw)⟩
theorem ei_SG {f : VL} (h : PI X tg it (eI g KpS f)) : PI X tg it (eI g KpG f) := PI_mono h fun σ H Q ⟨Γ, Hb, ow, ds, ef, S, k⟩ =>
  ⟨Γ, Hb, ow, ds, ef, S, fun J Hb' H' St g1 wk st kp => k J Hb' H' St g1 wk st fun Hb1 H1 Hb2 H2 s1 q => kp Hb1 H1 Hb2 H2 s1 ⟨q.hb, q.same⟩⟩
theorem list_wk {a : Addr} {vs : List V} {ds : List D} {St : Hp → Hp → Prop} (hH : ∀ Hb H, Same Hb H → St Hb H → H a = some (.lst vs) ∧ Reps g.K Hb vs ds) : WkOk g (Itl g.K a) ds St := by
  intro i Hb H sm st
  obtain ⟨h1, h2⟩ := hH Hb H sm st
  refine ⟨fun d ed => ?_, fun ed => ?_⟩
  · obtain ⟨v, q1, q2⟩ := h2.get ed
    refine ⟨⟨vs, v, SqL.of h1, q1⟩, fun x H' y => ?_⟩
    obtain ⟨rfl, y⟩ := y
    have := y vs (SqL.of h1)
    rw [q1] at this
    cases this
    exact ⟨Hb, Grow.refl sm, q2⟩
  · refine ⟨vs, SqL.of h1, ?_⟩
    rw [h2.len]
    exact List.getElem?_eq_none_iff.mp ed
theorem ei_list {f : VF} (h : PI X tg it (iList g.K (eV g f))) : PI X tg it (eI g KpS (v1 dL f)) := PI_mono h fun σ H Q ⟨Γ, Hb, ow, ds, ef, S, k⟩ => by
  obtain ⟨d, e1, e2⟩ := Option.bind_eq_some_iff.mp ef
  unfold dL at e2
  split at e2
  · cases e2
    refine ⟨Γ, Hb, ow, _, e1, S, fun v Hb1 H1 g1 q1 => ?_⟩
    obtain ⟨a, vs, rfl, h1, h2⟩ := rep_lst.mp q1
    refine ⟨a, rfl, ⟨vs, SqL.of (g1.same _ _ h1)⟩, ?_⟩
    exact k _ Hb1 H1 (fun Hb _ => Hb a = some (.lst vs) ∧ Reps g.K Hb vs ds) g1 (list_wk fun Hb H sm st => ⟨sm _ _ st.1, st.2⟩) ⟨h1, h2⟩ fun Hb1 H1 Hb2 H2 st kp => ⟨kp.1 _ _ st.1, st.2.same kp.1⟩
  · cases e2
theorem ei_listL {f : VL} (h : PI X tg it (iList g.K (eL g f))) : PI X tg it (eI g KpG f) := PI_mono h fun σ H Q ⟨Γ, Hb, ow, ds, ef, S, k⟩ => by
  refine ⟨Γ, Hb, ow, _, ef, S, fun v Hb1 H1 g1 q1 => ?_⟩
  obtain ⟨a, vs, rfl, h1, h2⟩ := q1
  refine ⟨a, rfl, ⟨vs, SqL.of h1⟩, ?_⟩
  exact k _ Hb1 H1 (fun Hb H => H a = some (.lst vs) ∧ Reps g.K Hb vs ds) g1 (list_wk fun Hb H sm st => st) ⟨h1, h2⟩ fun Hb1 H1 Hb2 H2 st kp => ⟨kp.h _ _ st.1, st.2.same kp.hb⟩
def dRng (lo hi : Int) : List D := (List.range (hi - lo).toNat).map fun (i : Nat) => .int (lo + (i : Int))
theorem rng_wk (lo : Int) (n : Nat) : WkOk g (Itr lo n) ((List.range n).map fun (i : Nat) => .int (lo + (i : Int))) (fun _ _ => True) := by
  intro i Hb H sm _
  refine ⟨fun d ed => ?_, fun ed => ?_⟩
  · rw [List.getElem?_map] at ed
    obtain ⟨j, e1, rfl⟩ := Option.map_eq_some_iff.mp ed
    obtain ⟨h1, h2⟩ := List.getElem?_eq_some_iff.mp e1
    rw [List.getElem_range] at h2
    subst h2
    rw [List.length_range] at h1
    refine ⟨h1, fun x H' y => ?_⟩
    obtain ⟨rfl, rfl⟩ := y
    exact ⟨Hb, Grow.refl sm, rep_int.mpr rfl⟩
  · have := List.getElem?_eq_none_iff.mp ed
    rw [List.length_map, List.length_range] at this
    exact this
def inR (i : Int) : Bool := decide (-(2 ^ 62) ≤ i ∧ i < 2 ^ 62)
def lRng1 (f : VF) : VL := fun Γ => (f Γ).bind fun d => (toI d).bind fun j => if inR j = true then some (dRng 0 j) else none
def lRng2 (f h : VF) : VL := fun Γ => (f Γ).bind fun d => (toI d).bind fun i => (h Γ).bind fun d' => (toI d').bind fun j => if (inR i && inR j) = true then some (dRng i j) else none
theorem ei_rng1 {f : VF} (h : PI X tg it (iRng1 (tCons (eV g f) tNil))) : PI X tg it (eI g KpS (lRng1 f)) := PI_mono h fun σ H Q ⟨Γ, Hb, ow, ds, ef, S, k⟩ => by
  obtain ⟨d, e1, ef⟩ := Option.bind_eq_some_iff.mp ef
  obtain ⟨j, e2, ef⟩ := Option.bind_eq_some_iff.mp ef
  split at ef
  · rename_i hj
    have ef := Option.some.inj ef
    subst ef
    cases toI_some e2
    have hj := of_decide_eq_true hj
    refine ⟨Γ, Hb, ow, _, e1, S, fun v Hb1 H1 g1 q1 => ⟨j, by rw [rep_int.mp q1], hj.1, hj.2, ?_⟩⟩
    have w := rng_wk (g := g) 0 j.toNat
    have e : dRng 0 j = (List.range j.toNat).map fun (i : Nat) => D.int (0 + (i : Int)) := by unfold dRng; rw [Int.sub_zero]
    rw [e] at k
    exact k _ Hb1 H1 _ g1 w trivial fun _ _ _ _ _ _ => trivial
  · cases ef
theorem ei_rng2 {f h' : VF} (h : PI X tg it (iRng2 (tCons (eV g f) (tCons (eV g h') tNil)))) : PI X tg it (eI g KpS (lRng2 f h')) := PI_mono h fun σ H Q ⟨Γ, Hb, ow, ds, ef, S, k⟩ => by
  obtain ⟨d, e1, ef⟩ := Option.bind_eq_some_iff.mp ef
  obtain ⟨i, e2, ef⟩ := Option.bind_eq_some_iff.mp ef
  obtain ⟨d', e3, ef⟩ := Option.bind_eq_some_iff.mp ef
  obtain ⟨j, e4, ef⟩ := Option.bind_eq_some_iff.mp ef
  split at ef
  · rename_i hj
    have ef := Option.some.inj ef
    subst ef
    cases toI_some e2
    cases toI_some e4
    rw [Bool.and_eq_true] at hj
    have hi := of_decide_eq_true hj.1
    have hj := of_decide_eq_true hj.2
    refine ⟨Γ, Hb, ow, _, e1, S, fun v Hb1 H1 g1 q1 => ⟨Γ, Hb1, ow, _, e3, S.grow g1, fun v2 Hb2 H2 g2 q2 => ⟨i, j, by rw [rep_int.mp q1, rep_int.mp q2], ⟨hi.1, hi.2, hj.1, hj.2⟩, ?_⟩⟩⟩
    exact k _ Hb2 H2 _ (g1.trans g2) (rng_wk i _) trivial fun _ _ _ _ _ _ => trivial
  · cases ef
def enumF : Nat → List D → List D
  | _, [] => []
  | i, d :: ds => .tup [.int (i : Int), d] :: enumF (i + 1) ds
theorem enumF_get : ∀ (ds : List D) (k i : Nat), (enumF k ds)[i]? = (ds[i]?).map fun d => .tup [.int ((k + i : Nat) : Int), d]
  | [], _, _ => by simp [enumF]
  | d :: ds, k, 0 => by simp [enumF]
  | d :: ds, k, i + 1 => by
    have := enumF_get ds (k + 1) i
    simp only [enumF, List.getElem?_cons_succ, this]
    rw [show k + 1 + i = k + (i + 1) by omega]
theorem enum_wk {a : Addr} {vs : List V} {ds : List D} : WkOk g (Ite g.K a) (enumF 0 ds) (fun Hb _ => Hb a = some (.lst vs) ∧ Reps g.K Hb vs ds) := by
  intro i Hb H sm st
  obtain ⟨h1, h2⟩ := st
  have h1' := sm _ _ h1
  refine ⟨fun d ed => ?_, fun ed => ?_⟩
  · rw [enumF_get] at ed
    obtain ⟨d', e1, rfl⟩ := Option.map_eq_some_iff.mp ed
    obtain ⟨v, q1, q2⟩ := h2.get e1
    refine ⟨⟨vs, v, SqL.of h1', q1⟩, fun x H' y => ?_⟩
    obtain ⟨T, z, rfl, hT, rfl, hz⟩ := y
    have := hz vs (SqL.of h1')
    rw [q1] at this
    cases this
    have gp := Grow.put (o := .tup [.int (i : Nat), v]) sm hT
    refine ⟨_, gp, rep_tup.mpr ⟨T, _, rfl, upd_same, ?_⟩⟩
    rw [Nat.zero_add]
    exact Reps.cons (rep_int.mpr rfl) (Reps.one (Rep.same gp.hb q2))
  · rw [enumF_get, Option.map_eq_none_iff] at ed
    refine ⟨vs, SqL.of h1', ?_⟩
    rw [h2.len]
    exact List.getElem?_eq_none_iff.mp ed
def lEnum (f : VF) : VL := fun Γ => (f Γ).bind fun d => (dL d).map (enumF 0)
theorem ei_enum {f : VF} (h : PI X tg it (iEnum g.K (tCons (eV g f) tNil))) : PI X tg it (eI g KpS (lEnum f)) := PI_mono h fun σ H Q ⟨Γ, Hb, ow, ds, ef, S, k⟩ => by
  obtain ⟨d, e1, ef⟩ := Option.bind_eq_some_iff.mp ef
  obtain ⟨ds', e2, rfl⟩ := Option.map_eq_some_iff.mp ef
  unfold dL at e2
  split at e2
  · cases e2
    refine ⟨Γ, Hb, ow, _, e1, S, fun v Hb1 H1 g1 q1 => ?_⟩
    obtain ⟨a, vs, rfl, h1, h2⟩ := rep_lst.mp q1
    refine ⟨a, vs, rfl, SqL.of (g1.same _ _ h1), ?_⟩
    exact k _ Hb1 H1 _ g1 (enum_wk (vs := vs)) ⟨h1, h2⟩ fun Hb1 H1 Hb2 H2 st kp => ⟨kp.1 _ _ st.1, st.2.same kp.1⟩
  · cases e2

/-! ### targets -/
def dropOw (ow : Addr → Option Nat) (i : Nat) : Addr → Option Nat := fun a => if ow a = some i then none else ow a
theorem dropOw_ne {ow : Addr → Option Nat} {i j : Nat} {a : Addr} (h : j ≠ i) (e : ow a = some j) : dropOw ow i a = some j := by
  unfold dropOw
  rw [if_neg (by rw [e]; intro z; exact h (Option.some.inj z)), e]
theorem dropOw_some {ow : Addr → Option Nat} {i j : Nat} {a : Addr} (e : dropOw ow i a = some j) : ow a = some j ∧ j ≠ i := by
  unfold dropOw at e
  split at e
  · cases e
  · rename_i h
    exact ⟨e, fun z => h (by rw [e, z])⟩
theorem SlOk.ow {Hb H : Hp} {ow ow' : Addr → Option Nat} {i : Nat} {v : V} {s : Sl} (h : SlOk g Hb H ow i v s) (k : ∀ a, ow a = some i → ow' a = some i) : SlOk g Hb H ow' i v s := by
  cases s with
  | val d => exact h
  | own m ds => obtain ⟨a, vs, e, o, q⟩ := h; exact ⟨a, vs, e, k _ o, q⟩
  | odic m ks => obtain ⟨a, e, o, q⟩ := h; exact ⟨a, e, k _ o, q⟩
  | net m size ps => obtain ⟨a, dx, l, vs, e, o, ol, q⟩ := h; exact ⟨a, dx, l, vs, e, k _ o, k _ ol, q⟩
/-- a slot is filled with frozen data -/
theorem Sat.setVal {Γ : En} {σ : SS} {Hb H : Hp} {ow : Addr → Option Nat} {i : Nat} {v : V} {d : D} (S : Sat g Γ σ Hb H ow) (r : Rep g.K Hb v d) : Sat g (Γ.set i (some (.val d))) (σ.set i (some v)) Hb H (dropOw ow i) := by
  refine ⟨S.same, fun a j e => S.ows a j (dropOw_some e).1, fun j s e => ?_, by rw [List.length_set, List.length_set, S.len]⟩
  by_cases q : i = j
  · subst q
    rw [List.getElem?_set] at e
    simp only [if_true] at e
    split at e
    · rename_i hi
      cases e
      exact ⟨v, by rw [List.getElem?_set_self (by rw [← S.len]; exact hi)], r⟩
    · cases e
  · rw [List.getElem?_set_ne q] at e
    obtain ⟨u, q1, q2⟩ := S.slots j s e
    exact ⟨u, by rw [List.getElem?_set_ne q]; exact q1, q2.ow fun a o => dropOw_ne (fun z => q z.symm) o⟩
abbrev TgF := D → En → Option En
/-- a target, by values; vs: the slots that it may change -/
def TgOk (g : Glo) (t : TG) (gt : TgF) (vs : List Nat) : Prop := ∀ d Γ Γ1 v σ Hb H ow Q, gt d Γ = some Γ1 → Sat g Γ σ Hb H ow → Rep g.K Hb v d →
  (∀ σ1 ow1, Sat g Γ1 σ1 Hb H ow1 → (∀ j, j ∉ vs → σ1[j]? = σ[j]? ∧ Γ1[j]? = Γ[j]?) → (∀ a j, ow1 a = some j → ow a = some j) → (∀ a j, ow a = some j → j ∉ vs → ow1 a = some j) → Q σ1 H) → t v σ H Q
def gN (i : Nat) : TgF := fun d Γ => some (Γ.set i (some (.val d)))
theorem tg_name {i : Nat} : TgOk g (gName i) (gN i) [i] := fun d Γ Γ1 v σ Hb H ow Q e S r k => by
  cases e
  refine k _ _ (S.setVal r) (fun j hj => ?_) (fun a j e => (dropOw_some e).1) fun a j e hj => dropOw_ne (by simpa using hj) e
  have ne : i ≠ j := fun z => hj (by simp [z])
  rw [List.getElem?_set_ne ne, List.getElem?_set_ne ne]
  exact ⟨rfl, rfl⟩
def gsN : List Nat → List D → En → Option En
  | [], [], Γ => some Γ
  | i :: is, d :: ds, Γ => gsN is ds (Γ.set i (some (.val d)))
  | _, _, _ => none
def gT (is : List Nat) : TgF := fun d Γ => match d with
  | .tup ds => gsN is ds Γ
  | _ => none
def TgsOk (g : Glo) (t : TGs) (is : List Nat) : Prop := ∀ ds Γ Γ1 us σ Hb H ow Q, gsN is ds Γ = some Γ1 → Sat g Γ σ Hb H ow → Reps g.K Hb us ds →
  (∀ σ1 ow1, Sat g Γ1 σ1 Hb H ow1 → (∀ j, j ∉ is → σ1[j]? = σ[j]? ∧ Γ1[j]? = Γ[j]?) → (∀ a j, ow1 a = some j → ow a = some j) → (∀ a j, ow a = some j → j ∉ is → ow1 a = some j) → Q σ1 H) → t us σ H Q
theorem tgs_nil : TgsOk g gNil [] := fun ds Γ Γ1 us σ Hb H ow Q e S r k => by
  cases ds with
  | nil => cases e; exact ⟨reps_nil.mp r, k σ ow S (fun j _ => ⟨rfl, rfl⟩) (fun a j e => e) fun a j e _ => e⟩
  | cons d ds => cases e
theorem tgs_cons {i : Nat} {t : TGs} {is : List Nat} (h : TgsOk g t is) : TgsOk g (gCons (gName i) t) (i :: is) := fun ds Γ Γ1 us σ Hb H ow Q e S r k => by
  cases ds with
  | nil => cases e
  | cons d ds =>
    obtain ⟨v, us', rfl, r1, r2⟩ := reps_cons.mp r
    refine ⟨v, us', rfl, h ds _ Γ1 us' _ Hb H _ Q e (S.setVal r1) r2 fun σ1 ow1 S1 q1 q2 q3 => k σ1 ow1 S1 (fun j hj => ?_) (fun a j e => (dropOw_some (q2 a j e)).1) fun a j e hj => ?_⟩
    · have ne : i ≠ j := fun z => hj (by simp [z])
      obtain ⟨z1, z2⟩ := q1 j (fun z => hj (List.mem_cons_of_mem _ z))
      rw [List.getElem?_set_ne ne] at z1 z2
      exact ⟨z1, z2⟩
    · exact q3 a j (dropOw_ne (fun z => hj (by simp [z])) e) (fun z => hj (List.mem_cons_of_mem _ z))
theorem tg_tup {m : Nat} {t : TGs} {is : List Nat} (h : TgsOk g t is) (hm : is.length = m) : TgOk g (gTup g.K m t) (gT is) is := fun d Γ Γ1 v σ Hb H ow Q e S r k => by
  cases d with
  | tup ds =>
    obtain ⟨a, vs, rfl, h1, h2⟩ := rep_tup.mp r
    refine ⟨a, vs, rfl, SqT.of (S.same _ _ h1), ?_, h ds Γ Γ1 vs σ Hb H ow Q e S h2 k⟩
    rw [h2.len, ← hm]
    have : ∀ {is : List Nat} {ds : List D} {Γ Γ1 : En}, gsN is ds Γ = some Γ1 → ds.length = is.length := fun {is} => by
      induction is with
      | nil => intro ds Γ Γ1 e; cases ds with
        | nil => rfl
        | cons d ds => cases e
      | cons i is ih => intro ds Γ Γ1 e; cases ds with
        | nil => cases e
        | cons d ds => simp [ih (show gsN is ds _ = some _ from e)]
    exact this e
  | _ => cases e

/-! ### comprehensions -/
def wipeE (Γ : En) : List Nat → En
  | [] => Γ
  | v :: vs => (wipeE Γ vs).set v none
theorem wipeE_get {Γ : En} {i : Nat} {s : Sl} : ∀ {vs : List Nat}, (wipeE Γ vs)[i]? = some (some s) → Γ[i]? = some (some s) ∧ i ∉ vs
  | [], h => ⟨h, by simp⟩
  | v :: vs, h => by
    unfold wipeE at h
    by_cases hi : v = i
    · subst hi
      rw [List.getElem?_set] at h
      simp only [if_true] at h
      split at h
      · cases h
      · cases h
    · rw [List.getElem?_set_ne hi] at h
      obtain ⟨h1, h2⟩ := wipeE_get h
      exact ⟨h1, by simp only [List.mem_cons, not_or]; exact ⟨fun e => hi e.symm, h2⟩⟩
theorem wipeE_length (Γ : En) : ∀ vs : List Nat, (wipeE Γ vs).length = Γ.length
  | [] => rfl
  | v :: vs => by unfold wipeE; rw [List.length_set, wipeE_length Γ vs]
theorem wipe_get {σ : SS} {i : Nat} : ∀ {vs : List Nat}, i ∉ vs → (wipe σ vs)[i]? = σ[i]?
  | [], _ => rfl
  | v :: vs, h => by
    simp only [List.mem_cons, not_or] at h
    unfold wipe
    rw [List.getElem?_set_ne (fun e => h.1 e.symm), wipe_get h.2]
theorem wipe_at {σ : SS} {i : Nat} : ∀ {vs : List Nat}, i ∈ vs → (wipe σ vs)[i]? = if i < σ.length then some none else none
  | [], h => by cases h
  | v :: vs, h => by
    unfold wipe
    by_cases q : v = i
    · subst q
      rw [List.getElem?_set]
      simp [wipe_length]
    · rw [List.getElem?_set_ne q]
      rcases List.mem_cons.mp h with z | z
      · exact absurd z.symm q
      · exact wipe_at z
theorem wipe_ext {σ σ1 : SS} {vs : List Nat} (hl : σ1.length = σ.length) (h : ∀ j, j ∉ vs → σ1[j]? = σ[j]?) : wipe σ1 vs = wipe σ vs := by
  apply List.ext_getElem?
  intro j
  by_cases q : j ∈ vs
  · rw [wipe_at q, wipe_at q, hl]
  · rw [wipe_get q, wipe_get q, h j q]
theorem Sat.wiped {Γ : En} {σ : SS} {Hb H : Hp} {ow : Addr → Option Nat} (S : Sat g Γ σ Hb H ow) (vs : List Nat) : Sat g (wipeE Γ vs) (wipe σ vs) Hb H ow := by
  refine ⟨S.same, S.ows, fun i s e => ?_, by rw [wipe_length, wipeE_length, S.len]⟩
  obtain ⟨h1, h2⟩ := wipeE_get e
  obtain ⟨v, q1, q2⟩ := S.slots i s h1
  exact ⟨v, by rw [wipe_get h2]; exact q1, q2⟩
def lcGo (step : D → Option (Option D)) : List D → Option (List D)
  | [] => some []
  | d :: ds => (step d).bind fun o => (lcGo step ds).bind fun r => some (match o with | some y => y :: r | none => r)
def lcStep (gt : TgF) (t : VB) (e : VF) (Γ : En) (d : D) : Option (Option D) := (gt d Γ).bind fun Γ1 => (t Γ1).bind fun b => if b = true then (e Γ1).map some else some none
def vLc (vs : List Nat) (f : VL) (gt : TgF) (t : VB) (e : VF) : VS := fun Γ => (f Γ).bind fun ds => if fewD ds = true then (lcGo (lcStep gt t e (wipeE Γ vs)) ds).map fun out => .own .loc out else none
def bT : VB := fun _ => some true
theorem pts_yes {ifs : List Expr} (h : PTs X ifs tYes) : PTs X ifs (eT g bT) := ⟨fun pins s σ H Q I hw => h.run pins s σ H Q I (by
  obtain ⟨Γ, Hb, ow, d, ef, S, k⟩ := hw
  cases ef
  exact k Hb H (Grow.refl S.same))⟩
theorem Grow.setD {Hb H Hb1 H1 : Hp} {a : Addr} {o : HO} (gr : Grow Hb H Hb1 H1) (h0 : H a = none) (hb : Hb1 a = none) : Grow Hb H Hb1 (upd H1 a o) := by
  refine ⟨gr.hb, fun b u e => ?_, fun b u e => ?_, gr.new⟩
  · rw [upd_ne (ne_of_none e h0)]; exact gr.h _ _ e
  · rw [upd_ne (ne_of_none e hb)]; exact gr.same _ _ e
theorem lc_read {vs : List Nat} {f : VL} {tgt : TG} {gt : TgF} {t : VB} {e : VF} {σ : SS} {H : Hp} {Q : VK} (ht : TgOk g tgt gt vs) (tgLen : ∀ {d Γ Γ1}, gt d Γ = some Γ1 → Γ1.length = Γ.length) (h : eO g (vLc vs f gt t e) σ H Q) : tLc (eI g KpG f) tgt (eT g t) (eV g e) vs σ H Q := by
  obtain ⟨Γ, Hb, ow, s, ef, S, k⟩ := h
  obtain ⟨ds, e1, ef⟩ := Option.bind_eq_some_iff.mp ef
  split at ef
  · rename_i hf
    have hf := of_decide_eq_true hf
    obtain ⟨out, e2, rfl⟩ := Option.map_eq_some_iff.mp ef
    refine ⟨Γ, Hb, ow, ds, e1, S, fun J Hb1 H1 St g1 wk st kp D hD => ?_⟩
    refine ⟨fun i m H' => m = ds.length - i ∧ i ≤ ds.length ∧ ∃ Hb' acc oacc rest, Grow Hb1 H1 Hb' H' ∧ Hb' D = none ∧ H' D = some (.lst acc) ∧ Reps g.K Hb' acc oacc ∧ acc.length ≤ i ∧ lcGo (lcStep gt t e (wipeE Γ vs)) (ds.drop i) = some rest ∧ out = oacc ++ rest,
      ⟨_, rfl, Nat.zero_le _, Hb1, [], [], out, (Grow.refl g1.same).setD hD (g1.same.free hD), g1.same.free hD, upd_same, Reps.nil, Nat.le_refl _, e2, rfl⟩, ?_⟩
    rintro i m H' ⟨rfl, hi, Hb', acc, oacc, rest, gr, hbD, hHD, ra, hla, er, eo⟩
    have st' : St Hb' H' := kp _ _ _ _ st gr
    obtain ⟨w1, w2⟩ := wk i Hb' H' gr.same st'
    by_cases hlt : i < ds.length
    · obtain ⟨go, yl⟩ := w1 (ds[i]) (by simp [hlt])
      rw [List.drop_eq_getElem_cons hlt] at er
      obtain ⟨o, e3, er⟩ := Option.bind_eq_some_iff.mp er
      obtain ⟨r, e4, er⟩ := Option.bind_eq_some_iff.mp er
      refine .inr ⟨go, fun H'' => ∃ Hb'' acc' oacc' rest', Grow Hb1 H1 Hb'' H'' ∧ Hb'' D = none ∧ H'' D = some (.lst acc') ∧ Reps g.K Hb'' acc' oacc' ∧ acc'.length ≤ i + 1 ∧ lcGo (lcStep gt t e (wipeE Γ vs)) (ds.drop (i + 1)) = some rest' ∧ out = oacc' ++ rest',
        fun H'' q => ⟨ds.length - (i + 1), by omega, rfl, hlt, q⟩, fun x Hx y => ?_⟩
      obtain ⟨Hb2, g2, r2⟩ := yl x Hx y
      obtain ⟨Γ1, e5, e3⟩ := Option.bind_eq_some_iff.mp e3
      obtain ⟨b, e6, e3⟩ := Option.bind_eq_some_iff.mp e3
      have S2 := ((S.grow g1).grow (gr.trans g2)).wiped vs
      refine ht _ _ Γ1 x _ Hb2 Hx ow _ e5 S2 r2 fun σ1 ow1 S3 same1 _ _ => ⟨?_, Γ1, Hb2, ow1, b, e6, S3, fun Hb3 H3 g3 => ?_⟩
      · refine Eq.trans (wipe_ext (σ := wipe σ vs) (by rw [← S3.len, ← S2.len]; exact tgLen e5) fun j hj => (same1 j hj).1) ?_
        exact wipe_ext (by rw [wipe_length]) fun j hj => wipe_get hj
      · have HD3 : H3 D = some (.lst acc) := g3.h _ _ (g2.h _ _ hHD)
        have hbD3 : Hb3 D = none := g3.keepNone (g2.keepNone hbD (some_ne hHD)) (some_ne (g2.h _ _ hHD))
        cases b with
        | true =>
          rw [if_pos rfl] at e3
          obtain ⟨y', e7, rfl⟩ := Option.map_eq_some_iff.mp e3
          refine iteT ⟨Γ1, Hb3, ow1, y', e7, S3.grow g3, fun v Hb4 H4 g4 r4 => ?_⟩
          have HD4 := g4.h _ _ HD3
          have hbD4 := g4.keepNone hbD3 (some_ne HD3)
          refine ⟨acc, HD4, lt_line (by omega), Hb4, acc ++ [v], oacc ++ [y'], r, (((gr.trans g2).trans g3).trans g4).setD hD hbD4, hbD4, upd_same, ?_, by simp; omega, e4, ?_⟩
          · exact (((ra.same g2.hb).same g3.hb).same g4.hb).append (Reps.one r4)
          · have er := Option.some.inj er
            rw [eo, ← er]
            simp
        | false =>
          rw [if_neg (by simp)] at e3
          cases e3
          refine iteF ⟨Hb3, acc, oacc, r, (gr.trans g2).trans g3, hbD3, HD3, (ra.same g2.hb).same g3.hb, by omega, e4, ?_⟩
          have er := Option.some.inj er
          rw [eo, ← er]
    · have : i = ds.length := by omega
      subst this
      rw [List.drop_length] at er
      cases er
      refine .inl ⟨w2 (by simp), ?_⟩
      rw [List.append_nil] at eo
      subst eo
      exact k _ Hb' H' (g1.trans gr) ⟨D, acc, rfl, g1.h.free hD, hbD, hHD, ra⟩
  · cases ef
theorem gN_len {i : Nat} {d : D} {Γ Γ1 : En} (h : gN i d Γ = some Γ1) : Γ1.length = Γ.length := by cases h; simp
theorem gsN_len : ∀ {is : List Nat} {ds : List D} {Γ Γ1 : En}, gsN is ds Γ = some Γ1 → Γ1.length = Γ.length
  | [], [], _, _, h => by cases h; rfl
  | i :: is, d :: ds, Γ, Γ1, h => by
    have := gsN_len (show gsN is ds _ = some Γ1 from h)
    simpa using this
  | [], d :: ds, _, _, h => by cases h
  | i :: is, [], _, _, h => by cases h
theorem gT_len {is : List Nat} {d : D} {Γ Γ1 : En} (h : gT is d Γ = some Γ1) : Γ1.length = Γ.length := by
  cases d with
  | tup ds => exact gsN_len (show gsN is ds Γ = some Γ1 from h)
  | _ => cases h
theorem eo_lc {vs : List Nat} {f : VL} {tgt : TG} {gt : TgF} {t : VB} {e : VF} (ht : TgOk g tgt gt vs) (tl : ∀ {d Γ Γ1}, gt d Γ = some Γ1 → Γ1.length = Γ.length) (h : PE X c (tLc (eI g KpG f) tgt (eT g t) (eV g e) vs)) : PE X c (eO g (vLc vs f gt t e)) := PE_mono h fun σ H Q q => lc_read ht tl q
end
end Z

set_option maxRecDepth 100000
namespace Z
open PySem PySem.Spec PyProof.Rows L2

/-! ### statements by values -/
inductive Out where
  | nx (Γ : En)
  | rt (s : Sl) (Γ : En)
  | bk (Γ : En)
  | ct (Γ : En)
  | ex (x : Ex) (Γ : En)
abbrev VT := (Out → Prop) → En → Prop
/-- the entry: frozen part, heap, what may be changed, the arguments, the number of slots, what is kept meanwhile -/
structure Ct where
  Hb : Hp
  H : Hp
  mu : Addr → Option Nat
  vs : List V
  kp : Addr → Option HO
def mdS : Sl → Option Md
  | .val _ => none
  | .own m _ => some m
  | .odic m _ => some m
  | .net m _ _ => some m
structure Frm (c : Ct) (Γ : En) (σ : SS) (Hb H : Hp) (ow : Addr → Option Nat) : Prop where
  hb : Same c.Hb Hb
  h : ∀ a o, c.H a = some o → c.mu a = none → H a = some o
  th : ∀ a, c.H a ≠ none → H a ≠ none
  new : ∀ a, Hb a ≠ none → c.Hb a ≠ none ∨ c.H a = none
  md : ∀ (a : Addr) (i : Nat) (s : Sl), ow a = some i → Γ[i]? = some (some s) → (mdS s = some .loc → c.H a = none) ∧ (mdS s = some .mut → c.mu a = some i)
  pin : ∀ (i : Nat) (s : Sl), Γ[i]? = some (some s) → mdS s = some .mut → ∃ v, c.vs[i]? = some v ∧ σ[i]? = some (some v)
  keep : ∀ a o, c.kp a = some o → H a = some o
  kpo : ∀ (a : Addr) (i : Nat) (s : Sl), ow a = some i → Γ[i]? = some (some s) → (mdS s = some .loc ∨ mdS s = some .mut) → c.kp a = none
theorem not_none_iff {α : Type} {o : Option α} : ¬ o ≠ none ↔ o = none := Decidable.not_not
theorem Frm.free {c : Ct} {Γ : En} {σ : SS} {Hb H : Hp} {ow : Addr → Option Nat} (F : Frm c Γ σ Hb H ow) {a : Addr} (h : H a = none) : c.H a = none := by
  cases e : c.H a with
  | none => rfl
  | some o => exact absurd h (F.th a (by rw [e]; simp))
theorem Frm.grow {c : Ct} {Γ : En} {σ : SS} {Hb H Hb' H' : Hp} {ow : Addr → Option Nat} (F : Frm c Γ σ Hb H ow) (gr : Grow Hb H Hb' H') : Frm c Γ σ Hb' H' ow := by
  refine ⟨F.hb.trans gr.hb, fun a o e n => gr.h _ _ (F.h a o e n), fun a e => ne_none_of_same gr.h (F.th a e), fun a e => ?_, F.md, F.pin, fun a o e => gr.h _ _ (F.keep a o e), F.kpo⟩
  rcases gr.new a e with q | q
  · exact F.new a q
  · exact .inr (F.free q)

/-- what is wanted behind, by values and by heaps -/
structure Lk (g : Glo) (c : Ct) (W : WX) (Q : Out → Prop) (De : Ends) : Prop where
  nx : ∀ Γ σ Hb H ow, Q (.nx Γ) → Sat g Γ σ Hb H ow → Frm c Γ σ Hb H ow → De.nx σ H
  bk : ∀ Γ σ Hb H ow, Q (.bk Γ) → Sat g Γ σ Hb H ow → Frm c Γ σ Hb H ow → De.bk σ H
  ct : ∀ Γ σ Hb H ow, Q (.ct Γ) → Sat g Γ σ Hb H ow → Frm c Γ σ Hb H ow → De.ct σ H
  rt : ∀ s Γ σ v Hb H ow, Q (.rt s Γ) → Sat g Γ σ Hb H ow → Frm c Γ σ Hb H ow → rO g c.H Hb H v s → De.rt v H
  ex : ∀ x Γ σ Hb H ow, Q (.ex x Γ) → Sat g Γ σ Hb H ow → Frm c Γ σ Hb H ow → W (.ref (g.cls x)) none σ H
def sV (g : Glo) (W : WX) (T : VT) : TS := fun De σ H => ∃ c Q Γ Hb ow, T Q Γ ∧ Sat g Γ σ Hb H ow ∧ Frm c Γ σ Hb H ow ∧ Lk g c W Q De

section
variable {X : Cx} {g : Glo} {e : Expr} {st : Stmt} {sts : List Stmt} {W : WX}

/-! ### blocks -/
def skipT : VT := fun Q Γ => Q (.nx Γ)
def thenQ (T : VT) (Q : Out → Prop) : Out → Prop
  | .nx Γ => T Q Γ
  | o => Q o
def seqT (T U : VT) : VT := fun Q Γ => T (thenQ U Q) Γ
theorem ss_nil (h : PSs X sts tNext) : PSs X sts (sV g W skipT) := PSs_mono h fun De σ H ⟨c, Q, Γ, Hb, ow, t, S, F, L⟩ => L.nx _ _ _ _ _ t S F
theorem ss_seq {T U : VT} (h : PSs X sts (tSeq (sV g W T) (sV g W U))) : PSs X sts (sV g W (seqT T U)) := PSs_mono h fun De σ H ⟨c, Q, Γ, Hb, ow, t, S, F, L⟩ =>
  ⟨c, thenQ U Q, Γ, Hb, ow, t, S, F, ⟨fun Γ1 σ1 Hb1 H1 ow1 q S1 F1 => ⟨c, Q, Γ1, Hb1, ow1, q, S1, F1, L⟩, L.bk, L.ct, L.rt, L.ex⟩⟩
theorem ss_cons {T U : VT} (h1 : PS X st (sV g W T)) (h2 : PSs X sts (sV g W U)) : PSs X (st :: sts) (sV g W (seqT T U)) := ss_seq (pss_cons h1 h2)

/-! ### return -/
def retV (f : VF) : VT := fun Q Γ => ∃ d, f Γ = some d ∧ Q (.rt (.val d) Γ)
def retO (f : VS) : VT := fun Q Γ => ∃ s, f Γ = some s ∧ Q (.rt s Γ)
theorem s_retV {f : VF} (h : PS X st (tRet (eV g f))) : PS X st (sV g W (retV f)) := PS_mono h fun De σ H ⟨c, Q, Γ, Hb, ow, ⟨d, e1, q⟩, S, F, L⟩ =>
  ⟨Γ, Hb, ow, d, e1, S, fun v Hb1 H1 g1 r => L.rt (.val d) Γ σ v Hb1 H1 ow q (S.grow g1) (F.grow g1) r⟩
theorem s_retO {f : VS} (h : PS X st (tRet (eO g f))) : PS X st (sV g W (retO f)) := PS_mono h fun De σ H ⟨c, Q, Γ, Hb, ow, ⟨s, e1, q⟩, S, F, L⟩ =>
  ⟨Γ, Hb, ow, s, e1, S, fun v Hb1 H1 g1 r => L.rt s Γ σ v Hb1 H1 ow q (S.grow g1) (F.grow g1) (Mono.back (fun a => F.free) r)⟩
def retN : VT := fun Q Γ => Q (.rt (.val .non) Γ)
theorem s_retN (h : PS X st tRetN) : PS X st (sV g W retN) := PS_mono h fun De σ H ⟨c, Q, Γ, Hb, ow, q, S, F, L⟩ => L.rt (.val .non) Γ σ .non Hb H ow q S F (show Rep g.K Hb .non .non from rep_non.mpr rfl)
def isLoc (s : Sl) : Bool := decide (mdS s = some .loc)
/-- return of a slot's own thing -/
def retS (i : Nat) : VT := fun Q Γ => ∃ s, Γ[i]? = some (some s) ∧ isLoc s = true ∧ Q (.rt s (Γ.set i none))
theorem set_none_get {Γ : En} {i j : Nat} {s : Sl} (h : (Γ.set i none)[j]? = some (some s)) : Γ[j]? = some (some s) ∧ i ≠ j := by
  by_cases q : i = j
  · subst q
    rw [List.getElem?_set] at h
    simp only [if_true] at h
    split at h
    · cases h
    · cases h
  · rw [List.getElem?_set_ne q] at h
    exact ⟨h, q⟩
theorem s_retS {i : Nat} (h : PS X st (tRet (tVar i))) : PS X st (sV g W (retS i)) := PS_mono h fun De σ H ⟨c, Q, Γ, Hb, ow, ⟨s, e1, hl, q⟩, S, F, L⟩ => by
  obtain ⟨v, z1, z2⟩ := S.slots i s e1
  have hl := of_decide_eq_true hl
  refine ⟨v, z1, L.rt s _ σ v Hb H ow q ⟨S.same, S.ows, fun j t e => S.slots j t (set_none_get e).1, by rw [List.length_set]; exact S.len⟩
    ⟨F.hb, F.h, F.th, F.new, fun a j t o e => F.md a j t o (set_none_get e).1, fun j t e => F.pin j t (set_none_get e).1, F.keep, fun a j t o e => F.kpo a j t o (set_none_get e).1⟩ ?_⟩
  have fresh : ∀ a, ow a = some i → c.H a = none ∧ Hb a = none := fun a o => ⟨(F.md a i s o e1).1 hl, (S.ows a i o).1⟩
  cases s with
  | val d => cases hl
  | own m ds =>
    obtain ⟨a, vs, rfl, o, h1, h2⟩ := z2
    exact ⟨a, vs, rfl, (fresh a o).1, (fresh a o).2, h1, h2⟩
  | odic m ks =>
    obtain ⟨a, rfl, o, h1⟩ := z2
    exact ⟨a, rfl, (fresh a o).1, (fresh a o).2, h1⟩
  | net m size ps =>
    obtain ⟨a, dx, l, vs, rfl, o, ol, h1, h2, h3⟩ := z2
    exact ⟨a, dx, l, vs, rfl, (fresh a o).1, (fresh a o).2, (fresh l ol).1, (fresh l ol).2, h1, h2, h3⟩

/-! ### a slot's own thing is frozen for good -/
def frzI (i : Nat) (Γ : En) : En := match Γ[i]? with
  | some (some s) => if isLoc s = true then Γ.set i (some (frzS s)) else Γ
  | _ => Γ
def frzT (i : Nat) (T : VT) : VT := fun Q Γ => T Q (frzI i Γ)
theorem frz_one {Γ : En} {σ : SS} {Hb H : Hp} {ow : Addr → Option Nat} {c : Ct} {i : Nat} {a : Addr} {o : HO} {s : Sl} {d : D} {v : V} (S : Sat g Γ σ Hb H ow) (F : Frm c Γ σ Hb H ow) (e1 : Γ[i]? = some (some s)) (hl : mdS s = some .loc) (hv : σ[i]? = some (some v))
    (oa : ow a = some i) (ha : H a = some o) (hr : Rep g.K (upd Hb a o) v d) : ∃ Hb' ow', Sat g (Γ.set i (some (.val d))) σ Hb' H ow' ∧ Frm c (Γ.set i (some (.val d))) σ Hb' H ow' := by
  have hb := (S.ows a i oa).1
  have sb := same_upd (o := o) hb
  refine ⟨upd Hb a o, dropOw ow i, ⟨Same.froze S.same ha, fun b j e => ?_, fun j t e => ?_, by rw [List.length_set]; exact S.len⟩, ?_⟩
  · obtain ⟨e, ne⟩ := dropOw_some e
    have nb : b ≠ a := fun z => by subst z; rw [oa] at e; exact ne (Option.some.inj e).symm
    rw [upd_ne nb]
    exact S.ows b j e
  · by_cases q : i = j
    · subst q
      rw [List.getElem?_set] at e
      simp only [if_true] at e
      split at e
      · cases e
        exact ⟨v, hv, hr⟩
      · cases e
    · rw [List.getElem?_set_ne q] at e
      obtain ⟨u, q1, q2⟩ := S.slots j t e
      refine ⟨u, q1, ?_⟩
      have q3 := q2.ow (ow' := dropOw ow i) fun a o => dropOw_ne (fun z => q z.symm) o
      cases t with
      | val d => exact Rep.same sb q3
      | own m ds => obtain ⟨b, vs, z1, z2, z3, z4⟩ := q3; exact ⟨b, vs, z1, z2, z3, z4.same sb⟩
      | odic m ks => exact q3
      | net m size ps => obtain ⟨b, dx, l, vs, z1, z2, z3, z4, z5, z6⟩ := q3; exact ⟨b, dx, l, vs, z1, z2, z3, z4, z5, z6.same sb⟩
  · have get : ∀ {j t}, j ≠ i → (Γ.set i (some (.val d)))[j]? = some (some t) → Γ[j]? = some (some t) := fun {j t} q e => by rw [List.getElem?_set_ne (Ne.symm q)] at e; exact e
    refine ⟨F.hb.trans sb, F.h, F.th, fun b e => ?_, fun b j t e e2 => ?_, fun j t e2 hm => ?_, F.keep, fun b j t e e2 => ?_⟩
    · by_cases q : b = a
      · subst q; exact .inr ((F.md b i s oa e1).1 hl)
      · rw [upd_ne q] at e; exact F.new b e
    · obtain ⟨e, ne⟩ := dropOw_some e
      exact F.md b j t e (get ne e2)
    · by_cases q : j = i
      · subst q
        rw [List.getElem?_set] at e2
        simp only [if_true] at e2
        split at e2
        · cases e2; cases hm
        · cases e2
      · exact F.pin j t (get q e2) hm
    · obtain ⟨e, ne⟩ := dropOw_some e
      exact F.kpo b j t e (get ne e2)
theorem frzI_ok {Γ : En} {σ : SS} {Hb H : Hp} {ow : Addr → Option Nat} {c : Ct} {i : Nat} (S : Sat g Γ σ Hb H ow) (F : Frm c Γ σ Hb H ow) : ∃ Hb' ow', Sat g (frzI i Γ) σ Hb' H ow' ∧ Frm c (frzI i Γ) σ Hb' H ow' := by
  unfold frzI
  split
  · rename_i s e1
    split
    · rename_i hl
      have hl := of_decide_eq_true hl
      obtain ⟨v, z1, z2⟩ := S.slots i s e1
      cases s with
      | val d => cases hl
      | own m ds =>
        obtain ⟨a, vs, rfl, o, h1, h2⟩ := z2
        exact frz_one S F e1 hl z1 o h1 (rep_lst.mpr ⟨a, vs, rfl, upd_same, h2.same (same_upd (S.ows a i o).1)⟩)
      | odic m ks =>
        obtain ⟨a, rfl, o, h1⟩ := z2
        exact frz_one S F e1 hl z1 o h1 (rep_dic.mpr ⟨a, rfl, upd_same⟩)
      | net m size ps =>
        refine ⟨Hb, ow, ?_⟩
        have e2 : Γ.set i (some (frzS (.net m size ps))) = Γ := by
          apply List.ext_getElem?
          intro j
          by_cases q : i = j
          · subst q
            rw [List.getElem?_set_self (List.getElem?_eq_some_iff.mp e1).1, e1]
            rfl
          · rw [List.getElem?_set_ne q]
        rw [e2]
        exact ⟨S, F⟩
    · exact ⟨Hb, ow, S, F⟩
  · exact ⟨Hb, ow, S, F⟩
theorem s_frz {i : Nat} {T : VT} (h : PS X st (sV g W T)) : PS X st (sV g W (frzT i T)) := PS_mono h fun De σ H ⟨c, Q, Γ, Hb, ow, t, S, F, L⟩ => by
  obtain ⟨Hb', ow', S', F'⟩ := frzI_ok (i := i) S F
  exact ⟨c, Q, _, Hb', ow', t, S', F', L⟩

/-! ### a name is stored -/
def asgV (i : Nat) (f : VF) : VT := fun Q Γ => ∃ d, f Γ = some d ∧ Q (.nx (Γ.set i (some (.val d))))
theorem Frm.setSl {Γ : En} {σ : SS} {Hb H : Hp} {ow ow' : Addr → Option Nat} {c : Ct} {i : Nat} {v : V} {s : Sl} (F : Frm c Γ σ Hb H ow) (hm : mdS s ≠ some .mut) (h1 : ∀ a j, ow' a = some j → j ≠ i → ow a = some j) (h2 : ∀ a, ow' a = some i → mdS s = some .loc → c.H a = none) (hk : ∀ a, ow' a = some i → mdS s ≠ none → c.kp a = none) :
    Frm c (Γ.set i (some s)) (σ.set i (some v)) Hb H ow' := by
  have at_i : ∀ {t}, (Γ.set i (some s))[i]? = some (some t) → t = s := fun {t} e => by
    rw [List.getElem?_set] at e
    simp only [if_true] at e
    split at e
    · cases e; rfl
    · cases e
  refine ⟨F.hb, F.h, F.th, F.new, fun a j t o e => ?_, fun j t e ht => ?_, F.keep, fun a j t o e ht => ?_⟩
  · by_cases q : j = i
    · subst q
      cases at_i e
      exact ⟨h2 a o, fun z => absurd z hm⟩
    · rw [List.getElem?_set_ne (Ne.symm q)] at e
      exact F.md a j t (h1 a j o q) e
  · by_cases q : j = i
    · subst q
      cases at_i e
      exact absurd ht hm
    · rw [List.getElem?_set_ne (Ne.symm q)] at e ⊢
      exact F.pin j t e ht
  · by_cases q : j = i
    · subst q
      cases at_i e
      exact hk a o (by rcases ht with z | z <;> rw [z] <;> simp)
    · rw [List.getElem?_set_ne (Ne.symm q)] at e
      exact F.kpo a j t (h1 a j o q) e ht
theorem Frm.setVal {Γ : En} {σ : SS} {Hb H : Hp} {ow : Addr → Option Nat} {c : Ct} {i : Nat} {v : V} {d : D} (F : Frm c Γ σ Hb H ow) : Frm c (Γ.set i (some (.val d))) (σ.set i (some v)) Hb H (dropOw ow i) :=
  F.setSl (by intro z; cases z) (fun a j e _ => (dropOw_some e).1) (fun a o z => by cases z) fun a o _ => absurd rfl (dropOw_some o).2
theorem s_asgV {i : Nat} {f : VF} (h : PS X st (tAsg (eV g f) (gName i))) : PS X st (sV g W (asgV i f)) := PS_mono h fun De σ H ⟨c, Q, Γ, Hb, ow, ⟨d, e1, q⟩, S, F, L⟩ =>
  ⟨Γ, Hb, ow, d, e1, S, fun v Hb1 H1 g1 r => L.nx _ _ Hb1 H1 _ q ((S.grow g1).setVal r) ((F.grow g1).setVal)⟩
def locS : Sl → Sl
  | .val d => .val d
  | .own _ ds => .own .loc ds
  | .odic _ ks => .odic .loc ks
  | .net _ size ps => .net .loc size ps
theorem set_at {Γ : En} {i : Nat} {s t : Sl} (e : (Γ.set i (some s))[i]? = some (some t)) : t = s := by
  rw [List.getElem?_set] at e
  simp only [if_true] at e
  split at e
  · cases e; rfl
  · cases e
/-- a new thing comes into the slot i -/
theorem setO2 {Γ : En} {σ : SS} {Hb1 H H1 : Hp} {ow : Addr → Option Nat} {c : Ct} {i : Nat} {v : V} {s : Sl} (S1 : Sat g Γ σ Hb1 H1 ow) (F1 : Frm c Γ σ Hb1 H1 ow) (hw : ∀ a j, ow a = some j → H a ≠ none) (hkp : ∀ a o, c.kp a = some o → H a = some o) (hf : ∀ a, H a = none → c.H a = none) (r : rO g H Hb1 H1 v s) :
    ∃ ow', Sat g (Γ.set i (some (locS s))) (σ.set i (some v)) Hb1 H1 ow' ∧ Frm c (Γ.set i (some (locS s))) (σ.set i (some v)) Hb1 H1 ow' := by
  -- what is owned from now on, by a look at the addresses
  have main : ∀ (own : Addr → Prop) [DecidablePred own], (∀ a, own a → H a = none ∧ Hb1 a = none ∧ H1 a ≠ none) → (SlOk g Hb1 H1 (fun a => if own a then some i else dropOw ow i a) i v (locS s)) → mdS (locS s) ≠ some .mut →
      ∃ ow', Sat g (Γ.set i (some (locS s))) (σ.set i (some v)) Hb1 H1 ow' ∧ Frm c (Γ.set i (some (locS s))) (σ.set i (some v)) Hb1 H1 ow' := fun own _ ho sl hm => by
    refine ⟨fun a => if own a then some i else dropOw ow i a, ⟨S1.same, fun a j e => ?_, fun j t e => ?_, by rw [List.length_set, List.length_set, S1.len]⟩, ?_⟩
    · split at e
      · rename_i h
        exact ⟨(ho a h).2.1, (ho a h).2.2⟩
      · exact S1.ows a j (dropOw_some e).1
    · by_cases q : i = j
      · subst q
        have hi : i < Γ.length := by
          have := (List.getElem?_eq_some_iff.mp e).1
          simpa using this
        cases set_at e
        exact ⟨v, by rw [List.getElem?_set_self (by rw [← S1.len]; exact hi)], sl⟩
      · rw [List.getElem?_set_ne q] at e
        obtain ⟨u, q1, q2⟩ := S1.slots j t e
        refine ⟨u, by rw [List.getElem?_set_ne q]; exact q1, q2.ow fun a o => ?_⟩
        have na : ¬ own a := fun z => by
          exact hw a j o (ho a z).1
        show (if own a then some i else dropOw ow i a) = some j
        rw [if_neg na]
        exact dropOw_ne (fun z => q z.symm) o
    · refine F1.setSl hm (fun a j e hj => ?_) (fun a e _ => ?_) (fun a e _ => ?_)
      · split at e
        · exact absurd (Option.some.inj e).symm hj
        · exact (dropOw_some e).1
      · split at e
        · rename_i h
          exact hf a (ho a h).1
        · exact absurd rfl (dropOw_some e).2
      · split at e
        · rename_i h
          cases z : c.kp a with
          | none => rfl
          | some o =>
            have q := (ho a h).1
            rw [hkp a o z] at q
            cases q
        · exact absurd rfl (dropOw_some e).2
  cases s with
  | val d => exact main (fun _ => False) (fun a h => h.elim) r (by intro z; cases z)
  | own m ds =>
    obtain ⟨a, vs, rfl, h0, hb, h1, h2⟩ := r
    refine main (fun b => b = a) (fun b e => by subst e; exact ⟨h0, hb, some_ne h1⟩) ⟨a, vs, rfl, by simp, h1, h2⟩ (by intro z; cases z)
  | odic m ks =>
    obtain ⟨a, rfl, h0, hb, h1⟩ := r
    refine main (fun b => b = a) (fun b e => by subst e; exact ⟨h0, hb, some_ne h1⟩) ⟨a, rfl, by simp, h1⟩ (by intro z; cases z)
  | net m size ps =>
    obtain ⟨a, dx, l, vs, rfl, h0, hb, l0, lb, h1, h2, h3⟩ := r
    refine main (fun b => b = a ∨ b = l) (fun b e => by
      rcases e with rfl | rfl
      · exact ⟨h0, hb, some_ne h1⟩
      · exact ⟨l0, lb, some_ne h2⟩) ⟨a, dx, l, vs, rfl, by simp, by simp, h1, h2, h3⟩ (by intro z; cases z)
theorem setO {Γ : En} {σ : SS} {Hb H Hb1 H1 : Hp} {ow : Addr → Option Nat} {c : Ct} {i : Nat} {v : V} {s : Sl} (S : Sat g Γ σ Hb H ow) (F : Frm c Γ σ Hb H ow) (g1 : Grow Hb H Hb1 H1) (r : rO g H Hb1 H1 v s) :
    ∃ ow', Sat g (Γ.set i (some (locS s))) (σ.set i (some v)) Hb1 H1 ow' ∧ Frm c (Γ.set i (some (locS s))) (σ.set i (some v)) Hb1 H1 ow' :=
  setO2 (S.grow g1) (F.grow g1) (fun a j o => (S.ows a j o).2) (fun a o e => F.keep a o e) (fun a => F.free) r
def asgO (i : Nat) (f : VS) : VT := fun Q Γ => ∃ s, f Γ = some s ∧ Q (.nx (Γ.set i (some (locS s))))
theorem s_asgO {i : Nat} {f : VS} (h : PS X st (tAsg (eO g f) (gName i))) : PS X st (sV g W (asgO i f)) := PS_mono h fun De σ H ⟨c, Q, Γ, Hb, ow, ⟨s, e1, q⟩, S, F, L⟩ =>
  ⟨Γ, Hb, ow, s, e1, S, fun v Hb1 H1 g1 r => by
    obtain ⟨ow', S', F'⟩ := setO S F g1 r
    exact L.nx _ _ Hb1 H1 _ q S' F'⟩
def rsT (Q : Out → Prop) (Γ : En) (k : Sl → Prop) : Rs → Prop
  | .inl s => k s
  | .inr x => Q (.ex x Γ)
def asgX (i : Nat) (f : En → Option Rs) : VT := fun Q Γ => ∃ r, f Γ = some r ∧ rsT Q Γ (fun s => Q (.nx (Γ.set i (some (locS s))))) r
theorem s_asgX {i : Nat} {f : En → Option Rs} (h : PS X st (tAsg (eX g W f) (gName i))) : PS X st (sV g W (asgX i f)) := PS_mono h fun De σ H ⟨c, Q, Γ, Hb, ow, ⟨r, e1, q⟩, S, F, L⟩ => by
  refine ⟨Γ, Hb, ow, r, e1, S, ?_⟩
  cases r with
  | inl s =>
    intro v Hb1 H1 g1 r
    obtain ⟨ow', S', F'⟩ := setO S F g1 r
    exact L.nx _ _ Hb1 H1 _ q S' F'
  | inr x => exact fun Hb1 H1 g1 => L.ex x Γ σ Hb1 H1 ow q (S.grow g1) (F.grow g1)
def exprX (f : En → Option Rs) : VT := fun Q Γ => ∃ r, f Γ = some r ∧ rsT Q Γ (fun _ => Q (.nx Γ)) r
theorem s_exprX {f : En → Option Rs} (h : PS X st (tDrop (eX g W f))) : PS X st (sV g W (exprX f)) := PS_mono h fun De σ H ⟨c, Q, Γ, Hb, ow, ⟨r, e1, q⟩, S, F, L⟩ => by
  refine ⟨Γ, Hb, ow, r, e1, S, ?_⟩
  cases r with
  | inl s => exact fun v Hb1 H1 g1 r => L.nx Γ σ Hb1 H1 ow q (S.grow g1) (F.grow g1)
  | inr x => exact fun Hb1 H1 g1 => L.ex x Γ σ Hb1 H1 ow q (S.grow g1) (F.grow g1)
def raiseT (x : Ex) : VT := fun Q Γ => Q (.ex x Γ)
theorem s_raise {x : Ex} (h : PS X st (fun _ σ H => W (.ref (g.cls x)) none σ H)) : PS X st (sV g W (raiseT x)) := PS_mono h fun De σ H ⟨c, Q, Γ, Hb, ow, q, S, F, L⟩ => L.ex x Γ σ Hb H ow q S F

/-! ### if, while, for -/
def ifT (t : VB) (T U : VT) : VT := fun Q Γ => ∃ b, t Γ = some b ∧ (b = true → T Q Γ) ∧ (b = false → U Q Γ)
theorem s_if {t : VB} {T U : VT} (h : PS X st (tIfS (eT g t) (sV g W T) (sV g W U))) : PS X st (sV g W (ifT t T U)) := PS_mono h fun De σ H ⟨c, Q, Γ, Hb, ow, ⟨b, e1, q1, q2⟩, S, F, L⟩ =>
  ⟨Γ, Hb, ow, b, e1, S, fun Hb1 H1 g1 => by
    cases b with
    | true => exact iteT ⟨c, Q, Γ, Hb1, ow, q1 rfl, S.grow g1, F.grow g1, L⟩
    | false => exact iteF ⟨c, Q, Γ, Hb1, ow, q2 rfl, S.grow g1, F.grow g1, L⟩⟩
def loopQ (k : En → Prop) (Q : Out → Prop) : Out → Prop
  | .nx Γ => k Γ
  | .ct Γ => k Γ
  | .bk Γ => Q (.nx Γ)
  | o => Q o
def whileT (t : VB) (T : VT) : VT := fun Q Γ => ∃ I : Nat → En → Prop, (∃ m, I m Γ) ∧ ∀ m Γ, I m Γ → ∃ b, t Γ = some b ∧ (b = true → T (loopQ (fun Γ' => ∃ m', m' < m ∧ I m' Γ') Q) Γ) ∧ (b = false → Q (.nx Γ))
theorem s_while {t : VB} {T : VT} (h : PS X st (tWhile (eT g t) (sV g W T))) : PS X st (sV g W (whileT t T)) := PS_mono h fun De σ H ⟨c, Q, Γ, Hb, ow, ⟨I, ⟨m0, i0⟩, turn⟩, S, F, L⟩ => by
  refine ⟨fun m σ H => ∃ Γ Hb ow, I m Γ ∧ Sat g Γ σ Hb H ow ∧ Frm c Γ σ Hb H ow, ⟨m0, Γ, Hb, ow, i0, S, F⟩, ?_⟩
  rintro m σ1 H1 ⟨Γ1, Hb1, ow1, i1, S1, F1⟩
  obtain ⟨b, e1, q1, q2⟩ := turn m Γ1 i1
  refine ⟨Γ1, Hb1, ow1, b, e1, S1, fun Hb2 H2 g2 => ?_⟩
  cases b with
  | true =>
    refine iteT ⟨fun σ H => ∃ m', m' < m ∧ ∃ Γ Hb ow, I m' Γ ∧ Sat g Γ σ Hb H ow ∧ Frm c Γ σ Hb H ow, fun σ' H' ⟨m', hm, q⟩ => ⟨m', hm, q⟩, c, _, Γ1, Hb2, ow1, q1 rfl, S1.grow g2, F1.grow g2, ?_⟩
    exact ⟨fun Γ σ Hb H ow ⟨m', hm, q⟩ S F => ⟨m', hm, Γ, Hb, ow, q, S, F⟩, fun Γ σ Hb H ow q S F => L.nx Γ σ Hb H ow q S F, fun Γ σ Hb H ow ⟨m', hm, q⟩ S F => ⟨m', hm, Γ, Hb, ow, q, S, F⟩, L.rt, L.ex⟩
  | false => exact iteF (L.nx Γ1 σ1 Hb2 H2 ow1 (q2 rfl) (S1.grow g2) (F1.grow g2))
def loopT (gt : TgF) (T : VT) : List D → VT
  | [] => fun Q Γ => Q (.nx Γ)
  | d :: ds => fun Q Γ => ∃ Γ1, gt d Γ = some Γ1 ∧ T (loopQ (fun Γ' => loopT gt T ds Q Γ') Q) Γ1
def forT (f : VL) (gt : TgF) (T : VT) : VT := fun Q Γ => ∃ ds, f Γ = some ds ∧ loopT gt T ds Q Γ
/-- as c, with the frozen part of now, and more kept -/
theorem Frm.target {Γ Γ1 : En} {σ σ1 : SS} {Hb H : Hp} {ow ow1 : Addr → Option Nat} {c : Ct} {vs : List Nat} (F : Frm c Γ σ Hb H ow) (h1 : ∀ j, j ∉ vs → σ1[j]? = σ[j]? ∧ Γ1[j]? = Γ[j]?) (h2 : ∀ a j, ow1 a = some j → ow a = some j) (hv : ∀ j ∈ vs, ∀ s, Γ1[j]? = some (some s) → mdS s = none) : Frm c Γ1 σ1 Hb H ow1 := by
  refine ⟨F.hb, F.h, F.th, F.new, fun a j t o e => ?_, fun j t e ht => ?_, F.keep, fun a j t o e ht => ?_⟩
  · by_cases q : j ∈ vs
    · rw [hv j q t e]
      exact ⟨fun z => (nomatch z), fun z => (nomatch z)⟩
    · rw [(h1 j q).2] at e
      exact F.md a j t (h2 a j o) e
  · by_cases q : j ∈ vs
    · rw [hv j q t e] at ht
      cases ht
    · rw [(h1 j q).2] at e
      rw [(h1 j q).1]
      exact F.pin j t e ht
  · by_cases q : j ∈ vs
    · rw [hv j q t e] at ht
      rcases ht with z | z <;> cases z
    · rw [(h1 j q).2] at e
      exact F.kpo a j t (h2 a j o) e ht

def valD (Γ Γ1 : En) : Prop := True
theorem gN_val {i : Nat} {d : D} {Γ Γ1 : En} (h : gN i d Γ = some Γ1) : ∀ j ∈ [i], ∀ s, Γ1[j]? = some (some s) → mdS s = none := by
  cases h
  intro j hj s e
  simp only [List.mem_singleton] at hj
  subst hj
  cases set_at e
  rfl
theorem gsN_val : ∀ {is : List Nat} {ds : List D} {Γ Γ1 : En}, gsN is ds Γ = some Γ1 → (∀ j ∈ is, ∀ (s : Sl), Γ1[j]? = some (some s) → mdS s = none) ∧ ∀ (j : Nat), (∀ (s : Sl), Γ[j]? = some (some s) → mdS s = none) → ∀ (s : Sl), Γ1[j]? = some (some s) → mdS s = none
  | [], [], Γ, Γ1, h => by cases h; exact ⟨fun j hj => (nomatch hj), fun j q => q⟩
  | i :: is, d :: ds, Γ, Γ1, h => by
    obtain ⟨q1, q2⟩ := gsN_val (show gsN is ds _ = some Γ1 from h)
    refine ⟨fun j hj => ?_, fun j q => q2 j fun s e => ?_⟩
    · rcases List.mem_cons.mp hj with rfl | hj
      · exact q2 j fun s e => by cases set_at e; rfl
      · exact q1 j hj
    · by_cases z : i = j
      · subst z; cases set_at e; rfl
      · rw [List.getElem?_set_ne z] at e; exact q s e
  | [], d :: ds, _, _, h => by cases h
  | i :: is, [], _, _, h => by cases h
/-- what a target stores is frozen data -/
def TgV (gt : TgF) (vs : List Nat) : Prop := ∀ d Γ Γ1, gt d Γ = some Γ1 → ∀ j ∈ vs, ∀ s, Γ1[j]? = some (some s) → mdS s = none
theorem tv_name {i : Nat} : TgV (gN i) [i] := fun d Γ Γ1 h => gN_val h
theorem tv_tup {is : List Nat} : TgV (gT is) is := fun d Γ Γ1 h => by
  cases d with
  | tup ds => exact (gsN_val (show gsN is ds Γ = some Γ1 from h)).1
  | _ => cases h
theorem loop_read {f : VL} {tgt : TG} {gt : TgF} {vs : List Nat} {T : VT} {J : It} {ds : List D} {St : Hp → Hp → Prop} {c : Ct} {Q : Out → Prop} {De : Ends} {Γ : En} {σ : SS} {Hb H : Hp} {ow : Addr → Option Nat} (ht : TgOk g tgt gt vs) (hv : TgV gt vs)
    (wk : WkOk g J ds St) (st : St Hb H) (stk : ∀ Γ' σ' Hb' H' ow', Frm c Γ' σ' Hb' H' ow' → Same Hb' H' → St Hb' H') (t : loopT gt T ds Q Γ) (S : Sat g Γ σ Hb H ow) (F : Frm c Γ σ Hb H ow) (L : Lk g c W Q De) :
    ∃ W' : Nat → Nat → SS → Hp → Prop, (∃ m, W' 0 m σ H) ∧ ∀ i m σ H, W' i m σ H → (J.stop i H ∧ De.nx σ H) ∨ (J.go i H ∧ ∃ N : SS → Hp → Prop, (∀ σ' H', N σ' H' → ∃ m', m' < m ∧ W' (i + 1) m' σ' H') ∧ ∀ x H', J.yld i H x H' → tgt x σ H' fun σ2 H2 => sV g W T { De with nx := N, ct := N, bk := De.nx } σ2 H2) := by
  refine ⟨fun i m σ H => m = ds.length - i ∧ i ≤ ds.length ∧ ∃ Γ Hb ow, loopT gt T (ds.drop i) Q Γ ∧ Sat g Γ σ Hb H ow ∧ Frm c Γ σ Hb H ow, ⟨_, rfl, Nat.zero_le _, Γ, Hb, ow, t, S, F⟩, ?_⟩
  rintro i m σ1 H1 ⟨rfl, hi, Γ1, Hb1, ow1, t1, S1, F1⟩
  obtain ⟨w1, w2⟩ := wk i Hb1 H1 S1.same (stk _ _ _ _ _ F1 S1.same)
  by_cases hlt : i < ds.length
  · obtain ⟨go, yl⟩ := w1 (ds[i]) (by simp [hlt])
    rw [List.drop_eq_getElem_cons hlt] at t1
    obtain ⟨Γ2, e2, t2⟩ := t1
    refine .inr ⟨go, fun σ H => ∃ Γ Hb ow, loopT gt T (ds.drop (i + 1)) Q Γ ∧ Sat g Γ σ Hb H ow ∧ Frm c Γ σ Hb H ow, fun σ' H' q => ⟨_, by omega, rfl, hlt, q⟩, fun x H' y => ?_⟩
    obtain ⟨Hb2, g2, r2⟩ := yl x H' y
    refine ht _ _ Γ2 x σ1 Hb2 H' ow1 _ e2 (S1.grow g2) r2 fun σ2 ow2 S2 same2 h2 _ => ?_
    refine ⟨c, _, Γ2, Hb2, ow2, t2, S2, (F1.grow g2).target same2 h2 (hv _ _ _ e2), ?_⟩
    exact ⟨fun Γ σ Hb H ow q S F => ⟨Γ, Hb, ow, q, S, F⟩, fun Γ σ Hb H ow q S F => L.nx Γ σ Hb H ow q S F, fun Γ σ Hb H ow q S F => ⟨Γ, Hb, ow, q, S, F⟩, L.rt, L.ex⟩
  · have : i = ds.length := by omega
    subst this
    rw [List.drop_length] at t1
    exact .inl ⟨w2 (by simp), L.nx Γ1 σ1 Hb1 H1 ow1 t1 S1 F1⟩
theorem s_for {f : VL} {tgt : TG} {gt : TgF} {vs : List Nat} {T : VT} (ht : TgOk g tgt gt vs) (hv : TgV gt vs) (h : PS X st (tFor (eI g KpS f) tgt (sV g W T))) : PS X st (sV g W (forT f gt T)) := PS_mono h fun De σ H ⟨c, Q, Γ, Hb, ow, ⟨ds, e1, t⟩, S, F, L⟩ => by
  refine ⟨Γ, Hb, ow, ds, e1, S, fun J Hb1 H1 St g1 wk st kp => ?_⟩
  -- from here on the frozen part is looked at from Hb1
  have back : ∀ {Γ' σ' Hb' H' ow'}, Frm { c with Hb := Hb1 } Γ' σ' Hb' H' ow' → Frm c Γ' σ' Hb' H' ow' := fun {Γ' σ' Hb' H' ow'} F' =>
    ⟨(F.hb.trans g1.hb).trans F'.hb, F'.h, F'.th, fun a e => (F'.new a e).elim (fun q => (F.grow g1).new a q) .inr, F'.md, F'.pin, F'.keep, F'.kpo⟩
  have F1 : Frm { c with Hb := Hb1 } Γ σ Hb1 H1 ow := by
    have z := F.grow g1
    exact ⟨Same.refl _, z.h, z.th, fun a e => .inl e, z.md, z.pin, z.keep, z.kpo⟩
  have L1 : Lk g { c with Hb := Hb1 } W Q De := ⟨fun Γ σ Hb H ow q S F => L.nx Γ σ Hb H ow q S (back F), fun Γ σ Hb H ow q S F => L.bk Γ σ Hb H ow q S (back F), fun Γ σ Hb H ow q S F => L.ct Γ σ Hb H ow q S (back F),
    fun s Γ σ v Hb H ow q S F => L.rt s Γ σ v Hb H ow q S (back F), fun x Γ σ Hb H ow q S F => L.ex x Γ σ Hb H ow q S (back F)⟩
  exact loop_read (c := { c with Hb := Hb1 }) (f := f) ht hv wk st (fun Γ' σ' Hb' H' ow' F' sm => kp _ _ _ _ st ⟨F'.hb, sm⟩) t (S.grow g1) F1 L1
/-- over a list that a slot may only read -/
def roL (i : Nat) : VL := fun Γ => match Γ[i]? with
  | some (some (.own .ro ds)) => some ds
  | some (some (.val (.lst ds))) => some ds
  | _ => none
theorem s_forRo {i : Nat} {tgt : TG} {gt : TgF} {vs : List Nat} {T : VT} (ht : TgOk g tgt gt vs) (hv : TgV gt vs) (h : PS X st (tFor (iList g.K (tVar i)) tgt (sV g W T))) : PS X st (sV g W (forT (roL i) gt T)) := PS_mono h fun De σ H ⟨c, Q, Γ, Hb, ow, ⟨ds, e1, t⟩, S, F, L⟩ => by
  unfold roL at e1
  split at e1
  · rename_i ds' e0
    cases e1
    obtain ⟨v, z1, a, us, rfl, o, h1, h2⟩ := S.slots i _ e0
    refine ⟨_, z1, a, rfl, ⟨us, SqL.of h1⟩, ?_⟩
    have back : ∀ {Γ' σ' Hb' H' ow'}, Frm { c with Hb := Hb, kp := fun b => if b = a then some (.lst us) else c.kp b } Γ' σ' Hb' H' ow' → Frm c Γ' σ' Hb' H' ow' := fun {Γ' σ' Hb' H' ow'} F' => by
      refine ⟨F.hb.trans F'.hb, F'.h, F'.th, fun a e => (F'.new a e).elim (fun q => F.new a q) .inr, F'.md, F'.pin, fun b o e => F'.keep b o ?_, fun b j s o e m => ?_⟩
      · show (if b = a then some (HO.lst us) else c.kp b) = some o
        split
        · rename_i hb
          subst hb
          rw [F.keep _ _ e] at h1
          exact h1.symm
        · exact e
      · have q := F'.kpo b j s o e m
        dsimp only at q
        split at q
        · cases q
        · exact q
    have F1 : Frm { c with Hb := Hb, kp := fun b => if b = a then some (.lst us) else c.kp b } Γ σ Hb H ow := by
      refine ⟨Same.refl _, F.h, F.th, fun a e => .inl e, F.md, F.pin, fun b o' e => ?_, fun b j s o' e m => ?_⟩
      · dsimp only at e
        split at e
        · rename_i hb; subst hb; cases e; exact h1
        · exact F.keep b o' e
      · dsimp only
        split
        · rename_i hb
          subst hb
          rw [o] at o'
          cases o'
          rw [e0] at e
          cases e
          rcases m with m | m <;> cases m
        · exact F.kpo b j s o' e m
    have L1 : Lk g { c with Hb := Hb, kp := fun b => if b = a then some (.lst us) else c.kp b } W Q De := ⟨fun Γ σ Hb H ow q S F => L.nx Γ σ Hb H ow q S (back F), fun Γ σ Hb H ow q S F => L.bk Γ σ Hb H ow q S (back F), fun Γ σ Hb H ow q S F => L.ct Γ σ Hb H ow q S (back F),
      fun s Γ σ v Hb H ow q S F => L.rt s Γ σ v Hb H ow q S (back F), fun x Γ σ Hb H ow q S F => L.ex x Γ σ Hb H ow q S (back F)⟩
    refine loop_read (c := { c with Hb := Hb, kp := fun b => if b = a then some (.lst us) else c.kp b }) (f := roL i) ht hv (list_wk (vs := us) (St := fun Hb H => H a = some (.lst us) ∧ Reps g.K Hb us ds) fun Hb H sm st => st) ⟨h1, h2⟩ (fun Γ' σ' Hb' H' ow' F' sm => ⟨F'.keep a _ (if_pos rfl), h2.same F'.hb⟩) t S F1 L1
  · rename_i ds' e0
    cases e1
    obtain ⟨v, z1, z2⟩ := S.slots i _ e0
    obtain ⟨a, us, rfl, h1, h2⟩ := rep_lst.mp (show Rep g.K Hb v (.lst ds) from z2)
    refine ⟨_, z1, a, rfl, ⟨us, SqL.of (S.same _ _ h1)⟩, ?_⟩
    have back : ∀ {Γ' σ' Hb' H' ow'}, Frm { c with Hb := Hb } Γ' σ' Hb' H' ow' → Frm c Γ' σ' Hb' H' ow' := fun {Γ' σ' Hb' H' ow'} F' =>
      ⟨F.hb.trans F'.hb, F'.h, F'.th, fun a e => (F'.new a e).elim (fun q => F.new a q) .inr, F'.md, F'.pin, F'.keep, F'.kpo⟩
    have L1 : Lk g { c with Hb := Hb } W Q De := ⟨fun Γ σ Hb H ow q S F => L.nx Γ σ Hb H ow q S (back F), fun Γ σ Hb H ow q S F => L.bk Γ σ Hb H ow q S (back F), fun Γ σ Hb H ow q S F => L.ct Γ σ Hb H ow q S (back F),
      fun s Γ σ v Hb H ow q S F => L.rt s Γ σ v Hb H ow q S (back F), fun x Γ σ Hb H ow q S F => L.ex x Γ σ Hb H ow q S (back F)⟩
    exact loop_read (c := { c with Hb := Hb }) (f := roL i) ht hv (list_wk (vs := us) (St := fun Hb H => Hb a = some (.lst us) ∧ Reps g.K Hb us ds) fun Hb H sm st => ⟨sm _ _ st.1, st.2⟩) ⟨h1, h2⟩ (fun Γ' σ' Hb' H' ow' F' sm => ⟨F'.hb _ _ h1, h2.same F'.hb⟩) t S
      ⟨Same.refl _, F.h, F.th, fun a e => .inl e, F.md, F.pin, F.keep, F.kpo⟩ L1
  · cases e1

/-! ### what a slot owns is changed -/
theorem Sat.change {Γ : En} {σ : SS} {Hb H : Hp} {ow : Addr → Option Nat} {i : Nat} {a : Addr} {o : HO} {s' : Sl} {v : V} (S : Sat g Γ σ Hb H ow) (oa : ow a = some i) (hv : σ[i]? = some (some v)) (hs : SlOk g Hb (upd H a o) ow i v s') : Sat g (Γ.set i (some s')) σ Hb (upd H a o) ow := by
  refine ⟨fun b u e => ?_, fun b j e => ?_, fun j t e => ?_, by rw [List.length_set]; exact S.len⟩
  · have nb : b ≠ a := fun z => by subst z; rw [(S.ows b i oa).1] at e; cases e
    rw [upd_ne nb]
    exact S.same b u e
  · obtain ⟨h1, h2⟩ := S.ows b j e
    refine ⟨h1, ?_⟩
    by_cases q : b = a
    · subst q; rw [upd_same]; simp
    · rw [upd_ne q]; exact h2
  · by_cases q : i = j
    · subst q
      cases set_at e
      exact ⟨v, hv, hs⟩
    · rw [List.getElem?_set_ne q] at e
      obtain ⟨u, q1, q2⟩ := S.slots j t e
      refine ⟨u, q1, ?_⟩
      have ne : ∀ b, ow b = some j → b ≠ a := fun b hb z => by subst z; rw [oa] at hb; exact q (Option.some.inj hb)
      cases t with
      | val d => exact q2
      | own m ds => obtain ⟨b, vs, z1, z2, z3, z4⟩ := q2; exact ⟨b, vs, z1, z2, by rw [upd_ne (ne b z2)]; exact z3, z4⟩
      | odic m ks => obtain ⟨b, z1, z2, z3⟩ := q2; exact ⟨b, z1, z2, by rw [upd_ne (ne b z2)]; exact z3⟩
      | net m size ps => obtain ⟨b, dx, l, vs, z1, z2, z3, z4, z5, z6⟩ := q2; exact ⟨b, dx, l, vs, z1, z2, z3, by rw [upd_ne (ne b z2)]; exact z4, by rw [upd_ne (ne l z3)]; exact z5, z6⟩
theorem Frm.change {Γ : En} {σ : SS} {Hb H : Hp} {ow : Addr → Option Nat} {c : Ct} {i : Nat} {a : Addr} {o : HO} {s s' : Sl} (F : Frm c Γ σ Hb H ow) (oa : ow a = some i) (e1 : Γ[i]? = some (some s)) (hm : mdS s = some .loc ∨ mdS s = some .mut) (he : mdS s' = mdS s) : Frm c (Γ.set i (some s')) σ Hb (upd H a o) ow := by
  have kn := F.kpo a i s oa e1 hm
  have get : ∀ {j t}, (Γ.set i (some s'))[j]? = some (some t) → ∃ t', Γ[j]? = some (some t') ∧ mdS t' = mdS t := fun {j t} e => by
    by_cases q : i = j
    · subst q; cases set_at e; exact ⟨s, e1, he.symm⟩
    · rw [List.getElem?_set_ne q] at e; exact ⟨t, e, rfl⟩
  refine ⟨F.hb, fun b u e nm => ?_, fun b e => ?_, F.new, fun b j t e e2 => ?_, fun j t e ht => ?_, fun b u e => ?_, fun b j t e e2 ht => ?_⟩
  · have nb : b ≠ a := fun z => by
      subst z
      rcases hm with hm | hm
      · rw [(F.md b i s oa e1).1 hm] at e; cases e
      · rw [(F.md b i s oa e1).2 hm] at nm; cases nm
    rw [upd_ne nb]
    exact F.h b u e nm
  · by_cases q : b = a
    · subst q; rw [upd_same]; simp
    · rw [upd_ne q]; exact F.th b e
  · obtain ⟨t', z1, z2⟩ := get e2
    rw [← z2]
    exact F.md b j t' e z1
  · obtain ⟨t', z1, z2⟩ := get e
    rw [← z2] at ht
    exact F.pin j t' z1 ht
  · have nb : b ≠ a := fun z => by subst z; rw [kn] at e; cases e
    rw [upd_ne nb]
    exact F.keep b u e
  · obtain ⟨t', z1, z2⟩ := get e2
    rw [← z2] at ht
    exact F.kpo b j t' e z1 ht
def ownT (i : Nat) (K : Md → List D → Prop) (Γ : En) : Prop := match Γ[i]? with
  | some (some (.own m ds)) => m ≠ .ro ∧ K m ds
  | _ => False
theorem ownT_get {i : Nat} {K : Md → List D → Prop} {Γ : En} (h : ownT i K Γ) : ∃ m ds, Γ[i]? = some (some (.own m ds)) ∧ m ≠ .ro ∧ K m ds := by
  unfold ownT at h
  split at h
  · exact ⟨_, _, by assumption, h.1, h.2⟩
  · exact h.elim
theorem md_cases {m : Md} (h : m ≠ .ro) : some m = some Md.loc ∨ some m = some Md.mut := by
  cases m <;> simp_all
def appT (i : Nat) (f : VF) : VT := fun Q Γ => ownT i (fun m ds => ∃ d, f Γ = some d ∧ ds.length ≤ 1000000 ∧ Q (.nx (Γ.set i (some (.own m (ds ++ [d])))))) Γ
theorem tyV_lst {K : PySem.W.Frag} {a : Addr} {vs : List V} {H : Hp} (h : H a = some (.lst vs)) : tyV K "list" (.ref a) H := .inl ⟨rfl, _, SqL.of h⟩
theorem s_app {i : Nat} {f : VF} (h : PS X st (tDrop (tBM g.K "list" rAppend (tVar i) (tCons (eV g f) tNil)))) : PS X st (sV g W (appT i f)) := PS_mono h fun De σ H ⟨c, Q, Γ, Hb, ow, t, S, F, L⟩ => by
  obtain ⟨m, ds, e0, hm, d, e1, hl, q⟩ := ownT_get t
  obtain ⟨v, z1, a, vs, rfl, o, h1, h2⟩ := S.slots i _ e0
  refine ⟨_, z1, tyV_lst h1, Γ, Hb, ow, d, e1, S, fun u Hb1 H1 g1 r => ?_⟩
  have h1' := g1.h _ _ h1
  refine ⟨a, vs, u, rfl, rfl, h1', lt_line (by rw [h2.len]; exact hl), ?_⟩
  exact L.nx _ σ Hb1 _ ow q ((S.grow g1).change o z1 ⟨a, _, rfl, o, upd_same, (h2.same g1.hb).append (Reps.one r)⟩) ((F.grow g1).change o e0 (md_cases hm) rfl)
/-- x[k] = e -/
def setT (i : Nat) (fi fv : VF) : VT := fun Q Γ => ownT i (fun m ds => ∃ d k j, fv Γ = some d ∧ fi Γ = some (.int k) ∧ ixN ds.length k = some j ∧ Q (.nx (Γ.set i (some (.own m (ds.set j d)))))) Γ
theorem s_set {i : Nat} {fi fv : VF} (h : PS X st (tAsg (eV g fv) (gSub (tVar i) (eV g fi) rSetL))) : PS X st (sV g W (setT i fi fv)) := PS_mono h fun De σ H ⟨c, Q, Γ, Hb, ow, t, S, F, L⟩ => by
  obtain ⟨m, ds, e0, hm, d, k, j, e1, e2, e3, q⟩ := ownT_get t
  obtain ⟨v, z1, a, vs, rfl, o, h1, h2⟩ := S.slots i _ e0
  refine ⟨Γ, Hb, ow, d, e1, S, fun u Hb1 H1 g1 r => ⟨_, z1, Γ, Hb1, ow, _, e2, S.grow g1, fun w Hb2 H2 g2 r2 => ?_⟩⟩
  have h1' := g2.h _ _ (g1.h _ _ h1)
  refine ⟨a, vs, k, j, rfl, rep_int.mp r2, h1', by rw [h2.len]; exact e3, ?_⟩
  have g12 := g1.trans g2
  exact L.nx _ σ Hb2 _ ow q ((S.grow g12).change o z1 ⟨a, _, rfl, o, upd_same, (h2.same g12.hb).set (Rep.same g2.hb r)⟩) ((F.grow g12).change o e0 (md_cases hm) rfl)
def dicT (i : Nat) (K : Md → List Int → Prop) (Γ : En) : Prop := match Γ[i]? with
  | some (some (.odic m ds)) => m ≠ .ro ∧ K m ds
  | _ => False
theorem dicT_get {i : Nat} {K : Md → List Int → Prop} {Γ : En} (h : dicT i K Γ) : ∃ m ds, Γ[i]? = some (some (.odic m ds)) ∧ m ≠ .ro ∧ K m ds := by
  unfold dicT at h
  split at h
  · exact ⟨_, _, by assumption, h.1, h.2⟩
  · exact h.elim
def putI (ks : List Int) (n : Int) : List Int := if n ∈ ks then ks else ks ++ [n]
theorem put_dk (n : Int) (ks : List Int) : putK (dk ks) (Sum.inl n) (.bl true) = dk (putI ks n) := by
  unfold putI
  by_cases h : n ∈ ks
  · rw [if_pos h]
    unfold putK
    have e : ((dk ks).any fun kv => decide (kv.1 = (Sum.inl n : Key))) = true := by
      rw [valV_any, val_dk, if_pos h]; rfl
    rw [if_pos e]
    unfold dk
    rw [List.map_map]
    apply List.map_congr_left
    intro k _
    show (if (Sum.inl k : Key) = Sum.inl n then ((Sum.inl k : Key), V.bl true) else (Sum.inl k, V.bl true)) = (Sum.inl k, V.bl true)
    split <;> rfl
  · rw [if_neg h, putK_new _ (by rw [val_dk, if_neg h])]
    simp [dk]
def dputT (i : Nat) (fk : VF) : VT := fun Q Γ => dicT i (fun m ks => ∃ k, fk Γ = some (.int k) ∧ ks.length ≤ 1000000 ∧ Q (.nx (Γ.set i (some (.odic m (putI ks k)))))) Γ
theorem s_dput {i : Nat} {fk fv : VF} (hv : fv = vC (.bl true)) (h : PS X st (sDPut (tVar i) (eV g fk) (eV g fv))) : PS X st (sV g W (dputT i fk)) := PS_mono h fun De σ H ⟨c, Q, Γ, Hb, ow, t, S, F, L⟩ => by
  obtain ⟨m, ks, e0, hm, k, e1, hl, q⟩ := dicT_get t
  obtain ⟨v, z1, a, rfl, o, h1⟩ := S.slots i _ e0
  refine ⟨Γ, Hb, ow, .bl true, by rw [hv]; rfl, S, fun u Hb1 H1 g1 r => ⟨_, z1, Γ, Hb1, ow, _, e1, S.grow g1, fun w Hb2 H2 g2 r2 => ?_⟩⟩
  have h1' := g2.h _ _ (g1.h _ _ h1)
  have g12 := g1.trans g2
  cases rep_int.mp r2
  cases rep_bl.mp r
  refine ⟨a, _, rfl, DPut.k (k := Sum.inl k) h1' (lt_line (by simpa [dk] using hl)), ?_⟩
  rw [put_dk]
  exact L.nx _ σ Hb2 _ ow q ((S.grow g12).change o z1 ⟨a, rfl, o, upd_same⟩) ((F.grow g12).change o e0 (md_cases hm) rfl)
theorem drop_dk (n : Int) (ks : List Int) : dropK (dk ks) (Sum.inl n) = dk (ks.filter fun k => decide (k ≠ n)) := by
  unfold dropK dk
  induction ks with
  | nil => rfl
  | cons k ks ih =>
    rw [List.map_cons, List.filter_cons, List.filter_cons, ih]
    by_cases e : k = n
    · subst e; simp
    · have e' : ¬ (Sum.inl k : Key) = Sum.inl n := fun q => e (Sum.inl.inj q)
      simp [e, e']
def dpopT (i : Nat) (fk : VF) : VT := fun Q Γ => dicT i (fun m ks => ∃ k, fk Γ = some (.int k) ∧ k ∈ ks ∧ Q (.nx (Γ.set i (some (.odic m (ks.filter fun x => decide (x ≠ k))))))) Γ
theorem s_dpop {i : Nat} {fk : VF} (h : PS X st (tDrop (tDPop1 (tVar i) (eV g fk)))) : PS X st (sV g W (dpopT i fk)) := PS_mono h fun De σ H ⟨c, Q, Γ, Hb, ow, t, S, F, L⟩ => by
  obtain ⟨m, ks, e0, hm, k, e1, hk, q⟩ := dicT_get t
  obtain ⟨v, z1, a, rfl, o, h1⟩ := S.slots i _ e0
  refine ⟨_, z1, a, rfl, .inl ⟨_, .inl h1⟩, Γ, Hb, ow, _, e1, S, fun w Hb1 H1 g1 r => ?_⟩
  have h1' := g1.h _ _ h1
  refine ⟨dk ks, Sum.inl k, .bl true, h1', rep_int.mp r, by rw [val_dk, if_pos hk], ?_⟩
  rw [drop_dk]
  exact L.nx _ σ Hb1 _ ow q ((S.grow g1).change o z1 ⟨a, rfl, o, upd_same⟩) ((F.grow g1).change o e0 (md_cases hm) rfl)
end
end Z

set_option maxRecDepth 100000
namespace Z
open PySem PySem.Spec PyProof.Rows L2

/-! ### a def by its body's values -/
def En0 (ss : List Sl) (n : Nat) : En := ss.map some ++ List.replicate (n - ss.length) none
def postP (r : Rs) : Out → Prop
  | .rt s _ => r = .inl s
  | .nx _ => r = .inl (.val .non)
  | .ex x _ => r = .inr x
  | _ => False
section
variable {P : Program} {w : World} {g : Glo} {mg : Str → Option Value} {base : Heap}
theorem start_get {ss : List Sl} {vs : List V} {n i : Nat} {s : Sl} (N : List Str) (h : (En0 ss n)[i]? = some (some s)) : (ss.map some)[i]? = some (some s) := by
  unfold En0 at h
  by_cases q : i < ss.length
  · rw [List.getElem?_append_left (by simpa using q)] at h
    exact h
  · rw [List.getElem?_append_right (by simpa using Nat.le_of_not_lt q)] at h
    rw [List.getElem?_replicate] at h
    split at h
    · cases h
    · cases h
theorem start_v {N : List Str} {vs : List V} {i : Nat} {v : V} (h : (vs.map some)[i]? = some (some v)) : (L2.start N vs)[i]? = some (some v) := by
  unfold L2.start
  have hi := (List.getElem?_eq_some_iff.mp h).1
  rw [List.getElem?_append_left hi]
  exact h
theorem start_len {N : List Str} {vs : List V} (h : vs.length ≤ N.length) : (L2.start N vs).length = N.length := by
  unfold L2.start
  simp
  omega
theorem Sat.start {ss : List Sl} {vs : List V} {N : List Str} {Hb H : Hp} {ow : Addr → Option Nat} (S : Sat g (ss.map some) (vs.map some) Hb H ow) (hl : vs.length ≤ N.length) : Sat g (En0 ss N.length) (L2.start N vs) Hb H ow :=
  ⟨S.same, S.ows, fun i s e => by
    obtain ⟨v, q1, q2⟩ := S.slots i s (start_get (vs := vs) N e)
    exact ⟨v, start_v q1, q2⟩, by
    have h1 := S.len
    simp only [List.length_map] at h1
    rw [start_len hl]
    unfold En0
    simp
    omega⟩
theorem ro_md {s : Sl} (h : roS s = s) : mdS s = none ∨ mdS s = some .ro := by
  cases s with
  | val d => exact .inl rfl
  | own m ds => injection h with h; subst h; exact .inr rfl
  | odic m ds => injection h with h; subst h; exact .inr rfl
  | net m a b => injection h with h; subst h; exact .inr rfl
/-- the entry's frame of a def that changes nothing -/
theorem Frm.entry {ss : List Sl} {vs : List V} {N : List Str} {Hb H : Hp} {ow : Addr → Option Nat} (sm : Same Hb H) (ro : ∀ s ∈ ss, roS s = s) (hl : vs.length ≤ N.length) :
    Frm ⟨Hb, H, fun _ => none, vs, fun _ => none⟩ (En0 ss N.length) (L2.start N vs) Hb H ow := by
  have key : ∀ {i s}, (En0 ss N.length)[i]? = some (some s) → mdS s = none ∨ mdS s = some .ro := fun {i s} e => by
    have q := start_get (vs := vs) N e
    rw [List.getElem?_map] at q
    obtain ⟨t, z1, z2⟩ := Option.map_eq_some_iff.mp q
    cases z2
    exact ro_md (ro _ (List.mem_of_getElem? z1))
  refine ⟨Same.refl _, fun a o e _ => e, fun a e => e, fun a e => .inl e, fun a i s o e => ?_, fun i s e m => ?_, fun a o e => (nomatch e), fun a i s o e m => rfl⟩
  · rcases key e with q | q <;> rw [q] <;> exact ⟨fun z => (nomatch z), fun z => (nomatch z)⟩
  · rcases key e with q | q <;> rw [q] at m <;> cases m
theorem Frm.toGrow {vs : List V} {Hb H Hb' H' : Hp} {Γ : En} {σ : SS} {ow : Addr → Option Nat} (F : Frm ⟨Hb, H, fun _ => none, vs, fun _ => none⟩ Γ σ Hb' H' ow) (sm : Same Hb' H') : Grow Hb H Hb' H' :=
  ⟨F.hb, fun a o e => F.h a o e rfl, sm, F.new⟩
theorem body_read {F : FN} {np : Nat} {N : List Str} {T : VT} {vs : List V} {H : Hp} {Q : VK} {E : XK} (hnp : np ≤ N.length) (hv : ∀ ss r, ss.length = np → F ss = some r → T (postP r) (En0 ss N.length)) (h : spP g np F vs H Q E) :
    sV g (fun cls d _ H => E cls d H) T { nx := fun _ H' => Q .non H', rt := Q } (L2.start N vs) H := by
  obtain ⟨hl, ss, r, Hb, ow, e1, hs, ro, S, k⟩ := h
  refine ⟨⟨Hb, H, fun _ => none, vs, fun _ => none⟩, postP r, En0 ss N.length, Hb, ow, hv ss r hs e1, S.start (by omega), Frm.entry S.same ro (by omega), ?_⟩
  refine ⟨fun Γ σ Hb' H' ow' q S' F' => ?_, fun _ _ _ _ _ q => q.elim, fun _ _ _ _ _ q => q.elim, fun s Γ σ v Hb' H' ow' q S' F' rr => ?_, fun x Γ σ Hb' H' ow' q S' F' => ?_⟩
  · have q : r = .inl (.val .non) := q
    subst q
    exact k _ Hb' H' (F'.toGrow S'.same) (show Rep g.K Hb' .non .non from rep_non.mpr rfl)
  · have q : r = .inl s := q
    subst q
    exact k _ Hb' H' (F'.toGrow S'.same) rr
  · have q : r = .inr x := q
    subst q
    exact k Hb' H' (F'.toGrow S'.same)
theorem spP_len {n : Nat} {F : FN} {vs : List V} {H : Hp} {Q : VK} {E : XK} (h : spP g n F vs H Q E) : vs.length = n := h.1
/-- a def that may raise -/
theorem ok_fnX {F : FN} {T : VT} {x qual : Str} {st : Stmt} {f : Addr} {fd : FuncData} {N ps : List Str} {k : Nat} (Fn : Fun g.K x qual st f fd) (S : FnScope N ps (defScope st)) (hN : ps.length ≤ N.length)
    (hb : ∀ (cdv : Value) (A : Around) (outer : List Env) (s : Shared) (H : Hp) (E : XK), Room k (A.deeper (envOfC qual (defScope st) s.heap.objs.size f cdv)) →
      PSs (cxOf (L2.CX P w) P w g.K mg base N qual (defScope st) f cdv A outer s H E) (defBody st) (sV g (fun cls d _ H => E cls d H) T))
    (hv : ∀ ss r, ss.length = ps.length → F ss = some r → T (postP r) (En0 ss N.length)) : FnOk P w g.K mg base (L2.CX P w) (k + 1) f fd ps (spP g ps.length F) :=
  Fn.okX S (fun vs H Q E h => spP_len h) fun cdv A outer s H vs Q E hr h => ⟨_, hb cdv A outer s H E hr, body_read hN hv h⟩
/-- a def that never does -/
theorem ok_fn {F : FN} {T : VT} {x qual : Str} {st : Stmt} {f : Addr} {fd : FuncData} {N ps : List Str} {k : Nat} (Fn : Fun g.K x qual st f fd) (S : FnScope N ps (defScope st)) (hN : ps.length ≤ N.length)
    (hb : ∀ (cdv : Value) (A : Around) (outer : List Env) (s : Shared) (H : Hp) (E : XK), Room k (A.deeper (envOfC qual (defScope st) s.heap.objs.size f cdv)) →
      PSs (cxOf CX0 P w g.K mg base N qual (defScope st) f cdv A outer s H E).nox (defBody st) (sV g noW T))
    (hv : ∀ ss r, ss.length = ps.length → F ss = some r → T (postP r) (En0 ss N.length) ∧ ∃ s, r = .inl s) : FnOk P w g.K mg base CX0 (k + 1) f fd ps (spP g ps.length F) :=
  Fn.ok S (fun vs H Q E h => spP_len h) fun cdv A outer s H vs Q E hr h => ⟨_, hb cdv A outer s H E hr, by
    have h' : spP g ps.length F vs H Q (fun _ _ _ => False) := by
      obtain ⟨hl, ss, r, Hb, ow, e1, hs, ro, S, k⟩ := h
      obtain ⟨_, s, rfl⟩ := hv ss r hs e1
      exact ⟨hl, ss, _, Hb, ow, e1, hs, ro, S, k⟩
    exact body_read (E := fun _ _ _ => False) hN (fun ss r hs e => (hv ss r hs e).1) h'⟩
end
end Z

set_option maxRecDepth 100000
namespace Z
open PySem PySem.Spec PyProof.Rows L2

/-! ### defs that change what they are handed -/
abbrev FM := List Sl → Option (Rs × List Sl)
structure Chg (M : Addr → Option Nat) (Hb H Hb' H' : Hp) : Prop where
  hb : Same Hb Hb'
  h : ∀ a o, H a = some o → M a = none → H' a = some o
  th : ∀ a, H a ≠ none → H' a ≠ none
  same : Same Hb' H'
  new : ∀ a, Hb' a ≠ none → Hb a ≠ none ∨ H a = none
def MsK (g : Glo) (ow : Addr → Option Nat) (vs : List V) (Hb H : Hp) (Q : VK) (E : XK) (ss' : List Sl) : Rs → Prop
  | .inl s => ∀ v Hb' H', Chg ow Hb H Hb' H' → Sat g (ss'.map some) (vs.map some) Hb' H' ow → rO g H Hb' H' v s → Q v H'
  | .inr x => ∀ Hb' H', Chg ow Hb H Hb' H' → Sat g (ss'.map some) (vs.map some) Hb' H' ow → E (.ref (g.cls x)) none H'
def spM (g : Glo) (n : Nat) (F : FM) : Sp := fun vs H Q E => vs.length = n ∧ ∃ ss r ss' Hb ow, F ss = some (r, ss') ∧ ss.length = n ∧ (∀ s ∈ ss, mdS s = none ∨ mdS s = some .mut) ∧ Sat g (ss.map some) (vs.map some) Hb H ow ∧ MsK g ow vs Hb H Q E ss' r
def mutS : Sl → Sl
  | .val d => .val d
  | .own _ ds => .own .mut ds
  | .odic _ ks => .odic .mut ks
  | .net _ size ps => .net .mut size ps
def reM (m : Option Md) (s : Sl) : Sl := match m with
  | none => s
  | some m => match s with
    | .val d => .val d
    | .own _ ds => .own m ds
    | .odic _ ks => .odic m ks
    | .net _ size ps => .net m size ps
def amSl (Γ : En) : Ar → Option Sl
  | .v d => some (.val d)
  | .s i => match Γ[i]? with
    | some (some s) => if mdS s = some .loc ∨ mdS s = some .mut then some (mutS s) else none
    | _ => none
def amSls (Γ : En) : List Ar → Option (List Sl)
  | [] => some []
  | a :: as => (amSl Γ a).bind fun s => (amSls Γ as).bind fun ss => some (s :: ss)
/-- the slots behind the call -/
def putGo (as : List Ar) (ss' : List Sl) : Nat → En → En
  | _, [] => []
  | j, o :: Γ => (match o with
    | some s => (match ixA as j with
      | some k => (match ss'[k]? with
        | some s' => some (reM (mdS s) s')
        | none => none)
      | none => some s)
    | none => none) :: putGo as ss' (j + 1) Γ
section
variable {X : Cx} {g : Glo} {c e : Expr} {es : List Expr} {st : Stmt} {W : WX}
theorem amSl_s {Γ : En} {i : Nat} {s : Sl} (h : amSl Γ (.s i) = some s) : ∃ s0, Γ[i]? = some (some s0) ∧ (mdS s0 = some .loc ∨ mdS s0 = some .mut) ∧ s = mutS s0 := by
  simp only [amSl] at h
  split at h
  · split at h
    · exact ⟨_, by assumption, by assumption, (Option.some.inj h).symm⟩
    · cases h
  · cases h
theorem amSls_get {Γ : En} : ∀ {as : List Ar} {ss : List Sl} {k : Nat} {s : Sl}, amSls Γ as = some ss → ss[k]? = some s → ∃ a, as[k]? = some a ∧ amSl Γ a = some s
  | [], _, _, _, h, e => by cases h; simp at e
  | b :: as, _, 0, _, h, e => by
    obtain ⟨s0, e1, h⟩ := Option.bind_eq_some_iff.mp h
    obtain ⟨ss0, e2, h⟩ := Option.bind_eq_some_iff.mp h
    cases h
    simp at e
    subst e
    exact ⟨b, by simp, e1⟩
  | b :: as, _, k + 1, _, h, e => by
    obtain ⟨s0, e1, h⟩ := Option.bind_eq_some_iff.mp h
    obtain ⟨ss0, e2, h⟩ := Option.bind_eq_some_iff.mp h
    cases h
    obtain ⟨a, q1, q2⟩ := amSls_get (k := k) e2 (by simpa using e)
    exact ⟨a, by simpa using q1, q2⟩
theorem amSls_at {Γ : En} : ∀ {as : List Ar} {ss : List Sl} {k : Nat} {a : Ar}, amSls Γ as = some ss → as[k]? = some a → ∃ s, ss[k]? = some s ∧ amSl Γ a = some s
  | [], _, _, _, h, e => by simp at e
  | b :: as, _, 0, _, h, e => by
    obtain ⟨s0, e1, h⟩ := Option.bind_eq_some_iff.mp h
    obtain ⟨ss0, e2, h⟩ := Option.bind_eq_some_iff.mp h
    cases h
    simp at e
    subst e
    exact ⟨s0, by simp, e1⟩
  | b :: as, _, k + 1, _, h, e => by
    obtain ⟨s0, e1, h⟩ := Option.bind_eq_some_iff.mp h
    obtain ⟨ss0, e2, h⟩ := Option.bind_eq_some_iff.mp h
    cases h
    obtain ⟨s, q1, q2⟩ := amSls_at (k := k) e2 (by simpa using e)
    exact ⟨s, by simpa using q1, q2⟩
theorem amSls_len {Γ : En} : ∀ {as : List Ar} {ss : List Sl}, amSls Γ as = some ss → ss.length = as.length
  | [], _, h => by cases h; rfl
  | b :: as, _, h => by
    obtain ⟨s0, e1, h⟩ := Option.bind_eq_some_iff.mp h
    obtain ⟨ss0, e2, h⟩ := Option.bind_eq_some_iff.mp h
    cases h
    simp [amSls_len e2]
theorem mutS_md (s : Sl) : mdS (mutS s) = none ∨ mdS (mutS s) = some .mut := by cases s <;> simp [mutS, mdS]
theorem amSls_mut {Γ : En} {as : List Ar} {ss : List Sl} (h : amSls Γ as = some ss) : ∀ s ∈ ss, mdS s = none ∨ mdS s = some .mut := fun s hs => by
  obtain ⟨k, hk⟩ := List.getElem?_of_mem hs
  obtain ⟨a, _, q⟩ := amSls_get h hk
  cases a with
  | v d => cases q; exact .inl rfl
  | s i =>
    obtain ⟨s0, _, _, rfl⟩ := amSl_s q
    exact mutS_md s0
theorem ixA_inv : ∀ {as : List Ar} {k i : Nat}, ixA as i = some k → as[k]? = some (.s i)
  | [], _, _, e => by cases e
  | .v d :: as, k, i, e => by
    obtain ⟨k', e1, rfl⟩ := Option.map_eq_some_iff.mp (show (ixA as i).map (· + 1) = some k from e)
    simpa using ixA_inv e1
  | .s j :: as, k, i, e => by
    have e2 : (if j = i then some 0 else (ixA as i).map (· + 1)) = some k := e
    by_cases h : j = i
    · rw [if_pos h] at e2
      subst h
      have e2 := Option.some.inj e2
      subst e2
      rfl
    · rw [if_neg h] at e2
      obtain ⟨k', e1, rfl⟩ := Option.map_eq_some_iff.mp e2
      simpa using ixA_inv e1
theorem SlOk.md {Hb H : Hp} {ow : Addr → Option Nat} {i : Nat} {v : V} {s s' : Sl} (h : SlOk g Hb H ow i v s) (e : mutS s = mutS s') : SlOk g Hb H ow i v s' := by
  cases s <;> cases s' <;> simp only [mutS, Sl.val.injEq, Sl.own.injEq, Sl.odic.injEq, Sl.net.injEq, reduceCtorEq, true_and] at e
  · subst e; exact h
  · subst e; exact h
  · subst e; exact h
  · obtain ⟨rfl, rfl⟩ := e; exact h
theorem mutS_reM (m : Option Md) (s : Sl) : mutS (reM m s) = mutS s := by
  cases m <;> cases s <;> rfl
theorem mutS_mutS (s : Sl) : mutS (mutS s) = mutS s := by cases s <;> rfl
theorem Sat.margs {Γ : En} {σ : SS} {Hb H : Hp} {ow : Addr → Option Nat} {as : List Ar} {ss : List Sl} {vs : List V} (S : Sat g Γ σ Hb H ow) (h1 : amSls Γ as = some ss) (h2 : ArsOk g.K Hb σ vs as) (nd : ndA as = true) :
    Sat g (ss.map some) (vs.map some) Hb H (owA ow as) := by
  refine ⟨S.same, fun a k e => ?_, fun k s e => ?_, by rw [List.length_map, List.length_map, amSls_len h1, arsOk_len h2]⟩
  · unfold owA at e
    split at e
    · rename_i i ei
      exact S.ows a i ei
    · cases e
  · rw [List.getElem?_map] at e
    obtain ⟨s', e1, e2⟩ := Option.map_eq_some_iff.mp e
    cases e2
    obtain ⟨a, q1, q2⟩ := amSls_get h1 e1
    obtain ⟨v, q3, q4⟩ := arsOk_get h2 q1
    refine ⟨v, by rw [List.getElem?_map, q3]; rfl, ?_⟩
    cases a with
    | v d => cases q2; exact q4
    | s i =>
      have ix := ixA_at nd q1
      obtain ⟨s0, e0, _, rfl⟩ := amSl_s q2
      obtain ⟨v', z1, z2⟩ := S.slots i s0 e0
      have z3 : σ[i]? = some (some v) := q4
      rw [z1] at z3
      cases z3
      refine SlOk.md (s := s0) ?_ (mutS_mutS s0).symm
      cases s0 with
      | val d => exact z2
      | own m ds =>
        obtain ⟨a, us, rfl, o1, o2⟩ := z2
        exact ⟨a, us, rfl, by rw [owA_of o1]; exact ix, o2⟩
      | odic m ds =>
        obtain ⟨a, rfl, o1, o2⟩ := z2
        exact ⟨a, rfl, by rw [owA_of o1]; exact ix, o2⟩
      | net m size ps =>
        obtain ⟨a, dx, l, us, rfl, o1, o2, o3⟩ := z2
        exact ⟨a, dx, l, us, rfl, by rw [owA_of o1]; exact ix, by rw [owA_of o2]; exact ix, o3⟩
def putF' (as : List Ar) (ss' : List Sl) (j : Nat) : Option Sl → Option Sl
  | some s => (match ixA as j with
    | some k => (match ss'[k]? with
      | some s' => some (reM (mdS s) s')
      | none => none)
    | none => some s)
  | none => none
theorem putGo_get {as : List Ar} {ss' : List Sl} : ∀ {Γ : En} {j i : Nat}, (putGo as ss' j Γ)[i]? = (Γ[i]?).map (putF' as ss' (j + i))
  | [], _, _ => by simp [putGo]
  | o :: Γ, j, 0 => by simp [putGo, putF']
  | o :: Γ, j, i + 1 => by
    have := putGo_get (as := as) (ss' := ss') (Γ := Γ) (j := j + 1) (i := i)
    simp only [putGo, List.getElem?_cons_succ, this]
    rw [show j + 1 + i = j + (i + 1) by omega]
theorem putGo_len {as : List Ar} {ss' : List Sl} : ∀ {Γ : En} {j : Nat}, (putGo as ss' j Γ).length = Γ.length
  | [], _ => rfl
  | o :: Γ, j => by simp [putGo, putGo_len (Γ := Γ)]
def putA (Γ : En) (as : List Ar) (ss' : List Sl) : En := putGo as ss' 0 Γ
theorem putA_get {as : List Ar} {ss' : List Sl} {Γ : En} {i : Nat} {t : Sl} (h : (putA Γ as ss')[i]? = some (some t)) : ∃ s, Γ[i]? = some (some s) ∧ ((ixA as i = none ∧ t = s) ∨ ∃ k s', ixA as i = some k ∧ ss'[k]? = some s' ∧ t = reM (mdS s) s') := by
  unfold putA at h
  rw [putGo_get, Nat.zero_add] at h
  obtain ⟨o, e1, e2⟩ := Option.map_eq_some_iff.mp h
  cases o with
  | none => cases e2
  | some s =>
    refine ⟨s, e1, ?_⟩
    simp only [putF'] at e2
    split at e2
    · rename_i k ek
      split at e2
      · rename_i s' es
        exact .inr ⟨k, s', ek, es, (Option.some.inj e2).symm⟩
      · cases e2
    · exact .inl ⟨by assumption, (Option.some.inj e2).symm⟩
theorem Sat.after {Γ : En} {σ : SS} {Hb H Hb' H' : Hp} {ow : Addr → Option Nat} {as : List Ar} {ss' : List Sl} {vs : List V} (S : Sat g Γ σ Hb H ow) (ch : Chg (owA ow as) Hb H Hb' H') (S' : Sat g (ss'.map some) (vs.map some) Hb' H' (owA ow as)) (h2 : ArsOk g.K Hb σ vs as) :
    Sat g (putA Γ as ss') σ Hb' H' ow := by
  refine ⟨ch.same, fun a i e => ?_, fun i t e => ?_, by unfold putA; rw [putGo_len, S.len]⟩
  · obtain ⟨h1, h3⟩ := S.ows a i e
    refine ⟨?_, ch.th a h3⟩
    cases z : Hb' a with
    | none => rfl
    | some o =>
      rcases ch.new a (by rw [z]; simp) with q | q
      · exact absurd h1 q
      · exact absurd q h3
  · obtain ⟨s, e1, ⟨q1, rfl⟩ | ⟨k, s', q1, q2, rfl⟩⟩ := putA_get e
    · obtain ⟨v, z1, z2⟩ := S.slots i _ e1
      refine ⟨v, z1, ?_⟩
      have out : ∀ a, ow a = some i → owA ow as a = none := fun a o => by rw [owA_of o]; exact q1
      cases t with
      | val d => exact Rep.same ch.hb z2
      | own m ds => obtain ⟨a, us, y1, y2, y3, y4⟩ := z2; exact ⟨a, us, y1, y2, ch.h a _ y3 (out a y2), y4.same ch.hb⟩
      | odic m ds => obtain ⟨a, y1, y2, y3⟩ := z2; exact ⟨a, y1, y2, ch.h a _ y3 (out a y2)⟩
      | net m size ps => obtain ⟨a, dx, l, us, y1, y2, y3, y4, y5, y6⟩ := z2; exact ⟨a, dx, l, us, y1, y2, y3, ch.h a _ y4 (out a y2), ch.h l _ y5 (out l y3), y6.same ch.hb⟩
    · obtain ⟨v, z1, z2⟩ := S'.slots k s' (by rw [List.getElem?_map, q2]; rfl)
      have ak := ixA_inv q1
      obtain ⟨v', y1, y2⟩ := arsOk_get h2 ak
      rw [List.getElem?_map, y1] at z1
      cases z1
      refine ⟨_, y2, SlOk.md (s := s') ?_ (mutS_reM _ _).symm⟩
      have back : ∀ a, owA ow as a = some k → ow a = some i := fun a o => by
        unfold owA at o
        split at o
        · rename_i j ej
          have := ixA_inv o
          rw [ak] at this
          cases this
          exact ej
        · cases o
      cases s' with
      | val d => exact z2
      | own m ds => obtain ⟨a, us, y1, y2, q⟩ := z2; exact ⟨a, us, y1, back a y2, q⟩
      | odic m ds => obtain ⟨a, y1, y2, q⟩ := z2; exact ⟨a, y1, back a y2, q⟩
      | net m size ps => obtain ⟨a, dx, l, us, y1, y2, y3, q⟩ := z2; exact ⟨a, dx, l, us, y1, back a y2, back l y3, q⟩
theorem mdS_reM {m : Option Md} {s : Sl} (h : mdS (reM m s) ≠ none) : m = none ∧ mdS (reM m s) = mdS s ∨ mdS (reM m s) = m := by
  cases m with
  | none => exact .inl ⟨rfl, rfl⟩
  | some m => cases s <;> simp_all [reM, mdS]
/-- every slot that is handed on may be changed -/
theorem Frm.after {Γ : En} {σ : SS} {Hb H Hb' H' : Hp} {ow : Addr → Option Nat} {c : Ct} {as : List Ar} {ss ss' : List Sl} (F : Frm c Γ σ Hb H ow) (ch : Chg (owA ow as) Hb H Hb' H') (h1 : amSls Γ as = some ss) : Frm c (putA Γ as ss') σ Hb' H' ow := by
  have mo : ∀ {i k s}, ixA as i = some k → Γ[i]? = some (some s) → mdS s = some .loc ∨ mdS s = some .mut := fun {i k s} q e => by
    obtain ⟨s1, _, z2⟩ := amSls_at h1 (ixA_inv q)
    obtain ⟨s0, y1, y2, _⟩ := amSl_s z2
    rw [e] at y1
    cases y1
    exact y2
  -- a slot's mode stands
  have md : ∀ {i t}, (putA Γ as ss')[i]? = some (some t) → ∃ s, Γ[i]? = some (some s) ∧ (mdS t = none ∨ mdS t = mdS s) := fun {i t} e => by
    obtain ⟨s, e1, ⟨q1, rfl⟩ | ⟨k, s', q1, q2, rfl⟩⟩ := putA_get e
    · exact ⟨_, e1, .inr rfl⟩
    · refine ⟨s, e1, ?_⟩
      have hm := mo q1 e1
      by_cases z : mdS (reM (mdS s) s') = none
      · exact .inl z
      · rcases mdS_reM z with ⟨y, _⟩ | y
        · rw [y] at hm; rcases hm with hm | hm <;> cases hm
        · exact .inr y
  -- what is owned by a slot that is handed on, may be changed by the entry's leave
  have leave : ∀ a, owA ow as a ≠ none → (c.H a = none ∨ c.mu a ≠ none) ∧ c.kp a = none := fun a h => by
    cases z : owA ow as a with
    | none => exact absurd z h
    | some k =>
      unfold owA at z
      split at z
      · rename_i i ei
        obtain ⟨s1, _, z2⟩ := amSls_at h1 (ixA_inv z)
        obtain ⟨s0, y1, y2, _⟩ := amSl_s z2
        refine ⟨?_, F.kpo a i s0 ei y1 y2⟩
        rcases y2 with y2 | y2
        · exact .inl ((F.md a i s0 ei y1).1 y2)
        · exact .inr (by rw [(F.md a i s0 ei y1).2 y2]; simp)
      · cases z
  have none_of : ∀ a, ¬ owA ow as a ≠ none → owA ow as a = none := fun a h => Decidable.not_not.mp h
  refine ⟨F.hb.trans ch.hb, fun a o e n => ch.h a o (F.h a o e n) (none_of a fun z => ?_), fun a e => ch.th a (F.th a e), fun a e => ?_, fun a i t o e => ?_, fun i t e ht => ?_, fun a o e => ch.h a o (F.keep a o e) (none_of a fun z => ?_), fun a i t o e ht => ?_⟩
  · rcases (leave a z).1 with q | q
    · rw [q] at e; cases e
    · exact q n
  · rcases ch.new a e with q | q
    · exact F.new a q
    · exact .inr (F.free q)
  · obtain ⟨s, e1, q⟩ := md e
    rcases q with q | q
    · rw [q]; exact ⟨fun z => (nomatch z), fun z => (nomatch z)⟩
    · rw [q]; exact F.md a i s o e1
  · obtain ⟨s, e1, q⟩ := md e
    rcases q with q | q
    · rw [q] at ht; cases ht
    · rw [q] at ht; exact F.pin i s e1 ht
  · rw [(leave a z).2] at e; cases e
  · obtain ⟨s, e1, q⟩ := md e
    rcases q with q | q
    · rw [q] at ht; rcases ht with ht | ht <;> cases ht
    · rw [q] at ht; exact F.kpo a i s o e1 ht
/-- a call that changes, as a statement; its result into the slot i -/
def dstT (dst : Option Nat) (s : Sl) (Γ : En) : En := match dst with
  | some i => Γ.set i (some (locS s))
  | none => Γ
def cmT (dst : Option Nat) (n : Nat) (F : FM) (fs : VA) : VT := fun Q Γ => ∃ as ss r ss', fs Γ = some as ∧ (ndA as = true ∧ as.length = n) ∧ amSls Γ as = some ss ∧ F ss = some (r, ss') ∧ rsT Q (putA Γ as ss') (fun s => Q (.nx (dstT dst s (putA Γ as ss')))) r
theorem chg_grow {M : Addr → Option Nat} {Hb H Hb1 H1 Hb2 H2 : Hp} (a : Grow Hb H Hb1 H1) (b : Chg M Hb1 H1 Hb2 H2) : Chg M Hb H Hb2 H2 :=
  ⟨a.hb.trans b.hb, fun x o e m => b.h x o (a.h _ _ e) m, fun x e => b.th x (ne_none_of_same a.h e), b.same, fun x e => (b.new x e).elim (fun q => a.new x q) fun q => .inr (a.h.free q)⟩
theorem cm_read {dst : Option Nat} {n : Nat} {F : FM} {De : Ends} {σ : SS} {H : Hp} {c : Ct} {Q : Out → Prop} {Γ : En} {Hb : Hp} {ow : Addr → Option Nat} {as : List Ar} {ss : List Sl} {r : Rs} {ss' : List Sl} {vs : List V} {Hb1 H1 : Hp} {K : V → Hp → Prop}
    (h2 : ndA as = true ∧ as.length = n) (h3 : amSls Γ as = some ss) (h4 : F ss = some (r, ss')) (q : rsT Q (putA Γ as ss') (fun s => Q (.nx (dstT dst s (putA Γ as ss')))) r) (S : Sat g Γ σ Hb H ow) (Fm : Frm c Γ σ Hb H ow) (L : Lk g c W Q De)
    (hK : ∀ v H', (match dst with | some i => De.nx (σ.set i (some v)) H' | none => De.nx σ H') → K v H') (g1 : Grow Hb H Hb1 H1) (q1 : ArsOk g.K Hb1 σ vs as) : spM g n F vs H1 K (WE W σ) := by
  refine ⟨by rw [arsOk_len q1]; exact h2.2, ss, r, ss', Hb1, owA ow as, h4, by rw [amSls_len h3]; exact h2.2, amSls_mut h3, (S.grow g1).margs h3 q1 h2.1, ?_⟩
  cases r with
  | inl s =>
    intro v Hb2 H2 ch S2 rr
    have SA := (S.grow g1).after ch S2 q1
    have FA := (Fm.grow g1).after (ss' := ss') ch h3
    refine hK v H2 ?_
    cases dst with
    | none => exact L.nx _ σ Hb2 H2 ow q SA FA
    | some i =>
      -- the result is new
      obtain ⟨ow', S', F'⟩ := setO2 SA FA (H := H1) (fun a j o => ((S.grow g1).ows a j o).2) (fun a o e => (Fm.grow g1).keep a o e) (fun a => (Fm.grow g1).free) rr
      exact L.nx _ _ Hb2 H2 ow' q S' F'
  | inr x =>
    intro Hb2 H2 ch S2
    exact L.ex x _ σ Hb2 H2 ow q ((S.grow g1).after ch S2 q1) ((Fm.grow g1).after (ss' := ss') ch h3)
end
end Z

set_option maxRecDepth 100000
namespace Z
open PySem PySem.Spec PyProof.Rows L2

/-- the handed slots at the end -/
def agr : List Sl → List Sl → En → Prop
  | [], [], _ => True
  | s :: ss, s' :: ss', o :: Γ => ((mdS s' = some .mut ∧ o = some s') ∨ (mdS s' = none ∧ s = s')) ∧ agr ss ss' Γ
  | _, _, _ => False
def postM (r : Rs) (ss ss' : List Sl) : Out → Prop
  | .rt s Γ => r = .inl s ∧ agr ss ss' Γ
  | .nx Γ => r = .inl (.val .non) ∧ agr ss ss' Γ
  | .ex x Γ => r = .inr x ∧ agr ss ss' Γ
  | _ => False
theorem agr_get : ∀ {ss ss' : List Sl} {Γ : En} {i : Nat} {s' : Sl}, agr ss ss' Γ → ss'[i]? = some s' → (mdS s' = some .mut ∧ Γ[i]? = some (some s')) ∨ (mdS s' = none ∧ ss[i]? = some s')
  | [], [], _, _, _, _, e => by simp at e
  | s :: ss, t :: ss', o :: Γ, 0, _, h, e => by
    simp at e
    subst e
    rcases h.1 with ⟨q1, rfl⟩ | ⟨q1, rfl⟩
    · exact .inl ⟨q1, rfl⟩
    · exact .inr ⟨q1, rfl⟩
  | s :: ss, t :: ss', o :: Γ, i + 1, _, h, e => by simpa using agr_get (i := i) h.2 (by simpa using e)
  | [], _ :: _, _, _, _, h, _ => h.elim
  | _ :: _, [], _, _, _, h, _ => h.elim
  | _ :: _, _ :: _, [], _, _, h, _ => h.elim
theorem agr_len : ∀ {ss ss' : List Sl} {Γ : En}, agr ss ss' Γ → ss'.length = ss.length
  | [], [], _, _ => rfl
  | s :: ss, t :: ss', o :: Γ, h => by simp [agr_len h.2]
  | [], _ :: _, _, h => h.elim
  | _ :: _, [], _, h => h.elim
  | _ :: _, _ :: _, [], h => h.elim
section
variable {P : Program} {w : World} {g : Glo} {mg : Str → Option Value} {base : Heap}
theorem Frm.entryM {ss : List Sl} {vs : List V} {N : List Str} {Hb H : Hp} {ow : Addr → Option Nat} (S : Sat g (ss.map some) (vs.map some) Hb H ow) (mo : ∀ s ∈ ss, mdS s = none ∨ mdS s = some .mut) :
    Frm ⟨Hb, H, ow, vs, fun _ => none⟩ (En0 ss N.length) (L2.start N vs) Hb H ow := by
  have key : ∀ {i s}, (En0 ss N.length)[i]? = some (some s) → (ss.map some)[i]? = some (some s) ∧ (mdS s = none ∨ mdS s = some .mut) := fun {i s} e => by
    have q := start_get (vs := vs) N e
    refine ⟨q, ?_⟩
    rw [List.getElem?_map] at q
    obtain ⟨t, z1, z2⟩ := Option.map_eq_some_iff.mp q
    cases z2
    exact mo _ (List.mem_of_getElem? z1)
  refine ⟨Same.refl _, fun a o e _ => e, fun a e => e, fun a e => .inl e, fun a i s o e => ⟨fun z => ?_, fun _ => o⟩, fun i s e m => ?_, fun a o e => (nomatch e), fun a i s o e m => rfl⟩
  · rcases (key e).2 with q | q <;> rw [q] at z <;> cases z
  · obtain ⟨v, q1, q2⟩ := S.slots i s (key e).1
    refine ⟨v, ?_, start_v q1⟩
    rw [List.getElem?_map] at q1
    obtain ⟨v', z1, z2⟩ := Option.map_eq_some_iff.mp q1
    cases z2
    exact z1
theorem exitM {ss ss' : List Sl} {vs : List V} {Hb H Hb' H' : Hp} {ow ow' : Addr → Option Nat} {Γ : En} {σ : SS} (S : Sat g (ss.map some) (vs.map some) Hb H ow) (F : Frm ⟨Hb, H, ow, vs, fun _ => none⟩ Γ σ Hb' H' ow') (S' : Sat g Γ σ Hb' H' ow') (ag : agr ss ss' Γ) :
    Chg ow Hb H Hb' H' ∧ Sat g (ss'.map some) (vs.map some) Hb' H' ow := by
  refine ⟨⟨F.hb, F.h, F.th, S'.same, F.new⟩, S'.same, fun a i e => ?_, fun i t e => ?_, ?_⟩
  · obtain ⟨h1, h2⟩ := S.ows a i e
    refine ⟨?_, F.th a h2⟩
    cases z : Hb' a with
    | none => rfl
    | some o =>
      rcases F.new a (by rw [z]; simp) with q | q
      · exact absurd h1 q
      · exact absurd q h2
  · rw [List.getElem?_map] at e
    obtain ⟨s', e1, e2⟩ := Option.map_eq_some_iff.mp e
    cases e2
    rcases agr_get ag e1 with ⟨q1, q2⟩ | ⟨q1, q2⟩
    · obtain ⟨v, z1, z2⟩ := S'.slots i _ q2
      obtain ⟨v', y1, y2⟩ := F.pin i _ q2 q1
      rw [z1] at y2
      cases y2
      have y1 : vs[i]? = some v := y1
      exact ⟨v, by rw [List.getElem?_map, y1]; rfl, z2.ow fun a o => (F.md a i _ o q2).2 q1⟩
    · obtain ⟨v, z1, z2⟩ := S.slots i _ (by rw [List.getElem?_map, q2]; rfl)
      refine ⟨v, z1, ?_⟩
      cases t with
      | val d => exact Rep.same F.hb z2
      | own m ds => cases q1
      | odic m ds => cases q1
      | net m a b => cases q1
  · have h1 := S.len
    simp only [List.length_map] at h1 ⊢
    rw [agr_len ag, h1]
theorem body_readM {F : FM} {np : Nat} {N : List Str} {T : VT} {vs : List V} {H : Hp} {Q : VK} {E : XK} (hnp : np ≤ N.length) (hv : ∀ ss r ss', ss.length = np → F ss = some (r, ss') → T (postM r ss ss') (En0 ss N.length)) (h : spM g np F vs H Q E) :
    sV g (fun cls d _ H => E cls d H) T { nx := fun _ H' => Q .non H', rt := Q } (L2.start N vs) H := by
  obtain ⟨hl, ss, r, ss', Hb, ow, e1, hs, mo, S, k⟩ := h
  refine ⟨⟨Hb, H, ow, vs, fun _ => none⟩, postM r ss ss', En0 ss N.length, Hb, ow, hv ss r ss' hs e1, S.start (by omega), Frm.entryM S mo, ?_⟩
  refine ⟨fun Γ σ Hb' H' ow' q S' F' => ?_, fun _ _ _ _ _ q => q.elim, fun _ _ _ _ _ q => q.elim, fun s Γ σ v Hb' H' ow' q S' F' rr => ?_, fun x Γ σ Hb' H' ow' q S' F' => ?_⟩
  · obtain ⟨rfl, ag⟩ := q
    obtain ⟨c1, c2⟩ := exitM S F' S' ag
    exact k _ Hb' H' c1 c2 (show Rep g.K Hb' .non .non from rep_non.mpr rfl)
  · obtain ⟨rfl, ag⟩ := q
    obtain ⟨c1, c2⟩ := exitM S F' S' ag
    exact k _ Hb' H' c1 c2 rr
  · obtain ⟨rfl, ag⟩ := q
    obtain ⟨c1, c2⟩ := exitM S F' S' ag
    exact k Hb' H' c1 c2
theorem ok_fnM {F : FM} {T : VT} {x qual : Str} {st : Stmt} {f : Addr} {fd : FuncData} {N ps : List Str} {k : Nat} (Fn : Fun g.K x qual st f fd) (S : FnScope N ps (defScope st)) (hN : ps.length ≤ N.length)
    (hb : ∀ (cdv : Value) (A : Around) (outer : List Env) (s : Shared) (H : Hp) (E : XK), Room k (A.deeper (envOfC qual (defScope st) s.heap.objs.size f cdv)) →
      PSs (cxOf (L2.CX P w) P w g.K mg base N qual (defScope st) f cdv A outer s H E) (defBody st) (sV g (fun cls d _ H => E cls d H) T))
    (hv : ∀ ss r ss', ss.length = ps.length → F ss = some (r, ss') → T (postM r ss ss') (En0 ss N.length)) : FnOk P w g.K mg base (L2.CX P w) (k + 1) f fd ps (spM g ps.length F) :=
  Fn.okX S (fun vs H Q E h => h.1) fun cdv A outer s H vs Q E hr h => ⟨_, hb cdv A outer s H E hr, body_readM hN hv h⟩

/-! ### what a caller knows of a def -/
structure Cal (P : Program) (w : World) (g : Glo) (mg : Str → Option Value) (base : Heap) (CX : CXT) (x : Str) (k : Nat) (sp : Sp) : Prop where
  ex : ∃ f fd ps, mg x = some (.ref f) ∧ PySem.W.keepIn g.K (.ref f) = true ∧ Binds g.K fd ps [] ∧ FnOk P w g.K mg base CX k f fd ps sp
structure Cam (P : Program) (w : World) (g : Glo) (mg : Str → Option Value) (base : Heap) (CX : CXT) (m : Str) (k : Nat) (sp : Sp) : Prop where
  ex : ∃ f fd ps, Meth g.K g.C m f ∧ Binds g.K fd ps [] ∧ FnOk P w g.K mg base CX k f fd ps sp
end
section
variable {X : Cx} {g : Glo} {c e : Expr} {es : List Expr} {st : Stmt} {W : WX} {CX : CXT} {x m : Str} {k n i : Nat} {F : FN} {G : FM} {fs : VA} {p pos apos : Pos}
theorem pe_cal {sp : Sp} {t : TA} (C : Cal X.prog X.w g X.mg X.base CX x k sp) (hK : X.K = g.K) (hr : Room k X.A) (hg : Gl X x) (hx : ∀ σ, PassesAt CX X σ (WE W σ)) (ha : PA X (e :: es) t) (hdb : (x == ("__debug__" : Str)) = false := by decide)
    (he : starEach (e :: es) X.env = (false, eval e X.env) :: starEach es X.env := by rfl) (hpl : (backTo pos (starEach es X.env)).any (·.1) = false := by rfl) : PE X (.Call (.Name x p) (e :: es) [] pos) (tCallS sp (WE W) t) := by
  obtain ⟨f, fd, ps, h1, h2, h3, h4⟩ := C.ex
  rw [← hK] at h2 h3 h4
  exact pe_callS h4 hr hg h1 h2 h3 hx ha hdb he hpl
theorem ex_cal (C : Cal X.prog X.w g X.mg X.base CX x k (spP g n F)) (hK : X.K = g.K) (hr : Room k X.A) (hg : Gl X x) (hx : ∀ σ, PassesAt CX X σ (WE W σ)) (ha : PA X (e :: es) (eAr g fs)) (hdb : (x == ("__debug__" : Str)) = false := by decide)
    (he : starEach (e :: es) X.env = (false, eval e X.env) :: starEach es X.env := by rfl) (hpl : (backTo pos (starEach es X.env)).any (·.1) = false := by rfl) : PE X (.Call (.Name x p) (e :: es) [] pos) (eX g W (xCall n F fs)) :=
  ex_call (pe_cal C hK hr hg hx ha hdb he hpl)
theorem pe_cam {sp : Sp} {t : TA} {pl : Sem Bool} {o : Expr} (C : Cam X.prog X.w g X.mg X.base CX m k sp) (hK : X.K = g.K) (cl : Cls g.K g.C) (hr : Room k X.A) (hx : ∀ σ, PassesAt CX X σ (WE W σ)) (ho : PE X o (tVar i)) (ha : PA X (e :: es) t)
    (hst : starEach (e :: es) X.env = (false, eval e X.env) :: starEach es X.env := by rfl) (hpl : (backTo pos (starEach es X.env)).any (·.1) = false := by rfl)
    (ht : eval (.Call (.Attribute o m apos) (e :: es) [] pos) X.env = (do let ov ← eval o X.env; standAt apos.atName; let (f, first) ← holding [ov] (getMethod ov m pl); callWith pos f first (backTo pos (starEach (e :: es) X.env)) (backToKw pos (keywordEach [] X.env))) := by rfl) :
    PE X (.Call (.Attribute o m apos) (e :: es) [] pos) (tMethE g.C m sp (WE W) (tVar i) t) := by
  obtain ⟨f, fd, ps, h1, h2, h3⟩ := C.ex
  rw [← hK] at h1 h2 h3 cl
  exact pe_methE ho cl h1 h3 hr h2 hx ha hst hpl ht
theorem pe_cam0 {sp : Sp} {pl : Sem Bool} {o : Expr} (C : Cam X.prog X.w g X.mg X.base CX m k sp) (hK : X.K = g.K) (cl : Cls g.K g.C) (hr : Room k X.A) (hx : ∀ σ, PassesAt CX X σ (WE W σ)) (ho : PE X o (tVar i))
    (ht : eval (.Call (.Attribute o m apos) [] [] pos) X.env = (do let ov ← eval o X.env; standAt apos.atName; let (f, first) ← holding [ov] (getMethod ov m pl); callWith pos f first (backTo pos (starEach [] X.env)) (backToKw pos (keywordEach [] X.env))) := by rfl) :
    PE X (.Call (.Attribute o m apos) [] [] pos) (tMethE g.C m sp (WE W) (tVar i) tNil) := by
  obtain ⟨f, fd, ps, h1, h2, h3⟩ := C.ex
  rw [← hK] at h1 h2 h3 cl
  exact pe_methE0 ho cl h1 h3 hr h2 hx ht
/-- a call that changes -/
theorem s_cm {n : Nat} (h : PS X st (tDrop (tCallS (spM g n G) (WE W) (eAr g fs)))) : PS X st (sV g W (cmT none n G fs)) := PS_mono h fun De σ H ⟨c, Q, Γ, Hb, ow, ⟨as, ss, r, ss', h1, h2, h3, h4, q⟩, S, Fm, L⟩ =>
  ⟨Γ, Hb, ow, as, h1, S, fun vs Hb1 H1 g1 q1 => cm_read (dst := none) (De := De) h2 h3 h4 q S Fm L (fun v H' z => z) g1 q1⟩
theorem s_cmA {n j : Nat} (h : PS X st (tAsg (tCallS (spM g n G) (WE W) (eAr g fs)) (gName j))) : PS X st (sV g W (cmT (some j) n G fs)) := PS_mono h fun De σ H ⟨c, Q, Γ, Hb, ow, ⟨as, ss, r, ss', h1, h2, h3, h4, q⟩, S, Fm, L⟩ =>
  ⟨Γ, Hb, ow, as, h1, S, fun vs Hb1 H1 g1 q1 => cm_read (dst := some j) (De := De) h2 h3 h4 q S Fm L (fun v H' z => z) g1 q1⟩
def nmT (dst : Option Nat) (n : Nat) (G : FM) (i : Nat) (fs : VA) : VT := fun Q Γ => netAt i Γ = true ∧ cmT dst n G (rS i fs) Q Γ
theorem nm_read {dst : Option Nat} {n : Nat} {De : Ends} {σ : SS} {H : Hp} {K : V → Hp → Prop} {c : Ct} {Q : Out → Prop} {Γ : En} {Hb : Hp} {ow : Addr → Option Nat} (nf : noFld m) (t : nmT dst n G i fs Q Γ) (S : Sat g Γ σ Hb H ow) (Fm : Frm c Γ σ Hb H ow) (L : Lk g c W Q De)
    (hK : ∀ v H', (match dst with | some i => De.nx (σ.set i (some v)) H' | none => De.nx σ H') → K v H') : tMethE g.C m (spM g n G) (WE W) (tVar i) (eAr g fs) σ H K := by
  obtain ⟨hn, as, ss, r, ss', h1, h2, h3, h4, q⟩ := t
  obtain ⟨md, size, ps, e0⟩ := netAt_get hn
  obtain ⟨v, z1, a, dx, l, us, rfl, o1, o2, y1, y2, y3⟩ := S.slots i _ e0
  obtain ⟨as0, e2, e1⟩ := Option.bind_eq_some_iff.mp h1
  rw [e0] at e1
  cases e1
  exact ⟨_, z1, a, dx, _, rfl, y1, nf _ _, Γ, Hb, ow, as0, e2, S, fun vs Hb1 H1 g1 q1 => cm_read (dst := dst) (De := De) h2 h3 h4 q S Fm L hK g1 ⟨_, vs, rfl, z1, q1⟩⟩
theorem s_nm {n : Nat} (nf : noFld m) (h : PS X st (tDrop (tMethE g.C m (spM g n G) (WE W) (tVar i) (eAr g fs)))) : PS X st (sV g W (nmT none n G i fs)) := PS_mono h fun De σ H ⟨c, Q, Γ, Hb, ow, t, S, Fm, L⟩ => nm_read (De := De) nf t S Fm L fun v H' z => z
theorem s_nmA {n j : Nat} (nf : noFld m) (h : PS X st (tAsg (tMethE g.C m (spM g n G) (WE W) (tVar i) (eAr g fs)) (gName j))) : PS X st (sV g W (nmT (some j) n G i fs)) := PS_mono h fun De σ H ⟨c, Q, Γ, Hb, ow, t, S, Fm, L⟩ => nm_read (De := De) nf t S Fm L fun v H' z => z

/-! ### a net's fields -/
structure NT (g : Glo) : Prop where
  cl : Cls g.K g.C
  nM : NoAttr g.K g.C "many"
  nL : NoAttr g.K g.C "laid"
theorem str_mm : (("many" : Str) == ("many" : Str)) = true := by decide +kernel
theorem str_lm : (("laid" : Str) == ("many" : Str)) = false := by decide +kernel
theorem str_ll : (("laid" : Str) == ("laid" : Str)) = true := by decide +kernel
theorem netF_many {size : Int} {l : Addr} : (netF size l).lookup ("many" : Str) = some (.int size) := by
  unfold netF
  rw [List.lookup_cons, str_mm]
theorem netF_laid {size : Int} {l : Addr} : (netF size l).lookup ("laid" : Str) = some (.ref l) := by
  unfold netF
  rw [List.lookup_cons, str_lm]
  show List.lookup ("laid" : Str) [(("laid" : Str), V.ref l)] = _
  rw [List.lookup_cons, str_ll]
def nSize (i : Nat) : VF := fun Γ => match Γ[i]? with
  | some (some (.net _ size _)) => some (.int size)
  | _ => none
def nPs (i : Nat) : VL := fun Γ => match Γ[i]? with
  | some (some (.net _ _ ps)) => some ps
  | _ => none
theorem ev_many (T : NT g) (h : PE X c (tFld g.K (tVar i) "many")) : PE X c (eV g (nSize i)) := PE_mono h fun σ H Q ⟨Γ, Hb, ow, d, ef, S, k⟩ => by
  unfold nSize at ef
  split at ef
  · rename_i m size ps e0
    cases ef
    obtain ⟨v, z1, a, dx, l, us, rfl, o1, o2, y1, y2, y3⟩ := S.slots i _ e0
    exact ⟨_, z1, a, _, dx, _, _, rfl, y1, T.cl, T.nM, netF_many, k _ Hb H (Grow.refl S.same) (rep_int.mpr rfl)⟩
  · cases ef
theorem el_laid (T : NT g) (h : PE X c (tFld g.K (tVar i) "laid")) : PE X c (eL g (nPs i)) := PE_mono h fun σ H Q ⟨Γ, Hb, ow, d, ef, S, k⟩ => by
  unfold nPs at ef
  split at ef
  · rename_i m size ps e0
    cases ef
    obtain ⟨v, z1, a, dx, l, us, rfl, o1, o2, y1, y2, y3⟩ := S.slots i _ e0
    exact ⟨_, z1, a, _, dx, _, _, rfl, y1, T.cl, T.nL, netF_laid, k _ Hb H (Grow.refl S.same) ⟨l, us, rfl, y2, y3⟩⟩
  · cases ef
def netT (i : Nat) (K : Md → Int → List D → Prop) (Γ : En) : Prop := match Γ[i]? with
  | some (some (.net m size ps)) => m ≠ .ro ∧ K m size ps
  | _ => False
theorem netT_get {i : Nat} {K : Md → Int → List D → Prop} {Γ : En} (h : netT i K Γ) : ∃ m size ps, Γ[i]? = some (some (.net m size ps)) ∧ m ≠ .ro ∧ K m size ps := by
  unfold netT at h
  split at h
  · exact ⟨_, _, _, by assumption, h.1, h.2⟩
  · exact h.elim
def appNT (i : Nat) (f : VF) : VT := fun Q Γ => netT i (fun m size ps => ∃ d, f Γ = some d ∧ ps.length ≤ 1000000 ∧ Q (.nx (Γ.set i (some (.net m size (ps ++ [d])))))) Γ
theorem s_appN {f : VF} (T : NT g) (h : PS X st (tDrop (tBM g.K "list" rAppend (tFld g.K (tVar i) "laid") (tCons (eV g f) tNil)))) : PS X st (sV g W (appNT i f)) := PS_mono h fun De σ H ⟨c, Q, Γ, Hb, ow, t, S, F, L⟩ => by
  obtain ⟨m, size, ps, e0, hm, d, e1, hl, q⟩ := netT_get t
  obtain ⟨v, z1, a, dx, l, us, rfl, o1, o2, y1, y2, y3⟩ := S.slots i _ e0
  refine ⟨_, z1, a, _, dx, _, _, rfl, y1, T.cl, T.nL, netF_laid, tyV_lst y2, Γ, Hb, ow, d, e1, S, fun u Hb1 H1 g1 r => ?_⟩
  have y2' := g1.h _ _ y2
  have y1' := g1.h _ _ y1
  refine ⟨l, us, u, rfl, rfl, y2', lt_line (by rw [y3.len]; exact hl), ?_⟩
  have nal : a ≠ l := ne_of y1' y2' (by intro z; cases z)
  exact L.nx _ σ Hb1 _ ow q ((S.grow g1).change o2 z1 ⟨a, dx, l, _, rfl, o1, o2, by rw [upd_ne nal]; exact y1', upd_same, (y3.same g1.hb).append (Reps.one r)⟩) ((F.grow g1).change o2 e0 (md_cases hm) rfl)
def setNT (i : Nat) (fi fv : VF) : VT := fun Q Γ => netT i (fun m size ps => ∃ d k j, fv Γ = some d ∧ fi Γ = some (.int k) ∧ ixN ps.length k = some j ∧ Q (.nx (Γ.set i (some (.net m size (ps.set j d)))))) Γ
theorem s_setN {fi fv : VF} (T : NT g) (h : PS X st (tAsg (eV g fv) (gSub (tFld g.K (tVar i) "laid") (eV g fi) rSetL))) : PS X st (sV g W (setNT i fi fv)) := PS_mono h fun De σ H ⟨c, Q, Γ, Hb, ow, t, S, F, L⟩ => by
  obtain ⟨m, size, ps, e0, hm, d, k, j, e1, e2, e3, q⟩ := netT_get t
  obtain ⟨v, z1, a, dx, l, us, rfl, o1, o2, y1, y2, y3⟩ := S.slots i _ e0
  refine ⟨Γ, Hb, ow, d, e1, S, fun u Hb1 H1 g1 r => ⟨_, z1, a, _, dx, _, _, rfl, g1.h _ _ y1, T.cl, T.nL, netF_laid, Γ, Hb1, ow, _, e2, S.grow g1, fun w Hb2 H2 g2 r2 => ?_⟩⟩
  have g12 := g1.trans g2
  have y2' := g12.h _ _ y2
  have y1' := g12.h _ _ y1
  refine ⟨l, us, k, j, rfl, rep_int.mp r2, y2', by rw [y3.len]; exact e3, ?_⟩
  have nal : a ≠ l := ne_of y1' y2' (by intro z; cases z)
  exact L.nx _ σ Hb2 _ ow q ((S.grow g12).change o2 z1 ⟨a, dx, l, _, rfl, o1, o2, by rw [upd_ne nal]; exact y1', upd_same, (y3.same g12.hb).set (Rep.same g2.hb r)⟩) ((F.grow g12).change o2 e0 (md_cases hm) rfl)

/-! ### a net is made -/
def spInit (g : Glo) : Sp := fun vs H Q E => ∃ (p dx : Addr) (size : Int), vs = [.ref p, .int size] ∧ H p = some (.ins g.C dx []) ∧ (¬ (1 ≤ size ∧ size ≤ 12) → E (.ref (g.cls .much)) none H) ∧
  (1 ≤ size ∧ size ≤ 12 → ∀ H' l, H l = none → (∀ b, b ≠ p → b ≠ l → H' b = H b) → H' p = some (.ins g.C dx (netF size l)) → H' l = some (.lst []) → Q .non H')
def newF (f : VF) : En → Option Rs := fun Γ => (f Γ).bind fun d => (toI d).bind fun s => some (if 1 ≤ s ∧ s ≤ 12 then .inl (.net .loc s []) else .inr .much)
def tMakeE (C : Addr) (sp : Sp) (E : L2.St → XK) (t : TA) : TE := fun σ H Q => t σ H fun vs H1 => ∀ x dx, H1 x = none → H1 dx = none → dx ≠ x → sp (.ref x :: vs) (upd (upd H1 dx (.own x)) x (.ins C dx [])) (fun v H2 => v = .non ∧ Q (.ref x) H2) (E σ)
theorem ex_new {f : VF} (h : PE X c (tMakeE g.C (spInit g) (WE W) (tCons (eV g f) tNil))) : PE X c (eX g W (newF f)) := PE_mono h fun σ H Q ⟨Γ, Hb, ow, r, ef, S, k⟩ => by
  obtain ⟨d, e1, ef⟩ := Option.bind_eq_some_iff.mp ef
  obtain ⟨s, e2, ef⟩ := Option.bind_eq_some_iff.mp ef
  have ef := Option.some.inj ef
  subst ef
  cases toI_some e2
  refine ⟨Γ, Hb, ow, _, e1, S, fun v Hb1 H1 g1 r1 y dx hy hdx ne => ?_⟩
  have g2 : Grow Hb1 H1 Hb1 (upd (upd H1 dx (.own y)) y (.ins g.C dx [])) := (Grow.own g1.same hdx).trans (Grow.own (Grow.own g1.same hdx).same (by rw [upd_ne (Ne.symm ne)]; exact hy))
  refine ⟨y, dx, s, by rw [rep_int.mp r1], upd_same, fun hs => ?_, fun hs H' l hl hk hp hq => ⟨rfl, ?_⟩⟩
  · rw [if_neg hs] at k
    exact k Hb1 _ (g1.trans g2)
  · rw [if_pos hs] at k
    have ly : l ≠ y := fun z => by subst z; rw [upd_same] at hl; cases hl
    have ldx : l ≠ dx := fun z => by subst z; rw [upd_ne ne, upd_same] at hl; cases hl
    have hl1 : H1 l = none := by rw [upd_ne ly, upd_ne ldx] at hl; exact hl
    have old : ∀ b, H1 b ≠ none → H' b = H1 b := fun b hb => by
      have b1 : b ≠ y := fun z => by subst z; exact hb hy
      have b2 : b ≠ l := fun z => by subst z; exact hb hl1
      have b3 : b ≠ dx := fun z => by subst z; exact hb hdx
      rw [hk b b1 b2, upd_ne b1, upd_ne b3]
    have g3 : Grow Hb1 H1 Hb1 H' := ⟨Same.refl _, fun b o e => by rw [old b (some_ne e)]; exact e, fun b o e => by
      have := g1.same _ _ e
      rw [old b (some_ne this)]
      exact this, fun a e => .inl e⟩
    exact k _ Hb1 H' (g1.trans g3) ⟨y, dx, l, [], rfl, g1.h.free hy, g1.same.free hy, g1.h.free hl1, g1.same.free hl1, hp, hq, Reps.nil⟩
structure Cak (P : Program) (w : World) (g : Glo) (mg : Str → Option Value) (base : Heap) (CX : CXT) (x : Str) (k : Nat) (sp : Sp) : Prop where
  ex : ∃ f fd ps, mg x = some (.ref g.C) ∧ Mk g.K g.C f ∧ Binds g.K fd ps [] ∧ FnOk P w g.K mg base CX k f fd ps sp
theorem pe_cak {sp : Sp} {t : TA} (C : Cak X.prog X.w g X.mg X.base CX x k sp) (hK : X.K = g.K) (hr : Room (k + 1) X.A) (hg : Gl X x) (hx : ∀ σ, PassesAt CX X σ (WE W σ)) (ha : PA X (e :: es) t) (hdb : (x == ("__debug__" : Str)) = false := by decide)
    (he : starEach (e :: es) X.env = (false, eval e X.env) :: starEach es X.env := by rfl) (hpl : (backTo pos (starEach es X.env)).any (·.1) = false := by rfl) : PE X (.Call (.Name x p) (e :: es) [] pos) (tMakeE g.C sp (WE W) t) := by
  obtain ⟨f, fd, ps, h1, h2, h3, h4⟩ := C.ex
  rw [← hK] at h2 h3 h4
  refine ⟨fun pins s σ H Q I h => wpAny_Call_Name_kw (ld_glob I hg h1 ?_ hdb)⟩
  refine PySem.W.callWith_K (h₀ := X.base) I.ok.mod.kin h2.kp (thn (ha.run pos pins s σ H _ I h) fun us s1 ⟨vs, H1, I1, r, q⟩ => ⟨I1.kIn, ?_⟩) he hpl
  have hq := q (s1.heap.objs.size + 1) s1.heap.objs.size (I1.hok.fresh (Nat.le_succ _)) (I1.hok.fresh (Nat.le_refl _)) (Nat.ne_of_lt (Nat.lt_succ_self _))
  have I2 := Inv.made (C := g.C) I1
  have r2 : Vals (V.ref (s1.heap.objs.size + 1) :: vs) (Value.ref (s1.heap.objs.size + 1) :: us) := .cons rfl r
  have hl : (Value.ref (s1.heap.objs.size + 1) :: us).length = ps.length := by rw [← r2.length]; exact h4.len _ _ _ _ hq
  have bb := h3 ⟨_, s1.gens, s1.drawn, s1.toks, s1.os⟩ (Value.ref (s1.heap.objs.size + 1) :: us) I2.kIn (by rw [List.append_nil]; exact hl)
  rw [List.append_nil] at bb
  refine wpAny_call (make_map (f := f) I1.kIn h2.makes h2.init (beq_iff_eq.mp h2.fn) (codeAny_mono (h4.run _ X.stack _ _ ⟨Value.ref (s1.heap.objs.size + 1) :: us, []⟩ _ _ _ (WE W σ) (hr.make g.C us []) (I2.env0.make g.C us []) bb r2 hq) fun r s' hq' => ?_))
  cases r with
  | error e => exact hx σ pins _ _ e s' I2 hq'
  | ok fl =>
    cases fl with
    | ret u =>
      obtain ⟨v, H', I3, rv, ev, q3⟩ := I2.after hq'
      subst ev
      exact ⟨rv, ⟨V.ref (s1.heap.objs.size + 1), H', I3, rfl, q3⟩⟩
    | next => exact False.elim hq'
    | brk => exact False.elim hq'
    | cont => exact False.elim hq'
end
end Z

set_option maxRecDepth 100000
namespace Z
open PySem PySem.Spec PyProof.Rows L2
section
variable {X : Cx} {g : Glo} {c e : Expr} {es : List Expr} {st : Stmt} {W : WX}
theorem rd_ofO {f : VS} {σ : SS} {H : Hp} {Q : VK} (h : eV g (v1 slD f) σ H Q) : eO g f σ H Q := by
  obtain ⟨Γ, Hb, ow, d, ef, S, k⟩ := h
  obtain ⟨x, e1, ef⟩ := Option.bind_eq_some_iff.mp ef
  refine ⟨Γ, Hb, ow, x, e1, S, fun v Hb1 H1 g1 q1 => ?_⟩
  cases x with
  | val d' => cases ef; exact k v Hb1 H1 g1 q1
  | own m ds =>
    cases ef
    obtain ⟨a, vs, rfl, h0, hb, h1, h2⟩ := q1
    exact k _ _ H1 (froze g1 h0 hb h1) (rep_lst.mpr ⟨a, vs, rfl, upd_same, h2.same (same_upd hb)⟩)
  | odic m ks =>
    cases ef
    obtain ⟨a, rfl, h0, hb, h1⟩ := q1
    exact k _ _ H1 (froze g1 h0 hb h1) (rep_dic.mpr ⟨a, rfl, upd_same⟩)
  | net m size ps => cases ef
theorem s_asgLc {i : Nat} {vs : List Nat} {f : VL} {tgt : TG} {gt : TgF} {t : VB} {e : VF} (ht : TgOk g tgt gt vs) (tl : ∀ {d Γ Γ1}, gt d Γ = some Γ1 → Γ1.length = Γ.length) (h : PS X st (tAsg (tLc (eI g KpG f) tgt (eT g t) (eV g e) vs) (gName i))) :
    PS X st (sV g W (asgO i (vLc vs f gt t e))) := s_asgO (PS_mono h fun De σ H q => lc_read ht tl q)
theorem s_asgLcV {i : Nat} {vs : List Nat} {f : VL} {tgt : TG} {gt : TgF} {t : VB} {e : VF} (ht : TgOk g tgt gt vs) (tl : ∀ {d Γ Γ1}, gt d Γ = some Γ1 → Γ1.length = Γ.length) (h : PS X st (tAsg (tLc (eI g KpG f) tgt (eT g t) (eV g e) vs) (gName i))) :
    PS X st (sV g W (asgV i (v1 slD (vLc vs f gt t e)))) := s_asgV (PS_mono h fun De σ H q => lc_read ht tl (rd_ofO q))
def breakT : VT := fun Q Γ => Q (.bk Γ)
theorem s_break (h : PS X st tBreak) : PS X st (sV g W breakT) := PS_mono h fun De σ H ⟨c, Q, Γ, Hb, ow, q, S, F, L⟩ => L.bk Γ σ Hb H ow q S F
/-- a global constant -/
theorem pe_gint {x : Str} {i : Int} {pos : Pos} (hm : ∃ t, X.mg x = some (.int i t)) (hg : Gl X x := by rfl) (hd : (x == ("__debug__" : Str)) = false := by decide) : PE X (.Name x pos) (tC (.int i)) := by
  obtain ⟨t, h⟩ := hm
  exact pe_glob hg h ⟨t, rfl⟩ hd
theorem pe_gstr {x : Str} {i : Str} {pos : Pos} (hm : ∃ t, X.mg x = some (.str i t)) (hg : Gl X x := by rfl) (hd : (x == ("__debug__" : Str)) = false := by decide) : PE X (.Name x pos) (tC (.str i)) := by
  obtain ⟨t, h⟩ := hm
  exact pe_glob hg h ⟨t, rfl⟩ hd

/-! ### isinstance -/
def tyN : D → String
  | .non => "NoneType"
  | .bl _ => "bool"
  | .int _ => "int"
  | .str _ => "str"
  | .lst _ => "list"
  | .tup _ => "tuple"
  | .dic _ => "dict"
  | .scr _ => "list"
def fIsi (T : String) (d : D) : Option D := (kitB (tyN d) T).map .bl
theorem kit1 : kitB "int" "int" = some true := by decide +kernel
theorem kit2 : kitB "bool" "int" = some true := by decide +kernel
theorem kit3 : kitB "int" "bool" = some false := by decide +kernel
theorem kit4 : kitB "bool" "bool" = some true := by decide +kernel
theorem kit5 : kitB "list" "list" = some true := by decide +kernel
theorem kit6 : kitB "tuple" "tuple" = some true := by decide +kernel
theorem kit7 : kitB "str" "str" = some true := by decide +kernel
theorem kit8 : kitB "NoneType" "int" = some false := by decide +kernel
theorem kit9 : kitB "NoneType" "list" = some false := by decide +kernel
theorem isi_int_int {n : Int} : fIsi "int" (.int n) = some (.bl true) := by unfold fIsi tyN; rw [kit1]; rfl
theorem isi_int_bool {n : Int} : fIsi "bool" (.int n) = some (.bl false) := by unfold fIsi tyN; rw [kit3]; rfl
theorem isi_bool_int {n : Bool} : fIsi "int" (.bl n) = some (.bl true) := by unfold fIsi tyN; rw [kit2]; rfl
theorem isi_bool_bool {n : Bool} : fIsi "bool" (.bl n) = some (.bl true) := by unfold fIsi tyN; rw [kit4]; rfl
theorem isi_list {ds : List D} : fIsi "list" (.lst ds) = some (.bl true) := by unfold fIsi tyN; rw [kit5]; rfl
theorem isi_tup {ds : List D} : fIsi "tuple" (.tup ds) = some (.bl true) := by unfold fIsi tyN; rw [kit6]; rfl
theorem isi_str {ds : Str} : fIsi "str" (.str ds) = some (.bl true) := by unfold fIsi tyN; rw [kit7]; rfl
theorem isi_non_int : fIsi "int" .non = some (.bl false) := by unfold fIsi tyN; rw [kit8]; rfl
theorem isi_non_list : fIsi "list" .non = some (.bl false) := by unfold fIsi tyN; rw [kit9]; rfl
theorem sql_ty {K : PySem.W.Frag} {H : Hp} {a : Addr} {xs : List V} (h : SqL K H a xs) : TyX K H (.ref a) (.type "list") := by
  rcases h with (h | ⟨o, h⟩) | ⟨o, its, n, h1, h2, _⟩
  · exact .base (.lst h)
  · exact .base (.frz h)
  · exact .kList h1 h2
theorem rep_ty {K : PySem.W.Frag} {H : Hp} {v : V} {d : D} (h : Rep K H v d) : TyX K H v (.type (tyN d)) := by
  cases d with
  | non => rw [rep_non.mp h]; exact .base .non
  | bl b => rw [rep_bl.mp h]; exact .base (.bl b)
  | int b => rw [rep_int.mp h]; exact .base (.int b)
  | str b => rw [rep_str.mp h]; exact .base (.str b)
  | lst b => obtain ⟨a, vs, rfl, h1, _⟩ := rep_lst.mp h; exact .base (.lst h1)
  | tup b => obtain ⟨a, vs, rfl, h1, _⟩ := rep_tup.mp h; exact .base (.tup h1)
  | dic b => obtain ⟨a, rfl, h1⟩ := rep_dic.mp h; exact .base (.dK h1)
  | scr b => obtain ⟨a, rfl, h1⟩ := rep_scr.mp h; exact sql_ty h1
theorem ev_isi {f : VF} {T : String} (h : PE X c (tOp (C2 (rIsi g.K)) (eV g f) (tC (.ty T)))) : PE X c (eV g (v1 (fIsi T) f)) := PE_mono h fun σ H Q ⟨Γ, Hb, ow, d, ef, S, k⟩ => by
  obtain ⟨x, e1, ef⟩ := Option.bind_eq_some_iff.mp ef
  obtain ⟨b, e2, rfl⟩ := Option.map_eq_some_iff.mp ef
  exact ⟨Γ, Hb, ow, x, e1, S, fun v Hb1 H1 g1 q1 => ⟨v, .ty T, _, _, b, rfl, .ty T, rep_ty (Rep.same g1.same q1), kit_ty e2, k _ Hb1 H1 g1 (rep_bl.mpr rfl)⟩⟩

/-! ### a list turned round -/
def fRev (ds : List D) : Option Sl := some (.own .loc ds.reverse)
theorem Reps.reverse {K : PySem.W.Frag} {H : Hp} : ∀ {ds : List D} {vs : List V}, Reps K H vs ds → Reps K H vs.reverse ds.reverse
  | [], _, h => by rw [reps_nil.mp h]; exact Reps.nil
  | d :: ds, _, h => by
    obtain ⟨v, r, rfl, h1, h2⟩ := reps_cons.mp h
    rw [List.reverse_cons, List.reverse_cons]
    exact h2.reverse.append (Reps.one h1)
theorem eo_rev {f : VL} (h : PE X c (tRevL g.K (eL g f))) : PE X c (eO g (v1 fRev f)) := PE_mono h fun σ H Q ⟨Γ, Hb, ow, d, ef, S, k⟩ => by
  obtain ⟨x, e1, ef⟩ := Option.bind_eq_some_iff.mp ef
  cases ef
  refine ⟨Γ, Hb, ow, x, e1, S, fun v Hb1 H1 g1 ⟨a, vs, ev, h1, h2⟩ => ?_⟩
  exact ⟨a, vs, ev, SqL.of h1, fun p hp => k _ Hb1 _ (g1.trans (Grow.own g1.same hp)) ⟨p, _, rfl, g1.h.free hp, g1.same.free hp, upd_same, h2.reverse⟩⟩

/-! ### own exceptions -/
structure ExT (g : Glo) (mg : Str → Option Value) (x : Str) (xx : Ex) : Prop where
  xC : PySem.W.excIn g.K (g.cls xx) [.type "ValueError", .type "Exception", .type "BaseException", .type "object"] "ValueError.__new__" = true
  gC : mg x = some (.ref (g.cls xx))
  kC : PySem.W.keepIn g.K (.ref (g.cls xx)) = true
  bC : PySem.W.subIn g.K (.ref (g.cls xx)) (.type "BaseException") = some true
  tC : PySem.W.typeIn g.K (.ref (g.cls xx)) = some (.type "type")
theorem s_raiseX {x m : Str} {xx : Ex} {j : Nat} {p p2 pos pos2 : Pos} (E : ExT g X.mg x xx) (hK : X.K = g.K) (hc : X.calm = true) (tk : Takes X W) (hg : Gl X x) (hdb : (x == ("__debug__" : Str)) = false := by decide) :
    PS X (.Raise (some (.Call (.Name x p) [.Constant (.str m) j p2] [] pos)) none pos2) (sV g W (raiseT xx)) := by
  obtain ⟨h1, h2, h3, h4, h5⟩ := E
  rw [← hK] at h1 h3 h4 h5
  exact s_raise (ps_raise hc tk (pmk_own PySem.F.excBase_ValueError h1 h2 h3 (raises_own h4 h5) hg hdb))

/-! ### comparisons as tests -/
theorem ek2_read {α β γ : Type} {r1 : RP α} {r2 : RP β} {r3 : RP γ} [Mono r1] [Mono r3] {f : En → Option α} {h' : En → Option β} {F : α → β → Option γ} {r : R2} {σ : SS} {H : Hp} {Q : VK} (hd : Op2 g r r1 r2 r3 F) (h : eK g r3 (v2 F f h') σ H Q) : tOp r (eK g r1 f) (eK g r2 h') σ H Q := by
  obtain ⟨Γ, Hb, ow, d, ef, S, k⟩ := h
  obtain ⟨x, e1, e2⟩ := Option.bind_eq_some_iff.mp ef
  obtain ⟨y, e3, e4⟩ := Option.bind_eq_some_iff.mp e2
  exact ⟨Γ, Hb, ow, x, e1, S, fun v Hb1 H1 g1 q1 => ⟨Γ, Hb1, ow, y, e3, S.grow g1, fun u Hb2 H2 g2 q2 => hd x y d v u H H1 Hb2 H2 Q e4 g2.same (Mono.mono g2 q1) q2 fun v' Hb3 H3 g3 q3 =>
    k v' Hb3 H3 ((g1.trans g2).trans g3) (Mono.back (frees (g1.h.trans g2.h)) q3)⟩⟩
theorem pt_2 {α β : Type} {r1 : RP α} {r2 : RP β} [Mono r1] {f : En → Option α} {h' : En → Option β} {F : α → β → Option D} {r : R2} (h : PT X c (tTest (tOp r (eK g r1 f) (eK g r2 h')))) (hd : Op2 g r r1 r2 rD F) : PT X c (eT g (bV (v2 F f h'))) := PT_mono h fun σ H Q ⟨Γ, Hb, ow, d, ef, S, k⟩ => by
  obtain ⟨x, e1, e2⟩ := Option.bind_eq_some_iff.mp ef
  cases toB_some e2
  exact ek2_read hd ⟨Γ, Hb, ow, _, e1, S, fun v Hb' H' g' r => ⟨d, rep_bl.mp r, k Hb' H' g'⟩⟩
theorem to_ptdin {ty td : TE} (h : PT X c (tB (tDIn ty td))) : PT X c (tTest (tOp (rDIn false) ty td)) := PT_mono h fun σ H Q q => q
theorem to_ptdnotin {ty td : TE} (h : PT X c (tB (tDNotIn ty td))) : PT X c (tTest (tOp (rDIn true) ty td)) := PT_mono h fun σ H Q q => q
theorem pt_ch {r r' : R2} {F G : D → D → Option D} {f h' j : VF} (h : PT X c (tTest (tChain r r' (eV g f) (eV g h') (eV g j)))) (d1 : Op2 g r rD rD rD F) (d2 : Op2 g r' rD rD rD G) : PT X c (eT g (bV (vChain F G f h' j))) := PT_mono h fun σ H Q ⟨Γ, Hb, ow, d, ef, S, k⟩ => by
  obtain ⟨x, e1, e2⟩ := Option.bind_eq_some_iff.mp ef
  cases toB_some e2
  exact chain_read d1 d2 ⟨Γ, Hb, ow, _, e1, S, fun v Hb' H' g' r => ⟨d, rep_bl.mp r, k Hb' H' g'⟩⟩
end
end Z

set_option maxRecDepth 100000
namespace Z
open PySem PySem.Spec PyProof.Rows L2
section
variable {X : Cx} {g : Glo} {W : WX}
/-! ### try .. except x: suite, the suite raising nothing -/
def ctL (l : List Ex) : Ex → Option Bool := fun xx => if xx ∈ l then some true else none
structure CtT (g : Glo) (mg : Str → Option Value) (x : Str) (cg : Ex → Option Bool) : Prop where
  ex : ∃ C, mg x = some (.ref C) ∧ ∀ xx b, cg xx = some b → PySem.W.exmOne g.K (.ref (g.cls xx)) (.ref C) = some b
def tryQ (cg : Ex → Option Bool) (Ts : VT) (Q : Out → Prop) : Out → Prop
  | .ex x Γ => match cg x with
    | some true => Ts Q Γ
    | some false => Q (.ex x Γ)
    | none => False
  | o => Q o
def tryT (cg : Ex → Option Bool) (Tb Ts : VT) : VT := fun Q Γ => Tb (tryQ cg Ts Q) Γ
theorem s_try {x : Str} {cg : Ex → Option Bool} {Tb Ts : VT} {body suite : List Stmt} {b₀ : Stmt} {np pos pos' : Pos} (Ct : CtT g X.mg x cg) (hK : X.K = g.K) (hg : Gl X x) (hs : X.stack = X.env :: X.outer) (hf : X.env.frame = some X.env.locals) (tk : Takes X W)
    (hb : ∀ (W' : WX) (pn : List (Addr × Obj)) (xe : Value → Shared → Prop), Takes (X.tr pn xe) W' → PassesOwn (model X.prog X.w) X.A X.env xe → PSs (X.tr pn xe) body (sV g W' Tb))
    (hsu : ∀ (a : Addr) (oe : Obj) (pn : List (Addr × Obj)), PSs (X.suite a ((a, oe) :: pn)) (b₀ :: suite) (sV g W Ts)) (hdb : (x == ("__debug__" : Str)) = false := by decide) :
    PS X (.Try body [.ExceptHandler (some (.Name x np)) none (b₀ :: suite) pos'] [] [] pos) (sV g W (tryT cg Tb Ts)) := by
  obtain ⟨C, h1, h2⟩ := Ct.ex
  refine PS_mono (ps_try_only (c := .ref C) (ts := fun _ _ _ => sV g W Ts) hs hf ⟨hg, hdb, .inl h1⟩ tk hb fun a oe cls d pn _ _ => hsu a oe pn) fun De σ H ⟨c, Q, Γ, Hb, ow, t, S, F, L⟩ =>
    ⟨c, tryQ cg Ts Q, Γ, Hb, ow, t, S, F, ⟨L.nx, L.bk, L.ct, L.rt, fun xx Γ1 σ1 Hb1 H1 ow1 q S1 F1 => ?_⟩⟩
  unfold tryQ at q
  simp only at q
  split at q
  · rename_i e
    exact ⟨true, by rw [hK]; exact h2 _ _ e, fun _ a _ => ⟨c, Q, Γ1, Hb1, ow1, q, S1, F1, L⟩, fun z => (nomatch z)⟩
  · rename_i e
    exact ⟨false, by rw [hK]; exact h2 _ _ e, fun z => (nomatch z), fun _ => L.ex _ _ _ _ _ _ q S1 F1⟩
  · exact q.elim
/-! ### {n: True} -/
def oDic1 (n : Int) : VS := fun _ => some (.odic .loc [n])
theorem upd_upd {H : Hp} {p : Addr} {a b : HO} : upd (upd H p a) p b = upd H p b := funext fun x => by
  by_cases c : x = p
  · subst c
    rw [upd_same, upd_same]
  · rw [upd_ne c, upd_ne c, upd_ne c]
theorem eo_dic1 {c : Expr} {n : Int} (h : PE X c (tDisp [(tC (.int n), tC (.bl true))])) : PE X c (eO g (oDic1 n)) := PE_mono h fun σ H Q ⟨Γ, Hb, ow, d, ef, S, k⟩ => by
  cases ef
  intro p hp
  refine ⟨upd_same, [(Sum.inl n, .bl true)], rfl, (by show 1 ≤ 15; decide), ?_⟩
  rw [upd_upd]
  exact k _ Hb _ (Grow.own S.same hp) ⟨p, rfl, hp, S.same.free hp, upd_same⟩
end
end Z

set_option maxRecDepth 100000
namespace Z
open PySem PySem.Spec PyProof.Rows L2

/-! ### helps for readings by values -/
theorem v1e {α γ : Type} {F : α → Option γ} {f : En → Option α} {Γ : En} {x : α} {y : γ} (h1 : f Γ = some x) (h2 : F x = some y) : v1 F f Γ = some y := by unfold v1; rw [h1]; exact h2
theorem v2e {α β γ : Type} {F : α → β → Option γ} {f : En → Option α} {h : En → Option β} {Γ : En} {x : α} {y : β} {z : γ} (h1 : f Γ = some x) (h2 : h Γ = some y) (h3 : F x y = some z) : v2 F f h Γ = some z := by unfold v2; rw [h1]; show (h Γ).bind _ = _; rw [h2]; exact h3
theorem xc {n : Nat} {F : FN} {fs : VA} {Γ : En} {as : List Ar} {ss : List Sl} {r : Rs} (h1 : fs Γ = some as) (h2 : ndA as = true ∧ as.length = n) (h3 : arSls Γ as = some ss) (h4 : F ss = some r) : xCall n F fs Γ = some r := by
  unfold xCall; rw [h1]; show (if _ then _ else _) = _; rw [if_pos h2, h3]; exact h4
theorem xm {n i : Nat} {F : FN} {fs : VA} {Γ : En} {r : Rs} (h0 : netAt i Γ = true) (h : xCall n F (rS i fs) Γ = some r) : xMeth n F i fs Γ = some r := by unfold xMeth; rw [if_pos h0]; exact h
theorem rVe {f : VF} {fs : VA} {Γ : En} {d : D} {as : List Ar} (h1 : f Γ = some d) (h2 : fs Γ = some as) : rV f fs Γ = some (.v d :: as) := by unfold rV; rw [h1, h2]; rfl
theorem bVe {f : VF} {Γ : En} {b : Bool} (h : f Γ = some (.bl b)) : bV f Γ = some b := by unfold bV; rw [h]; rfl
theorem if_b {t : VB} {T U : VT} {Q : Out → Prop} {Γ : En} {b : Bool} (e : t Γ = some b) (h1 : b = true → T Q Γ) (h2 : b = false → U Q Γ) : ifT t T U Q Γ := ⟨b, e, h1, h2⟩
theorem if_d {t : VB} {T U : VT} {Q : Out → Prop} {Γ : En} {p : Prop} [Decidable p] (e : t Γ = some (decide p)) (h1 : p → T Q Γ) (h2 : ¬ p → U Q Γ) : ifT t T U Q Γ := ⟨_, e, fun h => h1 (of_decide_eq_true h), fun h => h2 (of_decide_eq_false h)⟩
theorem if_t {t : VB} {T U : VT} {Q : Out → Prop} {Γ : En} (e : t Γ = some true) (h1 : T Q Γ) : ifT t T U Q Γ := ⟨_, e, fun _ => h1, fun h => (nomatch h)⟩
theorem if_f {t : VB} {T U : VT} {Q : Out → Prop} {Γ : En} (e : t Γ = some false) (h1 : U Q Γ) : ifT t T U Q Γ := ⟨_, e, fun h => (nomatch h), fun _ => h1⟩
/-- or, and, not, by two decisions -/
theorem bOr_d {f h : VB} {Γ : En} {p q : Prop} [Decidable p] [Decidable q] (h1 : f Γ = some (decide p)) (h2 : ¬ p → h Γ = some (decide q)) : bOr f h Γ = some (decide (p ∨ q)) := by
  unfold bOr
  rw [h1]
  by_cases c : p
  · simp [c]
  · simp [c, h2 c]
theorem bAnd_d {f h : VB} {Γ : En} {p q : Prop} [Decidable p] [Decidable q] (h1 : f Γ = some (decide p)) (h2 : p → h Γ = some (decide q)) : bAnd f h Γ = some (decide (p ∧ q)) := by
  unfold bAnd
  rw [h1]
  by_cases c : p
  · simp [c, h2 c]
  · simp [c]
theorem bNot_d {f : VB} {Γ : En} {p : Prop} [Decidable p] (h1 : f Γ = some (decide p)) : bNot f Γ = some (decide (¬ p)) := by
  unfold bNot
  rw [h1]
  by_cases c : p <;> simp [c]
theorem vAnd_t {f h : VF} {Γ : En} {y : D} (h1 : f Γ = some (.bl true)) (h2 : h Γ = some y) : vAnd f h Γ = some y := by unfold vAnd; rw [h1]; exact h2
theorem vAnd_f {f h : VF} {Γ : En} (h1 : f Γ = some (.bl false)) : vAnd f h Γ = some (.bl false) := by unfold vAnd; rw [h1]; rfl
theorem vAnd_d {f h : VF} {Γ : En} {p q : Prop} [Decidable p] [Decidable q] (h1 : f Γ = some (.bl (decide p))) (h2 : p → h Γ = some (.bl (decide q))) : vAnd f h Γ = some (.bl (decide (p ∧ q))) := by
  by_cases c : p
  · rw [vAnd_t (by rw [h1, decide_eq_true c]) (h2 c)]
    simp [c]
  · rw [vAnd_f (by rw [h1, decide_eq_false c])]
    simp [c]
theorem vOr_f {f h : VF} {Γ : En} {y : D} (h1 : f Γ = some (.bl false)) (h2 : h Γ = some y) : vOr f h Γ = some y := by unfold vOr; rw [h1]; exact h2
theorem vOr_t {f h : VF} {Γ : En} (h1 : f Γ = some (.bl true)) : vOr f h Γ = some (.bl true) := by unfold vOr; rw [h1]; rfl
theorem ite_some {c : Prop} {_ : Decidable c} {α : Type} {x : α} (h : c) : (if c then some x else none) = some x := if_pos h
theorem dec_t {p : Prop} [Decidable p] {o : Option Bool} (h : p) (e : o = some (decide p)) : o = some true := by rw [e, decide_eq_true h]
theorem dec_f {p : Prop} [Decidable p] {o : Option Bool} (h : ¬ p) (e : o = some (decide p)) : o = some false := by rw [e, decide_eq_false h]
theorem loopT_inv {α : Type} {enc : α → D} {gt : TgF} {T : VT} {Q : Out → Prop} (I : List α → En → Prop)
    (step : ∀ x xs Γ (k : En → Prop), I (x :: xs) Γ → (∀ Γ', I xs Γ' → k Γ') → ∃ Γ1, gt (enc x) Γ = some Γ1 ∧ T (loopQ k Q) Γ1) (done : ∀ Γ, I [] Γ → Q (.nx Γ)) : ∀ (xs : List α) (Γ : En), I xs Γ → loopT gt T (xs.map enc) Q Γ
  | [], Γ, h => done Γ h
  | x :: xs, Γ, h => step x xs Γ _ h fun Γ' h' => loopT_inv I step done xs Γ' h'
/-- an item at a place -/
theorem atI_get' {α : Type} {xs : List α} {j : Nat} {v : α} (h : xs[j]? = some v) : atI xs (j : Int) = some v := atI_nat h
theorem ixN_nat {n j : Nat} (h : j < n) : ixN n (j : Int) = some j := by
  unfold ixN
  rw [if_pos (Int.natCast_nonneg j), if_pos (by omega)]
  simp

/-! ### pipes -/
abbrev P3 := Nat × Nat × Bool
abbrev O3 := Nat × Nat × Nat
def dP (p : P3) : D := .tup [.int (p.1 : Int), .int (p.2.1 : Int), .bl p.2.2]
def dO3 (p : O3) : D := .tup [.int (p.1 : Int), .int (p.2.1 : Int), .int (p.2.2 : Int)]
def dPs (ps : List P3) : List D := ps.map dP
end Z

set_option maxRecDepth 100000
namespace Z
open PySem PySem.Spec PyProof.Rows L2
theorem nf_size : noFld "size" := noFld_of (by decide +kernel) (by decide +kernel)
theorem nf_pipes : noFld "pipes" := noFld_of (by decide +kernel) (by decide +kernel)
theorem nf_see_place : noFld "see_place" := noFld_of (by decide +kernel) (by decide +kernel)
theorem nf_see_pipe : noFld "see_pipe" := noFld_of (by decide +kernel) (by decide +kernel)
theorem nf_lay : noFld "lay" := noFld_of (by decide +kernel) (by decide +kernel)
theorem nf_turn : noFld "turn" := noFld_of (by decide +kernel) (by decide +kernel)
theorem nf_shut : noFld "shut" := noFld_of (by decide +kernel) (by decide +kernel)
theorem nf_reopen : noFld "reopen" := noFld_of (by decide +kernel) (by decide +kernel)

/-! ### nets -/
def F_size : FN
  | [.net _ size _] => some (.inl (.val (.int size)))
  | _ => none
/-- size: 0 self -/
def t_size : VT := (seqT (retV (nSize 0)) skipT)
theorem v_size : ∀ ss r, ss.length = 1 → F_size ss = some r → t_size (postP r) (En0 ss 1) ∧ ∃ s, r = .inl s := by
  intro ss r hl h
  unfold F_size at h
  split at h
  · cases h
    exact ⟨⟨_, rfl, rfl⟩, _, rfl⟩
  · cases h
def F_see_place : FN
  | [.net _ size _, .val (.int p)] => some (if p < 0 ∨ size ≤ p then .inr .place else .inl (.val .non))
  | _ => none
/-- see_place: 0 self 1 place -/
def t_see_place : VT := (seqT (ifT (bOr (bV (v2 fLt (vVar 1) (vC (.int 0)))) (bV (v2 fGe (vVar 1) (nSize 0)))) (seqT (raiseT .place) skipT) skipT) skipT)
theorem v_see_place : ∀ ss r, ss.length = 2 → F_see_place ss = some r → t_see_place (postP r) (En0 ss 2) := by
  intro ss r hl h
  unfold F_see_place at h
  split at h
  · rename_i m size ps p
    have h := Option.some.inj h
    subst h
    refine if_d (p := p < 0 ∨ size ≤ p) (bOr_d rfl fun _ => rfl) (fun c => ?_) (fun c => ?_)
    · rw [if_pos c]; exact rfl
    · rw [if_neg c]; exact rfl
  · cases h
def F_see_pipe : FN
  | [.net _ _ ps, .val (.int p)] => some (if p < 0 ∨ (ps.length : Int) ≤ p then .inr .pipe else .inl (.val .non))
  | _ => none
/-- see_pipe: 0 self 1 pipe -/
def t_see_pipe : VT := (seqT (ifT (bOr (bV (v2 fLt (vVar 1) (vC (.int 0)))) (bV (v2 fGe (vVar 1) (v1 fLenL (nPs 0))))) (seqT (raiseT .pipe) skipT) skipT) skipT)
theorem v_see_pipe : ∀ ss r, ss.length = 2 → F_see_pipe ss = some r → t_see_pipe (postP r) (En0 ss 2) := by
  intro ss r hl h
  unfold F_see_pipe at h
  split at h
  · rename_i m size ps p
    have h := Option.some.inj h
    subst h
    refine if_d (p := p < 0 ∨ (ps.length : Int) ≤ p) (bOr_d rfl fun _ => rfl) (fun c => ?_) (fun c => ?_)
    · rw [if_pos c]; exact rfl
    · rw [if_neg c]; exact rfl
  · cases h
def F_pipes : FN
  | [.net _ _ ps] => some (.inl (.own .loc ps))
  | _ => none
/-- pipes: 0 self -/
def t_pipes : VT := (seqT (retO (v1 fList (nPs 0))) skipT)
theorem v_pipes : ∀ ss r, ss.length = 1 → F_pipes ss = some r → t_pipes (postP r) (En0 ss 1) ∧ ∃ s, r = .inl s := by
  intro ss r hl h
  unfold F_pipes at h
  split at h
  · cases h
    exact ⟨⟨_, rfl, rfl⟩, _, rfl⟩
  · cases h
def layPs (size : Int) (ps : List D) (a b : Int) : Ex ⊕ List D :=
  if a < 0 ∨ size ≤ a then .inl .place else if b < 0 ∨ size ≤ b then .inl .place else if a = b then .inl .same else if 60 ≤ (ps.length : Int) then .inl .much else .inr (ps ++ [.tup [.int a, .int b, .bl true]])
def G_lay : FM
  | [.net .mut size ps, .val (.int a), .val (.int b)] => match layPs size ps a b with
    | .inl x => some (.inr x, [.net .mut size ps, .val (.int a), .val (.int b)])
    | .inr ps' => some (.inl (.val (.int ps.length)), [.net .mut size ps', .val (.int a), .val (.int b)])
  | _ => none
/-- lay: 0 self 1 start 2 goal -/
def t_lay : VT := (seqT (exprX (xMeth 2 F_see_place 0 (rV (vVar 1) rNil))) (seqT (exprX (xMeth 2 F_see_place 0 (rV (vVar 2) rNil))) (seqT (ifT (bV (v2 fEq (vVar 1) (vVar 2))) (seqT (raiseT .same) skipT) skipT) (seqT (ifT (bV (v2 fGe (v1 fLenL (nPs 0)) (vC (.int 60)))) (seqT (raiseT .much) skipT) skipT) (seqT (appNT 0 (vTup (aCons (vVar 1) (aCons (vVar 2) (aCons (vC (.bl true)) aNil))))) (seqT (retV (v2 fSub (v1 fLenL (nPs 0)) (vC (.int 1)))) skipT))))))
theorem v_lay : ∀ ss r ss', ss.length = 3 → G_lay ss = some (r, ss') → t_lay (postM r ss ss') (En0 ss 3) := by
  intro ss r ss' hl h
  unfold G_lay at h
  split at h
  · rename_i size ps a b
    refine ⟨_, xm rfl (xc rfl ⟨rfl, rfl⟩ rfl rfl), ?_⟩
    by_cases c1 : a < 0 ∨ size ≤ a
    · rw [if_pos c1]
      rw [show layPs size ps a b = .inl .place by unfold layPs; rw [if_pos c1]] at h
      cases h
      exact ⟨rfl, .inl ⟨rfl, rfl⟩, .inr ⟨rfl, rfl⟩, .inr ⟨rfl, rfl⟩, trivial⟩
    rw [if_neg c1]
    refine ⟨_, xm rfl (xc rfl ⟨rfl, rfl⟩ rfl rfl), ?_⟩
    by_cases c2 : b < 0 ∨ size ≤ b
    · rw [if_pos c2]
      rw [show layPs size ps a b = .inl .place by unfold layPs; rw [if_neg c1, if_pos c2]] at h
      cases h
      exact ⟨rfl, .inl ⟨rfl, rfl⟩, .inr ⟨rfl, rfl⟩, .inr ⟨rfl, rfl⟩, trivial⟩
    rw [if_neg c2]
    refine if_d (p := a = b) rfl (fun c3 => ?_) (fun c3 => ?_)
    · rw [show layPs size ps a b = .inl .same by unfold layPs; rw [if_neg c1, if_neg c2, if_pos c3]] at h
      cases h
      exact ⟨rfl, .inl ⟨rfl, rfl⟩, .inr ⟨rfl, rfl⟩, .inr ⟨rfl, rfl⟩, trivial⟩
    refine if_d (p := 60 ≤ (ps.length : Int)) rfl (fun c4 => ?_) (fun c4 => ?_)
    · rw [show layPs size ps a b = .inl .much by unfold layPs; rw [if_neg c1, if_neg c2, if_neg c3, if_pos c4]] at h
      cases h
      exact ⟨rfl, .inl ⟨rfl, rfl⟩, .inr ⟨rfl, rfl⟩, .inr ⟨rfl, rfl⟩, trivial⟩
    rw [show layPs size ps a b = .inr _ by unfold layPs; rw [if_neg c1, if_neg c2, if_neg c3, if_neg c4]] at h
    cases h
    refine ⟨(by intro z; cases z), _, rfl, by omega, _, rfl, ?_, .inl ⟨rfl, rfl⟩, .inr ⟨rfl, rfl⟩, .inr ⟨rfl, rfl⟩, trivial⟩
    show (Sum.inl (Sl.val (D.int (ps.length : Int))) : Rs) = Sum.inl (Sl.val (D.int (((ps ++ [D.tup [D.int a, D.int b, D.bl true]]).length : Int) - 1)))
    rw [List.length_append]
    congr 3
    simp
  · cases h
/-- a pipe is turned; none: there is no such pipe -/
def turnPs (ps : List D) (p : Int) (o : Bool) : Option (Option (List D)) :=
  if p < 0 ∨ (ps.length : Int) ≤ p then some none else match ps[p.toNat]? with
    | some (.tup [a, b, _]) => some (some (ps.set p.toNat (.tup [a, b, .bl o])))
    | _ => none
def turnR (size : Int) (ps : List D) (more : List Sl) : Option (List D) → Rs × List Sl
  | none => (.inr .pipe, .net .mut size ps :: more)
  | some ps' => (.inl (.val .non), .net .mut size ps' :: more)
def G_turn : FM
  | [.net .mut size ps, .val (.int p), .val (.bl o)] => (turnPs ps p o).map (turnR size ps [.val (.int p), .val (.bl o)])
  | _ => none
/-- turn: 0 self 1 pipe 2 opened 3 old -/
def t_turn : VT := (seqT (exprX (xMeth 2 F_see_pipe 0 (rV (vVar 1) rNil))) (seqT (asgV 3 (v2 fIxL (nPs 0) (vVar 1))) (seqT (setNT 0 (vVar 1) (vTup (aCons (v2 fIx (vVar 3) (vC (.int 0))) (aCons (v2 fIx (vVar 3) (vC (.int 1))) (aCons (vVar 2) aNil))))) skipT)))
theorem turnPs_no {ps : List D} {p : Int} {o : Bool} (h : p < 0 ∨ (ps.length : Int) ≤ p) : turnPs ps p o = some none := by unfold turnPs; rw [if_pos h]
theorem turnPs_yes {ps : List D} {p : Int} {o : Bool} {q : Option (List D)} (h : ¬ (p < 0 ∨ (ps.length : Int) ≤ p)) (e : turnPs ps p o = some q) : ∃ a b c, ps[p.toNat]? = some (.tup [a, b, c]) ∧ q = some (ps.set p.toNat (.tup [a, b, .bl o])) := by
  unfold turnPs at e
  rw [if_neg h] at e
  split at e
  · cases e
    exact ⟨_, _, _, by assumption, rfl⟩
  · cases e
theorem v_turn : ∀ ss r ss', ss.length = 3 → G_turn ss = some (r, ss') → t_turn (postM r ss ss') (En0 ss 4) := by
  intro ss r ss' hl h
  unfold G_turn at h
  split at h
  · rename_i size ps p o
    obtain ⟨q, e, e2⟩ := Option.map_eq_some_iff.mp h
    refine ⟨_, xm rfl (xc rfl ⟨rfl, rfl⟩ rfl rfl), ?_⟩
    by_cases c : p < 0 ∨ (ps.length : Int) ≤ p
    · rw [if_pos c]
      rw [turnPs_no c] at e
      cases e
      cases e2
      exact ⟨rfl, .inl ⟨rfl, rfl⟩, .inr ⟨rfl, rfl⟩, .inr ⟨rfl, rfl⟩, trivial⟩
    rw [if_neg c]
    obtain ⟨a, b, c', e3, rfl⟩ := turnPs_yes c e
    cases e2
    have ep : ((p.toNat : Nat) : Int) = p := by omega
    have e4 : atI ps p = some (.tup [a, b, c']) := by rw [← ep]; exact atI_nat e3
    refine ⟨_, v2e (x := ps) rfl rfl e4, ?_⟩
    refine ⟨(by intro z; cases z), _, _, p.toNat, rfl, rfl, ?_, rfl, .inl ⟨rfl, rfl⟩, .inr ⟨rfl, rfl⟩, .inr ⟨rfl, rfl⟩, trivial⟩
    have := ixN_nat (n := ps.length) (j := p.toNat) (by omega)
    rw [ep] at this
    exact this
  · cases h
def G_shut : FM
  | [.net .mut size ps, .val (.int p)] => (turnPs ps p false).map (turnR size ps [.val (.int p)])
  | _ => none
/-- shut: 0 self 1 pipe -/
def t_shut : VT := (seqT (nmT none 3 G_turn 0 (rV (vVar 1) (rV (vC (.bl false)) rNil))) skipT)
theorem v_shut : ∀ ss r ss', ss.length = 2 → G_shut ss = some (r, ss') → t_shut (postM r ss ss') (En0 ss 2) := by
  intro ss r ss' hl h
  unfold G_shut at h
  split at h
  · rename_i size ps p
    obtain ⟨q, e, e2⟩ := Option.map_eq_some_iff.mp h
    refine ⟨rfl, _, _, (turnR size ps [.val (.int p), .val (.bl false)] q).1, (turnR size ps [.val (.int p), .val (.bl false)] q).2, rfl, ⟨rfl, rfl⟩, rfl, by show (turnPs ps p false).map _ = _; rw [e]; rfl, ?_⟩
    cases q with
    | none => cases e2; exact ⟨rfl, .inl ⟨rfl, rfl⟩, .inr ⟨rfl, rfl⟩, trivial⟩
    | some ps' => cases e2; exact ⟨rfl, .inl ⟨rfl, rfl⟩, .inr ⟨rfl, rfl⟩, trivial⟩
  · cases h
def G_reopen : FM
  | [.net .mut size ps, .val (.int p)] => (turnPs ps p true).map (turnR size ps [.val (.int p)])
  | _ => none
/-- reopen: 0 self 1 pipe -/
def t_reopen : VT := (seqT (nmT none 3 G_turn 0 (rV (vVar 1) (rV (vC (.bl true)) rNil))) skipT)
theorem v_reopen : ∀ ss r ss', ss.length = 2 → G_reopen ss = some (r, ss') → t_reopen (postM r ss ss') (En0 ss 2) := by
  intro ss r ss' hl h
  unfold G_reopen at h
  split at h
  · rename_i size ps p
    obtain ⟨q, e, e2⟩ := Option.map_eq_some_iff.mp h
    refine ⟨rfl, _, _, (turnR size ps [.val (.int p), .val (.bl true)] q).1, (turnR size ps [.val (.int p), .val (.bl true)] q).2, rfl, ⟨rfl, rfl⟩, rfl, by show (turnPs ps p true).map _ = _; rw [e]; rfl, ?_⟩
    cases q with
    | none => cases e2; exact ⟨rfl, .inl ⟨rfl, rfl⟩, .inr ⟨rfl, rfl⟩, trivial⟩
    | some ps' => cases e2; exact ⟨rfl, .inl ⟨rfl, rfl⟩, .inr ⟨rfl, rfl⟩, trivial⟩
  · cases h
end Z

set_option maxRecDepth 100000
namespace Z
open PySem PySem.Spec PyProof.Rows L2

/-! ### data read back -/
class Cd (α : Type) where
  enc : α → D
  dec : D → Option α
  de : ∀ x, dec (enc x) = some x
  ed : ∀ d x, dec d = some x → d = enc x
def decs {α : Type} [Cd α] : List D → Option (List α)
  | [] => some []
  | d :: ds => (Cd.dec d).bind fun x => (decs ds).bind fun xs => some (x :: xs)
theorem decs_enc {α : Type} [Cd α] : ∀ xs : List α, decs (xs.map Cd.enc) = some xs
  | [] => rfl
  | x :: xs => by
    show (Cd.dec (Cd.enc x)).bind _ = _
    rw [Cd.de]
    show (decs (xs.map Cd.enc)).bind _ = _
    rw [decs_enc xs]
    rfl
theorem decs_some {α : Type} [Cd α] : ∀ {ds : List D} {xs : List α}, decs ds = some xs → ds = xs.map Cd.enc
  | [], _, h => by cases h; rfl
  | d :: ds, _, h => by
    obtain ⟨x, e1, h⟩ := Option.bind_eq_some_iff.mp h
    obtain ⟨xs, e2, h⟩ := Option.bind_eq_some_iff.mp h
    cases h
    rw [Cd.ed _ _ e1, decs_some e2]; rfl
instance : Cd Int where
  enc := .int
  dec := toI
  de := fun _ => rfl
  ed := fun d x h => toI_some h
def unP : D → Option P3
  | .tup [.int a, .int b, .bl o] => if 0 ≤ a ∧ 0 ≤ b then some (a.toNat, b.toNat, o) else none
  | _ => none
instance : Cd P3 where
  enc := dP
  dec := unP
  de := fun x => by
    obtain ⟨a, b, o⟩ := x
    simp [dP, unP]
  ed := fun d x h => by
    unfold unP at h
    split at h
    · split at h
      · rename_i hc
        cases h
        simp only [dP]
        rw [show ((_ : Int).toNat : Int) = _ from Int.toNat_of_nonneg hc.1, show ((_ : Int).toNat : Int) = _ from Int.toNat_of_nonneg hc.2]
      · cases h
    · cases h
def unO3 : D → Option O3
  | .tup [.int a, .int b, .int c] => if 0 ≤ a ∧ 0 ≤ b ∧ 0 ≤ c then some (a.toNat, b.toNat, c.toNat) else none
  | _ => none
instance : Cd O3 where
  enc := dO3
  dec := unO3
  de := fun x => by
    obtain ⟨a, b, o⟩ := x
    simp [dO3, unO3]
  ed := fun d x h => by
    unfold unO3 at h
    split at h
    · split at h
      · rename_i hc
        cases h
        simp only [dO3]
        rw [show ((_ : Int).toNat : Int) = _ from Int.toNat_of_nonneg hc.1, show ((_ : Int).toNat : Int) = _ from Int.toNat_of_nonneg hc.2.1, show ((_ : Int).toNat : Int) = _ from Int.toNat_of_nonneg hc.2.2]
      · cases h
    · cases h
abbrev dOs (os : List O3) : List D := os.map dO3
theorem decs_dPs (ps : List P3) : decs (dPs ps) = some ps := decs_enc ps
theorem decs_dOs (ps : List O3) : decs (dOs ps) = some ps := decs_enc ps
theorem dPs_some {ds : List D} {ps : List P3} (h : decs ds = some ps) : ds = dPs ps := decs_some h
theorem dOs_some {ds : List D} {ps : List O3} (h : decs ds = some ps) : ds = dOs ps := decs_some h

/-! ### comprehensions, ranges by values -/
theorem lcGo_eq {α : Type} {enc : α → D} {step : D → Option (Option D)} {o : α → Option D} : ∀ {xs : List α}, (∀ x ∈ xs, step (enc x) = some (o x)) → lcGo step (xs.map enc) = some (xs.filterMap o)
  | [], _ => rfl
  | x :: xs, h => by
    have ih := lcGo_eq (xs := xs) fun y hy => h y (List.mem_cons_of_mem _ hy)
    show (step (enc x)).bind _ = _
    rw [h x (by simp)]
    show (lcGo step (xs.map enc)).bind _ = _
    rw [ih]
    cases e : o x with
    | none => simp [List.filterMap_cons, e]
    | some y => simp [List.filterMap_cons, e]
theorem lcS {gt : TgF} {t : VB} {e : VF} {Γ Γ1 : En} {d y : D} {b : Bool} (h1 : gt d Γ = some Γ1) (h2 : t Γ1 = some b) (h3 : b = true → e Γ1 = some y) : lcStep gt t e Γ d = some (if b = true then some y else none) := by
  unfold lcStep
  rw [h1]
  show (t Γ1).bind _ = _
  rw [h2]
  cases b with
  | true => show (e Γ1).map some = _; rw [h3 rfl]; rfl
  | false => rfl
theorem lcS1 {gt : TgF} {t : VB} {e : VF} {Γ Γ1 : En} {d y : D} (h1 : gt d Γ = some Γ1) (h2 : t Γ1 = some true) (h3 : e Γ1 = some y) : lcStep gt t e Γ d = some (some y) := lcS h1 h2 fun _ => h3
theorem vlc {α : Type} {enc : α → D} {xs : List α} {o : α → Option D} {vs : List Nat} {f : VL} {gt : TgF} {t : VB} {e : VF} {Γ : En} (h1 : f Γ = some (xs.map enc)) (hl : xs.length ≤ 1000000) (h2 : ∀ x ∈ xs, lcStep gt t e (wipeE Γ vs) (enc x) = some (o x)) :
    vLc vs f gt t e Γ = some (.own .loc (xs.filterMap o)) := by
  unfold vLc
  rw [h1]
  have hf : fewD (xs.map enc) = true := decide_eq_true (by simpa using hl)
  show (if fewD (xs.map enc) = true then (lcGo (lcStep gt t e (wipeE Γ vs)) (xs.map enc)).map (fun out => Sl.own .loc out) else none) = _
  rw [if_pos hf, lcGo_eq h2]
  rfl
theorem filterMap_some {α β : Type} (h : α → β) (xs : List α) : (xs.filterMap fun x => some (h x)) = xs.map h := by
  induction xs with
  | nil => rfl
  | cons x xs ih => simp [ih]
theorem filterMap_if {α β : Type} (p : α → Bool) (h : α → β) (xs : List α) : (xs.filterMap fun x => if p x = true then some (h x) else none) = (xs.filter p).map h := by
  induction xs with
  | nil => rfl
  | cons x xs ih =>
    rw [List.filterMap_cons, List.filter_cons]
    by_cases c : p x = true
    · rw [if_pos c, if_pos c]
      simp only [ih]
      rfl
    · rw [if_neg c, if_neg c]
      simp only [ih]
theorem vlc_map {α : Type} {enc : α → D} {xs : List α} {h : α → D} {vs : List Nat} {f : VL} {gt : TgF} {t : VB} {e : VF} {Γ : En} (h1 : f Γ = some (xs.map enc)) (hl : xs.length ≤ 1000000) (h2 : ∀ x ∈ xs, lcStep gt t e (wipeE Γ vs) (enc x) = some (some (h x))) :
    vLc vs f gt t e Γ = some (.own .loc (xs.map h)) := by rw [vlc h1 hl h2, filterMap_some]
theorem vlc_filter {α : Type} {enc : α → D} {xs : List α} {p : α → Bool} {h : α → D} {vs : List Nat} {f : VL} {gt : TgF} {t : VB} {e : VF} {Γ : En} (h1 : f Γ = some (xs.map enc)) (hl : xs.length ≤ 1000000) (h2 : ∀ x ∈ xs, lcStep gt t e (wipeE Γ vs) (enc x) = some (if p x = true then some (h x) else none)) :
    vLc vs f gt t e Γ = some (.own .loc ((xs.filter p).map h)) := by rw [vlc h1 hl h2, filterMap_if]
theorem inR_of {i : Int} (h : -1000000 ≤ i ∧ i ≤ 1000000) : inR i = true := by
  unfold inR
  have e : (2 : Int) ^ 62 = 4611686018427387904 := by decide +kernel
  rw [e]
  exact decide_eq_true ⟨by omega, by omega⟩
def dInt (n : Nat) : D := .int (n : Int)
theorem rng1e {f : VF} {Γ : En} {i : Int} (h : f Γ = some (.int i)) (hn : -1000000 ≤ i ∧ i ≤ 1000000) : lRng1 f Γ = some ((List.range i.toNat).map dInt) := by
  unfold lRng1
  rw [h, Option.bind_some, show toI (.int i) = some i from rfl, Option.bind_some, if_pos (inR_of hn)]
  unfold dRng
  rw [Int.sub_zero]
  congr 1
  apply List.map_congr_left
  intro k _
  show D.int (0 + (k : Int)) = .int (k : Int)
  rw [Int.zero_add]
theorem rng2e {f h : VF} {Γ : En} {i j : Nat} (h1 : f Γ = some (.int i)) (h2 : h Γ = some (.int j)) (hi : i ≤ 1000000) (hj : j ≤ 1000000) : lRng2 f h Γ = some ((List.range' i (j - i)).map dInt) := by
  unfold lRng2
  rw [h1, Option.bind_some, show toI (.int (i : Int)) = some (i : Int) from rfl, Option.bind_some, h2, Option.bind_some, show toI (.int (j : Int)) = some (j : Int) from rfl, Option.bind_some, if_pos (by rw [inR_of (by omega), inR_of (by omega)]; rfl)]
  unfold dRng
  rw [show ((j : Int) - i).toNat = j - i by omega, List.range'_eq_map_range, List.map_map]
  refine congrArg some (List.map_congr_left fun k _ => ?_)
  show D.int ((i : Int) + (k : Int)) = .int ((i + k : Nat) : Int)
  rw [Int.natCast_add]

/-! ### the law's drawn things -/
def cellAt (ns : List Int) (k : Nat) : Int := (ns[k]?).getD 0
def F_law_cell_at : FN
  | [.val (.scr ns), .val (.int k)] => if 0 ≤ k then some (.inl (.val (.int (cellAt ns k.toNat)))) else none
  | _ => none
theorem F_cell {ns : List Int} {k : Nat} : F_law_cell_at [.val (.scr ns), .val (.int (k : Int))] = some (.inl (.val (.int (cellAt ns k)))) := by
  exact ite_some (Int.natCast_nonneg k)
/-- _law_cell_at: 0 script 1 k -/
def t_law_cell_at : VT := (seqT (ifT (bV (v2 fLt (vVar 1) (v1 fLen (vVar 0)))) (seqT (retV (v2 fIx (vVar 0) (vVar 1))) skipT) skipT) (seqT (retV (vC (.int 0))) skipT))
theorem v_law_cell_at : ∀ ss r, ss.length = 2 → F_law_cell_at ss = some r → t_law_cell_at (postP r) (En0 ss 2) ∧ ∃ s, r = .inl s := by
  intro ss r hl h
  unfold F_law_cell_at at h
  split at h
  · rename_i ns k
    split at h
    · rename_i hk
      have h := Option.some.inj h
      subst h
      refine ⟨?_, _, rfl⟩
      obtain ⟨k, rfl⟩ := Int.eq_ofNat_of_zero_le hk
      simp only [Int.toNat_natCast]
      refine if_d (p := (k : Int) < (ns.length : Int)) rfl (fun c => ?_) (fun c => ?_)
      · have e : ns[k]? = some (ns[k]'(by omega)) := by simp
        refine ⟨.int (ns[k]'(by omega)), v2e rfl rfl ?_, ?_⟩
        · show (atI ns (k : Int)).map D.int = _
          rw [atI_nat e]
          rfl
        · show (Sum.inl (Sl.val (D.int (cellAt ns k))) : Rs) = _
          unfold cellAt
          rw [e]
          rfl
      · refine ⟨_, rfl, ?_⟩
        show (Sum.inl (Sl.val (D.int (cellAt ns k))) : Rs) = _
        unfold cellAt
        rw [List.getElem?_eq_none_iff.mpr (by omega)]
        rfl
    · cases h
  · cases h
def F_law_whole : FN
  | [.val (.int _)] => some (.inl (.val (.bl true)))
  | _ => none
/-- _law_whole: 0 found -/
def t_law_whole : VT := (seqT (retV (vAnd (v1 (fIsi "int") (vVar 0)) (v1 notD (v1 (fIsi "bool") (vVar 0))))) skipT)
theorem v_law_whole : ∀ ss r, ss.length = 1 → F_law_whole ss = some r → t_law_whole (postP r) (En0 ss 1) ∧ ∃ s, r = .inl s := by
  intro ss r hl h
  unfold F_law_whole at h
  split at h
  · rename_i n
    cases h
    refine ⟨⟨.bl true, ?_, rfl⟩, _, rfl⟩
    exact vAnd_t (v1e rfl isi_int_int) (v1e (v1e rfl isi_int_bool) rfl)
  · cases h
def pipeBy (c : Int) (s : Nat) : P3 := ((c % s).toNat, ((c % s + 1 + c / s % ((s : Int) - 1)) % s).toNat, decide (c / 11 % 8 ≠ 1))
def F_law_pipe_by : FN
  | [.val (.int c), .val (.int s)] => if 2 ≤ s ∧ s ≤ 1000 then some (.inl (.val (dP (pipeBy c s.toNat)))) else none
  | _ => none
theorem F_pipeBy {c : Int} {s : Nat} (h : 2 ≤ s ∧ s ≤ 1000) : F_law_pipe_by [.val (.int c), .val (.int (s : Int))] = some (.inl (.val (dP (pipeBy c s)))) := by
  exact ite_some (show 2 ≤ (s : Int) ∧ (s : Int) ≤ 1000 by omega)
/-- _law_pipe_by: 0 cell 1 size 2 start 3 goal -/
def t_law_pipe_by : VT := (seqT (asgV 2 (v2 fMod (vVar 0) (vVar 1))) (seqT (asgV 3 (v2 fMod (v2 fAdd (v2 fAdd (vVar 2) (vC (.int 1))) (v2 fMod (v2 fDiv (vVar 0) (vVar 1)) (v2 fSub (vVar 1) (vC (.int 1))))) (vVar 1))) (seqT (retV (vTup (aCons (vVar 2) (aCons (vVar 3) (aCons (v2 fNe (v2 fMod (v2 fDiv (vVar 0) (vC (.int 11))) (vC (.int 8))) (vC (.int 1))) aNil))))) skipT)))
theorem fMod_pos {i j : Int} (h : 0 < j) : fMod (.int i) (.int j) = some (.int (i % j)) := by
  show (if decide (0 < j) = true then some (D.int (i % j)) else none) = _
  rw [if_pos (decide_eq_true h)]
theorem fDiv_pos {i j : Int} (h : 0 < j) (h2 : j < 1073741824) : fDiv (.int i) (.int j) = some (.int (i / j)) := by
  show (if decide (0 < j ∧ j < 1073741824) = true then some (D.int (i / j)) else none) = _
  rw [if_pos (decide_eq_true ⟨h, h2⟩)]
theorem v_law_pipe_by : ∀ ss r, ss.length = 2 → F_law_pipe_by ss = some r → t_law_pipe_by (postP r) (En0 ss 4) ∧ ∃ s, r = .inl s := by
  intro ss r hl h
  unfold F_law_pipe_by at h
  split at h
  · rename_i c s
    split at h
    · rename_i hs
      have h := Option.some.inj h
      subst h
      refine ⟨?_, _, rfl⟩
      have e1 : fMod (.int c) (.int s) = _ := fMod_pos (by omega)
      have e2 : fDiv (.int c) (.int s) = _ := fDiv_pos (by omega) (by omega)
      have e3 : fMod (.int (c / s)) (.int (s - 1)) = _ := fMod_pos (by omega)
      have e4 : fMod (.int (c % s + 1 + c / s % (s - 1))) (.int s) = _ := fMod_pos (by omega)
      refine ⟨_, v2e rfl rfl e1, ?_⟩
      refine ⟨_, v2e (v2e (y := .int (c / s % (s - 1))) rfl (v2e (v2e rfl rfl e2) (y := .int (s - 1)) rfl e3) rfl) rfl e4, ?_⟩
      refine ⟨_, rfl, ?_⟩
      have h1 : 0 ≤ c % s := Int.emod_nonneg _ (by omega)
      have h2 : 0 ≤ (c % s + 1 + c / s % (s - 1)) % s := Int.emod_nonneg _ (by omega)
      show (Sum.inl (Sl.val (dP (pipeBy c s.toNat))) : Rs) = Sum.inl (Sl.val (D.tup [.int (c % s), .int ((c % s + 1 + c / s % (s - 1)) % s), .bl (!decide (c / 11 % 8 = 1))]))
      unfold dP pipeBy
      simp only [show ((s.toNat : Nat) : Int) = s by omega, Int.toNat_of_nonneg h1, Int.toNat_of_nonneg h2]
      congr 6
      simp
    · cases h
  · cases h
/-- a pipe between two places -/
def okP (size : Nat) (p : P3) : Prop := p.1 < size ∧ p.2.1 < size ∧ p.1 ≠ p.2.1
theorem pipeBy_ok {c : Int} {s : Nat} (h : 2 ≤ s) : okP s (pipeBy c s) := by
  unfold okP pipeBy
  have hs : (0 : Int) < s := by omega
  have h1 : 0 ≤ c % s := Int.emod_nonneg _ (by omega)
  have h2 : c % s < s := Int.emod_lt_of_pos _ hs
  have h3 : 0 ≤ c / s % ((s : Int) - 1) := Int.emod_nonneg _ (by omega)
  have h4 : c / s % ((s : Int) - 1) < (s : Int) - 1 := Int.emod_lt_of_pos _ (by omega)
  generalize hx : c % s = x at *
  generalize hy : c / s % ((s : Int) - 1) = y at *
  have h5 : 0 ≤ (x + 1 + y) % s := Int.emod_nonneg _ (by omega)
  have h6 : (x + 1 + y) % s < s := Int.emod_lt_of_pos _ hs
  refine ⟨by simp only; omega, by simp only; omega, ?_⟩
  simp only
  intro e
  have e' : (x + 1 + y) % s = x := by omega
  by_cases c1 : x + 1 + y < s
  · rw [Int.emod_eq_of_lt (by omega) c1] at e'
    omega
  · have : (x + 1 + y) % s = x + 1 + y - s := by
      rw [← Int.sub_emod_right, Int.emod_eq_of_lt (by omega) (by omega)]
    omega
def pipesBy (ns : List Int) (first many size : Nat) : List P3 := if size < 2 then [] else (List.range many).map fun k => pipeBy (cellAt ns (first + k)) size
theorem pipesBy_ok {ns : List Int} {first many size : Nat} : ∀ p ∈ pipesBy ns first many size, okP size p := by
  intro p hp
  unfold pipesBy at hp
  split at hp
  · cases hp
  · obtain ⟨k, _, rfl⟩ := List.mem_map.mp hp
    exact pipeBy_ok (by omega)
theorem pipesBy_len {ns : List Int} {first many size : Nat} : (pipesBy ns first many size).length ≤ many := by
  unfold pipesBy
  split
  · simp
  · simp
def F_law_pipes_by : FN
  | [.val (.scr ns), .val (.int f), .val (.int m), .val (.int s)] => if 0 ≤ f ∧ 0 ≤ m ∧ m ≤ 1000 ∧ 0 ≤ s ∧ s ≤ 1000 then some (.inl (.own .loc (dPs (pipesBy ns f.toNat m.toNat s.toNat)))) else none
  | _ => none
theorem F_pipesBy {ns : List Int} {f m s : Nat} (hm : m ≤ 1000) (hs : s ≤ 1000) : F_law_pipes_by [.val (.scr ns), .val (.int (f : Int)), .val (.int (m : Int)), .val (.int (s : Int))] = some (.inl (.own .loc (dPs (pipesBy ns f m s)))) := by
  exact ite_some (show 0 ≤ (f : Int) ∧ 0 ≤ (m : Int) ∧ (m : Int) ≤ 1000 ∧ 0 ≤ (s : Int) ∧ (s : Int) ≤ 1000 by omega)
/-- _law_pipes_by: 0 script 1 first 2 many 3 size 4 k -/
def t_law_pipes_by : VT := (seqT (ifT (bV (v2 fLt (vVar 3) (vC (.int 2)))) (seqT (retO (oLst aNil)) skipT) skipT) (seqT (retO (vLc [4] (lRng1 (vVar 2)) (gN 4) bT (v1 slD (v1 inlO (xCall 2 F_law_pipe_by (rV (v1 slD (v1 inlO (xCall 2 F_law_cell_at (rV (vVar 0) (rV (v2 fAdd (vVar 1) (vVar 4)) rNil))))) (rV (vVar 3) rNil))))))) skipT))
theorem v_law_pipes_by : ∀ ss r, ss.length = 4 → F_law_pipes_by ss = some r → t_law_pipes_by (postP r) (En0 ss 5) ∧ ∃ s, r = .inl s := by
  intro ss r hl h
  unfold F_law_pipes_by at h
  split at h
  · rename_i ns f m s
    split at h
    · rename_i hs
      have h := Option.some.inj h
      subst h
      refine ⟨?_, _, rfl⟩
      obtain ⟨f, rfl⟩ := Int.eq_ofNat_of_zero_le hs.1
      obtain ⟨m, rfl⟩ := Int.eq_ofNat_of_zero_le hs.2.1
      obtain ⟨s, rfl⟩ := Int.eq_ofNat_of_zero_le hs.2.2.2.1
      simp only [Int.toNat_natCast]
      refine if_d (p := (s : Int) < 2) rfl (fun c => ?_) (fun c => ?_)
      · refine ⟨_, rfl, ?_⟩
        show (Sum.inl (Sl.own .loc (dPs (pipesBy ns f m s))) : Rs) = _
        unfold pipesBy
        rw [if_pos (by omega)]
        rfl
      · refine ⟨_, vlc_map (h := fun k => dP (pipeBy (cellAt ns (f + k)) s)) (rng1e (i := (m : Int)) rfl (by omega)) (by simp; omega) (fun k hk => ?_), ?_⟩
        · refine lcS1 rfl rfl ?_
          refine v1e (v1e (xc (rVe (v1e (v1e (xc rfl ⟨rfl, rfl⟩ rfl (F_cell (k := f + k))) rfl) rfl) rfl) ⟨rfl, rfl⟩ rfl (F_pipeBy (by omega))) rfl) rfl
        · show (Sum.inl (Sl.own .loc (dPs (pipesBy ns f m s))) : Rs) = _
          unfold pipesBy
          rw [if_neg (by omega)]
          unfold dPs
          rw [List.map_map]
          rfl
    · cases h
  · cases h
end Z

set_option maxRecDepth 100000
namespace Z
open PySem PySem.Spec PyProof.Rows L2

def roD : Sl → Option (List D)
  | .val (.lst ds) => some ds
  | .own .ro ds => some ds
  | _ => none
def okPs (size : Nat) (ps : List P3) : Bool := ps.all fun p => decide (p.1 < size ∧ p.2.1 < size ∧ p.1 ≠ p.2.1)
theorem okPs_iff {size : Nat} {ps : List P3} : okPs size ps = true ↔ ∀ p ∈ ps, okP size p := by
  unfold okPs okP
  simp
/-- a net that may be: so many places, so many pipes -/
def okNet (size : Nat) (ps : List P3) : Prop := 1 ≤ size ∧ size ≤ 12 ∧ okPs size ps = true ∧ ps.length ≤ 60
instance (size : Nat) (ps : List P3) : Decidable (okNet size ps) := by unfold okNet; infer_instance
def F_law_net_by : FN
  | [.val (.int s), x] => (roD x).bind fun ds => (decs ds : Option (List P3)).bind fun ps => if 0 ≤ s ∧ okNet s.toNat ps then some (.inl (.net .loc s (dPs ps))) else none
  | _ => none
theorem F_netBy {s : Nat} {ps : List P3} {x : Sl} (hx : roD x = some (dPs ps)) (h : okNet s ps) : F_law_net_by [.val (.int (s : Int)), x] = some (.inl (.net .loc (s : Int) (dPs ps))) := by
  show (roD x).bind _ = _
  rw [hx, Option.bind_some, decs_dPs, Option.bind_some]
  exact ite_some ⟨Int.natCast_nonneg s, h⟩
/-- _law_net_by: 0 size 1 pipes 2 net 3 start 4 goal 5 opened 6 number -/
def t_law_net_by : VT := (seqT (asgO 2 (v1 inlO (newF (vVar 0)))) (seqT (forT (roL 1) (gT [3, 4, 5]) (seqT (nmT (some 6) 3 G_lay 2 (rV (vVar 3) (rV (vVar 4) rNil))) (seqT (ifT (bNot (bV (vVar 5))) (seqT (nmT none 2 G_shut 2 (rV (vVar 6) rNil)) skipT) skipT) skipT))) (seqT (retS 2) skipT)))
theorem lay_ok {size : Nat} {done : List P3} {a b : Nat} (h1 : a < size) (h2 : b < size) (h3 : a ≠ b) (h4 : done.length < 60) : G_lay [.net .mut (size : Int) (dPs done), .val (.int (a : Int)), .val (.int (b : Int))] =
    some (.inl (.val (.int (done.length : Int))), [.net .mut (size : Int) (dPs (done ++ [(a, b, true)])), .val (.int (a : Int)), .val (.int (b : Int))]) := by
  have e : layPs (size : Int) (dPs done) a b = .inr (dPs (done ++ [(a, b, true)])) := by
    unfold layPs
    rw [if_neg (by omega), if_neg (by omega), if_neg (by omega), if_neg (by simp [dPs]; omega)]
    simp [dPs, dP]
  unfold G_lay
  simp only [e]
  simp [dPs]
theorem turnPs_ok {ps : List P3} {k : Nat} {p : P3} {o : Bool} (h : ps[k]? = some p) : turnPs (dPs ps) (k : Int) o = some (some (dPs (ps.set k (p.1, p.2.1, o)))) := by
  have hk : k < ps.length := (List.getElem?_eq_some_iff.mp h).1
  unfold turnPs
  rw [if_neg (by simp [dPs]; omega)]
  rw [Int.toNat_natCast]
  have e : (dPs ps)[k]? = some (.tup [.int (p.1 : Int), .int (p.2.1 : Int), .bl p.2.2]) := by
    unfold dPs
    rw [List.getElem?_map, h]
    rfl
  rw [e]
  show some (some ((dPs ps).set k _)) = _
  unfold dPs
  rw [List.map_set]
  rfl
theorem roL_of {x : Sl} {ds : List D} (h : roD x = some ds) (a : Option Sl) (Γ : En) : roL 1 (a :: some x :: Γ) = some ds := by
  unfold roD at h
  split at h
  · cases h; rfl
  · cases h; rfl
  · cases h
theorem roS_of {x : Sl} {ds : List D} (h : roD x = some ds) : roS x = x := by
  unfold roD at h
  split at h
  · rfl
  · rfl
  · cases h
theorem v_law_net_by : ∀ ss r, ss.length = 2 → F_law_net_by ss = some r → t_law_net_by (postP r) (En0 ss 7) ∧ ∃ s, r = .inl s := by
  intro ss r hl h
  unfold F_law_net_by at h
  split at h
  · rename_i s x
    obtain ⟨ds, e1, h'⟩ := Option.bind_eq_some_iff.mp h
    obtain ⟨ps, e2, h''⟩ := Option.bind_eq_some_iff.mp h'
    split at h''
    · rename_i hs
      have h := Option.some.inj h''
      subst h
      cases dPs_some e2
      refine ⟨?_, _, rfl⟩
      obtain ⟨s, rfl⟩ := Int.eq_ofNat_of_zero_le hs.1
      obtain ⟨_, h1, h2, h3, h4⟩ := hs
      simp only [Int.toNat_natCast] at h1 h2 h3
      have h3 := okPs_iff.mp h3
      refine ⟨.net .loc (s : Int) [], v1e (x := .inl (.net .loc (s : Int) [])) ?_ rfl, ?_⟩
      · show some (if 1 ≤ (s : Int) ∧ (s : Int) ≤ 12 then _ else _) = _
        rw [if_pos (by omega)]
      refine ⟨dPs ps, roL_of e1 _ _, ?_⟩
      refine loopT_inv (fun rest Γ => ∃ done v3 v4 v5 v6, ps = done ++ rest ∧ Γ = [some (.val (.int (s : Int))), some x, some (.net .loc (s : Int) (dPs done)), v3, v4, v5, v6]) ?_ ?_ ps _ ⟨[], none, none, none, none, rfl, rfl⟩
      · rintro ⟨a, b, o⟩ xs Γ k ⟨done, v3, v4, v5, v6, e, rfl⟩ hk
        have ok := h3 (a, b, o) (by rw [e]; simp)
        have hlen : done.length < 60 := by
          have := congrArg List.length e
          simp at this
          omega
        refine ⟨_, rfl, ?_⟩
        refine ⟨rfl, _, _, _, _, rfl, ⟨rfl, rfl⟩, rfl, lay_ok ok.1 ok.2.1 ok.2.2 hlen, ?_⟩
        refine if_d (p := ¬ o = true) ?_ (fun c => ?_) (fun c => ?_)
        · exact bNot_d (p := o = true) (by show some o = _; simp)
        · have hsh : G_shut [.net .mut (s : Int) (dPs (done ++ [(a, b, true)])), .val (.int (done.length : Int))] = some (.inl (.val .non), [.net .mut (s : Int) (dPs (done ++ [(a, b, false)])), .val (.int (done.length : Int))]) := by
            unfold G_shut
            simp only
            rw [turnPs_ok (p := (a, b, true)) (by simp)]
            show some (Sum.inl (Sl.val D.non), _) = _
            congr 5
            simp
          refine ⟨rfl, _, _, _, _, rfl, ⟨rfl, rfl⟩, rfl, hsh, ?_⟩
          have : o = false := by simpa using c
          subst this
          exact hk _ ⟨done ++ [(a, b, false)], _, _, _, _, by rw [e]; simp, rfl⟩
        · have : o = true := by simpa using c
          subst this
          exact hk _ ⟨done ++ [(a, b, true)], _, _, _, _, by rw [e]; simp, rfl⟩
      · rintro Γ ⟨done, v3, v4, v5, v6, e, rfl⟩
        rw [List.append_nil] at e
        subst e
        exact ⟨_, rfl, rfl, rfl⟩
    · cases h''
  · cases h

/-! ### sizes -/
def sizeOf (ns : List Int) (small : Nat) : Nat := if cellAt ns 0 / 16 % 8 = 1 then 12 else (1 + cellAt ns 0 % small).toNat
def F_law_size_of : FN
  | [.val (.scr ns), .val (.int k)] => if 0 < k then some (.inl (.val (.int (sizeOf ns k.toNat : Nat)))) else none
  | _ => none
theorem F_sizeOf {ns : List Int} {k : Nat} (h : 0 < k) : F_law_size_of [.val (.scr ns), .val (.int (k : Int))] = some (.inl (.val (.int (sizeOf ns k : Nat)))) := ite_some (show 0 < (k : Int) by omega)
/-- _law_size_of: 0 script 1 small 2 head -/
def t_law_size_of : VT := (seqT (asgV 2 (v1 slD (v1 inlO (xCall 2 F_law_cell_at (rV (vVar 0) (rV (vC (.int 0)) rNil)))))) (seqT (ifT (bV (v2 fEq (v2 fMod (v2 fDiv (vVar 2) (vC (.int 16))) (vC (.int 8))) (vC (.int 1)))) (seqT (retV (vC (.int 12))) skipT) skipT) (seqT (retV (v2 fAdd (vC (.int 1)) (v2 fMod (vVar 2) (vVar 1)))) skipT)))
theorem v_law_size_of : ∀ ss r, ss.length = 2 → F_law_size_of ss = some r → t_law_size_of (postP r) (En0 ss 3) ∧ ∃ s, r = .inl s := by
  intro ss r hl h
  unfold F_law_size_of at h
  split at h
  · rename_i ns k
    split at h
    · rename_i hk
      have h := Option.some.inj h
      subst h
      refine ⟨?_, _, rfl⟩
      refine ⟨.int (cellAt ns 0), v1e (v1e (xc rfl ⟨rfl, rfl⟩ rfl (F_cell (k := 0))) rfl) rfl, ?_⟩
      refine if_d (p := cellAt ns 0 / 16 % 8 = 1) rfl (fun c => ?_) (fun c => ?_)
      · refine ⟨_, rfl, ?_⟩
        show (Sum.inl (Sl.val (.int (sizeOf ns k.toNat : Nat))) : Rs) = _
        unfold sizeOf
        rw [if_pos c]
        rfl
      · refine ⟨_, v2e rfl (v2e rfl rfl (fMod_pos hk)) rfl, ?_⟩
        show (Sum.inl (Sl.val (.int (sizeOf ns k.toNat : Nat))) : Rs) = _
        unfold sizeOf
        rw [if_neg c]
        have : 0 ≤ cellAt ns 0 % k := Int.emod_nonneg _ (by omega)
        rw [show ((k.toNat : Nat) : Int) = k by omega, Int.toNat_of_nonneg (by omega)]
    · cases h
  · cases h
def manyOf (ns : List Int) (small : Nat) : Nat := if cellAt ns 1 / 32 % 4 = 1 then min (ns.length - 6) 55 else (cellAt ns 1 % (small + 1)).toNat
def F_law_many_of : FN
  | [.val (.scr ns), .val (.int k)] => if 0 ≤ k then some (.inl (.val (.int (manyOf ns k.toNat : Nat)))) else none
  | _ => none
theorem F_manyOf {ns : List Int} {k : Nat} : F_law_many_of [.val (.scr ns), .val (.int (k : Int))] = some (.inl (.val (.int (manyOf ns k : Nat)))) := ite_some (show 0 ≤ (k : Int) by omega)
/-- _law_many_of: 0 script 1 small 2 head -/
def t_law_many_of : VT := (seqT (asgV 2 (v1 slD (v1 inlO (xCall 2 F_law_cell_at (rV (vVar 0) (rV (vC (.int 1)) rNil)))))) (seqT (ifT (bV (v2 fEq (v2 fMod (v2 fDiv (vVar 2) (vC (.int 32))) (vC (.int 4))) (vC (.int 1)))) (seqT (retV (v2 fMin (v2 fMax (vC (.int 0)) (v2 fSub (v1 fLen (vVar 0)) (vC (.int 6)))) (vC (.int 55)))) skipT) skipT) (seqT (retV (v2 fMod (vVar 2) (v2 fAdd (vVar 1) (vC (.int 1))))) skipT)))
theorem v_law_many_of : ∀ ss r, ss.length = 2 → F_law_many_of ss = some r → t_law_many_of (postP r) (En0 ss 3) ∧ ∃ s, r = .inl s := by
  intro ss r hl h
  unfold F_law_many_of at h
  split at h
  · rename_i ns k
    split at h
    · rename_i hk
      have h := Option.some.inj h
      subst h
      refine ⟨?_, _, rfl⟩
      refine ⟨.int (cellAt ns 1), v1e (v1e (xc rfl ⟨rfl, rfl⟩ rfl (F_cell (k := 1))) rfl) rfl, ?_⟩
      refine if_d (p := cellAt ns 1 / 32 % 4 = 1) rfl (fun c => ?_) (fun c => ?_)
      · refine ⟨_, rfl, ?_⟩
        show (Sum.inl (Sl.val (.int (manyOf ns k.toNat : Nat))) : Rs) = Sum.inl (Sl.val (D.int (if (55 : Int) < (if (ns.length : Int) - 6 > 0 then (ns.length : Int) - 6 else 0) then 55 else (if (ns.length : Int) - 6 > 0 then (ns.length : Int) - 6 else 0))))
        unfold manyOf
        rw [if_pos c]
        congr 3
        split <;> split <;> omega
      · refine ⟨_, v2e rfl rfl (fMod_pos (by omega)), ?_⟩
        show (Sum.inl (Sl.val (.int (manyOf ns k.toNat : Nat))) : Rs) = _
        unfold manyOf
        rw [if_neg c]
        have : 0 ≤ cellAt ns 1 % (k + 1) := Int.emod_nonneg _ (by omega)
        rw [show ((k.toNat : Nat) : Int) = k by omega, Int.toNat_of_nonneg (by omega)]
    · cases h
  · cases h
theorem sizeOf_le {ns : List Int} {k : Nat} (h : 0 < k) (h2 : k ≤ 12) : 1 ≤ sizeOf ns k ∧ sizeOf ns k ≤ 12 := by
  unfold sizeOf
  split
  · omega
  · have h1 : 0 ≤ cellAt ns 0 % k := Int.emod_nonneg _ (by omega)
    have h3 : cellAt ns 0 % k < k := Int.emod_lt_of_pos _ (by omega)
    omega
theorem manyOf_le {ns : List Int} {k : Nat} (h2 : k ≤ 55) : manyOf ns k ≤ 55 := by
  unfold manyOf
  split
  · omega
  · have h1 : 0 ≤ cellAt ns 1 % (k + 1) := Int.emod_nonneg _ (by omega)
    have h3 : cellAt ns 1 % (k + 1) < k + 1 := Int.emod_lt_of_pos _ (by omega)
    omega
end Z

set_option maxRecDepth 100000
namespace Z
open PySem PySem.Spec PyProof.Rows L2

/-! ### what water comes to: plain mathematics -/
inductive Rch (es : List (Nat × Nat)) : Nat → Prop
  | zero : Rch es 0
  | step {s g : Nat} : Rch es s → (s, g) ∈ es → Rch es g
theorem Rch.mono {es fs : List (Nat × Nat)} (h : ∀ e ∈ es, e ∈ fs) {v : Nat} (r : Rch es v) : Rch fs v := by
  induction r with
  | zero => exact .zero
  | step _ he ih => exact .step ih (h _ he)
/-- a closed set holds all that is reached -/
theorem Rch.closed {es : List (Nat × Nat)} {P : Nat → Prop} (h0 : P 0) (hs : ∀ s g, P s → (s, g) ∈ es → P g) {v : Nat} (r : Rch es v) : P v := by
  induction r with
  | zero => exact h0
  | step _ he ih => exact hs _ _ ih he

/-! ### the law's own walk -/
def lwStep (here : List Nat) (e : Nat × Nat) : List Nat := if e.1 ∈ here ∧ e.2 ∉ here then here ++ [e.2] else here
def lwPass (es : List (Nat × Nat)) (here : List Nat) : List Nat := es.foldl lwStep here
def lwIter (es : List (Nat × Nat)) : Nat → List Nat → List Nat
  | 0, here => here
  | n + 1, here => lwIter es n (lwPass es here)
theorem lwStep_sub {here : List Nat} {e : Nat × Nat} {v : Nat} (h : v ∈ here) : v ∈ lwStep here e := by
  unfold lwStep
  split
  · exact List.mem_append_left _ h
  · exact h
theorem lwPass_sub {es : List (Nat × Nat)} : ∀ {here : List Nat} {v : Nat}, v ∈ here → v ∈ lwPass es here := by
  induction es with
  | nil => exact fun h => h
  | cons e es ih => exact fun h => ih (lwStep_sub h)
theorem lwIter_sub {es : List (Nat × Nat)} : ∀ {n : Nat} {here : List Nat} {v : Nat}, v ∈ here → v ∈ lwIter es n here
  | 0, _, _, h => h
  | n + 1, _, _, h => lwIter_sub (n := n) (lwPass_sub h)
/-- what holds of a walk's state -/
structure LwOk (all : List (Nat × Nat)) (size : Nat) (here : List Nat) : Prop where
  nd : here.Nodup
  lt : ∀ v ∈ here, v < size
  rch : ∀ v ∈ here, Rch all v
theorem lwStep_ok {all : List (Nat × Nat)} {size : Nat} {here : List Nat} {e : Nat × Nat} (h : LwOk all size here) (he : e ∈ all) (hlt : e.2 < size) : LwOk all size (lwStep here e) := by
  unfold lwStep
  split
  · rename_i c
    refine ⟨?_, fun v hv => ?_, fun v hv => ?_⟩
    · rw [List.nodup_append]
      exact ⟨h.nd, by simp, fun a ha b hb => by
        simp at hb
        subst hb
        intro z
        subst z
        exact c.2 ha⟩
    · rcases List.mem_append.mp hv with q | q
      · exact h.lt v q
      · simp at q; subst q; exact hlt
    · rcases List.mem_append.mp hv with q | q
      · exact h.rch v q
      · simp at q; subst q; exact .step (h.rch _ c.1) he
  · exact h
theorem lwPass_ok {all : List (Nat × Nat)} {size : Nat} : ∀ {es : List (Nat × Nat)} {here : List Nat}, (∀ e ∈ es, e ∈ all ∧ e.2 < size) → LwOk all size here → LwOk all size (lwPass es here)
  | [], _, _, h => h
  | e :: es, _, he, h => lwPass_ok (es := es) (fun x hx => he x (List.mem_cons_of_mem _ hx)) (lwStep_ok h (he e (by simp)).1 (he e (by simp)).2)
theorem lwIter_ok {all : List (Nat × Nat)} {size : Nat} (he : ∀ e ∈ all, e.2 < size) : ∀ {n : Nat} {here : List Nat}, LwOk all size here → LwOk all size (lwIter all n here)
  | 0, _, h => h
  | n + 1, _, h => lwIter_ok he (n := n) (lwPass_ok (fun e q => ⟨q, he e q⟩) h)
theorem lwStep_len {here : List Nat} {e : Nat × Nat} : here.length ≤ (lwStep here e).length := by
  unfold lwStep
  split
  · simp
  · exact Nat.le_refl _
theorem lwPass_len : ∀ {es : List (Nat × Nat)} {here : List Nat}, here.length ≤ (lwPass es here).length
  | [], _ => Nat.le_refl _
  | e :: es, _ => Nat.le_trans lwStep_len (lwPass_len (es := es))
/-- no more came: it is closed -/
theorem lwPass_fix : ∀ {es : List (Nat × Nat)} {here : List Nat}, (lwPass es here).length = here.length → (lwPass es here = here ∧ ∀ s g, (s, g) ∈ es → s ∈ here → g ∈ here)
  | [], _, _ => ⟨rfl, fun _ _ h => by cases h⟩
  | e :: es, here, h => by
    have h1 : (lwStep here e).length = here.length := by
      have := lwPass_len (es := es) (here := lwStep here e)
      have h2 := lwStep_len (here := here) (e := e)
      have h3 : (lwPass es (lwStep here e)).length = here.length := h
      omega
    have nc : ¬ (e.1 ∈ here ∧ e.2 ∉ here) := fun c => by
      unfold lwStep at h1
      rw [if_pos c] at h1
      simp at h1
    have es1 : lwStep here e = here := by unfold lwStep; rw [if_neg nc]
    have h' : (lwPass es here).length = here.length := by
      have h3 : (lwPass es (lwStep here e)).length = here.length := h
      rw [es1] at h3
      exact h3
    obtain ⟨q1, q2⟩ := lwPass_fix h'
    refine ⟨?_, fun s g hm hs => ?_⟩
    · show lwPass es (lwStep here e) = here
      rw [es1, q1]
    · rcases List.mem_cons.mp hm with z | z
      · subst z
        exact Decidable.byContradiction fun c => nc ⟨hs, c⟩
      · exact q2 s g z hs
theorem lwIter_fix {es : List (Nat × Nat)} {here : List Nat} (h : lwPass es here = here) : ∀ n, lwIter es n here = here
  | 0 => rfl
  | n + 1 => by show lwIter es n (lwPass es here) = here; rw [h]; exact lwIter_fix h n
theorem nodup_lt_len {size : Nat} {xs : List Nat} (nd : xs.Nodup) (h : ∀ v ∈ xs, v < size) : xs.length ≤ size := by
  have : xs.length ≤ (List.range size).length := nd.length_le_of_subset fun v hv => List.mem_range.mpr (h v hv)
  simpa using this
theorem lwIter_closed {es : List (Nat × Nat)} {size : Nat} (he : ∀ e ∈ es, e.2 < size) : ∀ {n : Nat} {here : List Nat}, LwOk es size here → size + 1 ≤ here.length + n → ∀ s g, (s, g) ∈ es → s ∈ lwIter es n here → g ∈ lwIter es n here
  | 0, here, h, hl => by
    have := nodup_lt_len h.nd h.lt
    omega
  | n + 1, here, h, hl => by
    by_cases c : (lwPass es here).length = here.length
    · obtain ⟨q1, q2⟩ := lwPass_fix c
      intro s g hm hs
      show g ∈ lwIter es n (lwPass es here)
      have hs : s ∈ lwIter es n (lwPass es here) := hs
      rw [q1, lwIter_fix q1] at hs ⊢
      exact q2 s g hm hs
    · have := lwPass_len (es := es) (here := here)
      exact lwIter_closed he (n := n) (lwPass_ok (fun e q => ⟨q, he e q⟩) h) (by omega)
/-- the law's walk finds what is reached -/
theorem lw_iff {es : List (Nat × Nat)} {size : Nat} (h0 : 0 < size) (he : ∀ e ∈ es, e.2 < size) {v : Nat} : v ∈ lwIter es size [0] ↔ Rch es v := by
  have ok : LwOk es size [0] := ⟨by simp, by simpa using h0, fun v hv => by simp at hv; subst hv; exact .zero⟩
  refine ⟨fun h => (lwIter_ok he ok).rch v h, fun r => ?_⟩
  exact r.closed (P := fun v => v ∈ lwIter es size [0]) (lwIter_sub (by simp)) fun s g hs hm => lwIter_closed he ok (by simp; omega) s g hm hs
theorem lw_nodup {es : List (Nat × Nat)} {size : Nat} (h0 : 0 < size) (he : ∀ e ∈ es, e.2 < size) : (lwIter es size [0]).Nodup ∧ ∀ v ∈ lwIter es size [0], v < size := by
  have ok : LwOk es size [0] := ⟨by simp, by simpa using h0, fun v hv => by simp at hv; subst hv; exact .zero⟩
  exact ⟨(lwIter_ok he ok).nd, (lwIter_ok he ok).lt⟩

/-! ### the program's walk -/
abbrev Here := List (Option Int)
def someAt (here : Here) (v : Nat) : Bool := match here[v]? with
  | some (some _) => true
  | _ => false
def wStep (st : Here × Bool) (e : O3) : Here × Bool := if someAt st.1 e.2.1 = true ∧ someAt st.1 e.2.2 = false then (st.1.set e.2.2 (some (e.1 : Int)), true) else st
def wPass (es : List O3) (here : Here) : Here × Bool := es.foldl wStep (here, false)
def wGo (es : List O3) : Nat → Here → Here
  | 0, here => here
  | n + 1, here => if (wPass es here).2 = true then wGo es n (wPass es here).1 else (wPass es here).1
def here0 (size : Nat) : Here := (List.replicate size none).set 0 (some (-1))
def wet (size : Nat) (es : List O3) : Here := wGo es (size + 1) (here0 size)
def prs (es : List O3) : List (Nat × Nat) := es.map (·.2)
theorem someAt_set {here : Here} {v w : Nat} {x : Int} (h : v < here.length) : someAt (here.set v (some x)) w = (if w = v then true else someAt here w) := by
  unfold someAt
  by_cases e : w = v
  · subst e
    rw [List.getElem?_set_self h, if_pos rfl]
  · rw [List.getElem?_set_ne (Ne.symm e), if_neg e]
/-- what holds of the walk's state: the length; the spring; only what is reached; each place by a pipe from one that came ahead of it -/
structure WOk (all : List O3) (size : Nat) (here : Here) : Prop where
  len : here.length = size
  spr : here[0]? = some (some (-1))
  rch : ∀ v, someAt here v = true → Rch (prs all) v
  par : ∃ rk : Nat → Nat, ∀ v n, v ≠ 0 → here[v]? = some (some n) → ∃ s, (∃ m : Nat, n = (m : Int) ∧ (m, s, v) ∈ all) ∧ someAt here s = true ∧ rk s < rk v
theorem someAt_iff {here : Here} {v : Nat} : someAt here v = true ↔ ∃ n, here[v]? = some (some n) := by
  unfold someAt
  constructor
  · intro h
    split at h
    · exact ⟨_, by assumption⟩
    · cases h
  · rintro ⟨n, h⟩
    rw [h]
theorem wStep_ok {all : List O3} {size : Nat} {st : Here × Bool} {e : O3} (h : WOk all size st.1) (he : e ∈ all) (hlt : e.2.2 < size) : WOk all size (wStep st e).1 := by
  unfold wStep
  split
  · rename_i c
    obtain ⟨m, s, g⟩ := e
    simp only at c hlt ⊢
    have hg0 : g ≠ 0 := fun z => by
      subst z
      have : someAt st.1 0 = true := someAt_iff.mpr ⟨_, h.spr⟩
      rw [this] at c
      cases c.2
    have hl : g < st.1.length := by rw [h.len]; exact hlt
    refine ⟨by simp [h.len], ?_, fun v hv => ?_, ?_⟩
    · rw [List.getElem?_set_ne hg0]
      exact h.spr
    · rw [someAt_set hl] at hv
      split at hv
      · rename_i e
        subst e
        exact .step (h.rch _ c.1) (List.mem_map.mpr ⟨(m, s, v), he, rfl⟩)
      · exact h.rch v hv
    · obtain ⟨rk, hr⟩ := h.par
      refine ⟨fun x => if x = g then rk s + 1 else rk x, fun v n h0 hv => ?_⟩
      have sg : s ≠ g := fun z => by rw [z] at c; rw [c.1] at c; cases c.2
      by_cases e : v = g
      · subst e
        rw [List.getElem?_set_self hl] at hv
        cases hv
        refine ⟨s, ⟨m, rfl, he⟩, ?_, by simp [sg]⟩
        rw [someAt_set hl, if_neg sg]
        exact c.1
      · rw [List.getElem?_set_ne (Ne.symm e)] at hv
        obtain ⟨s', q1, q2, q3⟩ := hr v n h0 hv
        have s'g : s' ≠ g := fun z => by rw [z] at q2; rw [q2] at c; cases c.2
        refine ⟨s', q1, ?_, by simp [e, s'g, q3]⟩
        rw [someAt_set hl, if_neg s'g]
        exact q2
  · exact h
theorem wFold_ok {all : List O3} {size : Nat} : ∀ {es : List O3} {st : Here × Bool}, (∀ e ∈ es, e ∈ all ∧ e.2.2 < size) → WOk all size st.1 → WOk all size (es.foldl wStep st).1
  | [], _, _, h => h
  | e :: es, _, he, h => wFold_ok (es := es) (fun x hx => he x (List.mem_cons_of_mem _ hx)) (wStep_ok h (he e (by simp)).1 (he e (by simp)).2)
/-- how many places are dry -/
def dry (here : Here) : Nat := here.countP (fun o => o.isNone)
theorem dry_set {here : Here} {v : Nat} {x : Int} (h : v < here.length) (hv : someAt here v = false) : dry (here.set v (some x)) + 1 = dry here := by
  unfold dry
  induction here generalizing v with
  | nil => simp at h
  | cons o here ih =>
    cases v with
    | zero =>
      have : o = none := by
        unfold someAt at hv
        simp at hv
        cases o with
        | none => rfl
        | some n => simp at hv
      subst this
      simp [List.countP_cons]
    | succ v =>
      have := ih (v := v) (by simpa using h) (by unfold someAt at hv ⊢; simpa using hv)
      simp only [List.set_cons_succ, List.countP_cons]
      omega
theorem wStep_dry {st : Here × Bool} {e : O3} (hlt : e.2.2 < st.1.length) : (wStep st e = st ∧ ¬ (someAt st.1 e.2.1 = true ∧ someAt st.1 e.2.2 = false)) ∨ ((wStep st e).2 = true ∧ dry (wStep st e).1 < dry st.1) := by
  unfold wStep
  split
  · rename_i c
    exact .inr ⟨rfl, by have := dry_set (x := (e.1 : Int)) hlt c.2; simp only; omega⟩
  · rename_i c
    exact .inl ⟨rfl, c⟩
theorem wStep_len {st : Here × Bool} {e : O3} : (wStep st e).1.length = st.1.length := by
  unfold wStep
  split <;> simp
theorem wStep_true {st : Here × Bool} {e : O3} (h : st.2 = true) : (wStep st e).2 = true := by
  unfold wStep
  split
  · rfl
  · exact h
theorem wFold_true : ∀ {es : List O3} {st : Here × Bool}, st.2 = true → (es.foldl wStep st).2 = true
  | [], _, h => h
  | e :: es, _, h => wFold_true (es := es) (wStep_true h)
theorem wFold_dry : ∀ {es : List O3} {st : Here × Bool}, (∀ e ∈ es, e.2.2 < st.1.length) → dry (es.foldl wStep st).1 ≤ dry st.1
  | [], _, _ => Nat.le_refl _
  | e :: es, st, h => by
    have ih := wFold_dry (es := es) (st := wStep st e) fun x hx => by rw [wStep_len]; exact h x (List.mem_cons_of_mem _ hx)
    rcases wStep_dry (h e (by simp)) with ⟨q, _⟩ | ⟨_, q⟩
    · rw [List.foldl_cons]; rw [q] at ih ⊢; exact ih
    · rw [List.foldl_cons]; omega
theorem wFold_turn : ∀ {es : List O3} {st : Here × Bool}, (∀ e ∈ es, e.2.2 < st.1.length) → st.2 = false → ((es.foldl wStep st) = st ∧ ∀ e ∈ es, ¬ (someAt st.1 e.2.1 = true ∧ someAt st.1 e.2.2 = false)) ∨ ((es.foldl wStep st).2 = true ∧ dry (es.foldl wStep st).1 < dry st.1)
  | [], _, _, _ => .inl ⟨rfl, fun e h => by cases h⟩
  | e :: es, st, h, hf => by
    rw [List.foldl_cons]
    have h' : ∀ x ∈ es, x.2.2 < (wStep st e).1.length := fun x hx => by rw [wStep_len]; exact h x (List.mem_cons_of_mem _ hx)
    rcases wStep_dry (h e (by simp)) with ⟨q, nc⟩ | ⟨q1, q2⟩
    · rw [q] at h' ⊢
      rcases wFold_turn h' hf with ⟨r1, r2⟩ | r
      · refine .inl ⟨r1, fun x hx => ?_⟩
        rcases List.mem_cons.mp hx with rfl | hx
        · exact nc
        · exact r2 x hx
      · exact .inr r
    · have := wFold_dry h'
      exact .inr ⟨wFold_true q1, by omega⟩
theorem wGo_ok {es : List O3} {size : Nat} (he : ∀ e ∈ es, e.2.2 < size) : ∀ {n : Nat} {here : Here}, WOk es size here → WOk es size (wGo es n here)
  | 0, _, h => h
  | n + 1, here, h => by
    have h1 : WOk es size (wPass es here).1 := wFold_ok (st := (here, false)) (fun e q => ⟨q, he e q⟩) h
    unfold wGo
    split
    · exact wGo_ok he h1
    · exact h1
theorem wGo_closed {es : List O3} {size : Nat} (he : ∀ e ∈ es, e.2.2 < size) : ∀ {n : Nat} {here : Here}, here.length = size → dry here < n → ∀ e ∈ es, someAt (wGo es n here) e.2.1 = true → someAt (wGo es n here) e.2.2 = true
  | 0, _, _, h => by omega
  | n + 1, here, hl, h => by
    have h1 := wFold_turn (es := es) (st := (here, false)) (fun e q => by show e.2.2 < here.length; rw [hl]; exact he e q) rfl
    unfold wGo
    rcases h1 with ⟨q1, q2⟩ | ⟨q1, q2⟩
    · have e1 : wPass es here = (here, false) := q1
      rw [e1]
      simp only [Bool.false_eq_true, if_false]
      intro e hm hs
      have := q2 e hm
      simp only [hs, true_and] at this
      simpa using this
    · have e1 : (wPass es here).2 = true := q1
      rw [if_pos e1]
      have hl2 : (wPass es here).1.length = size := by
        have : ∀ {es : List O3} {st : Here × Bool}, (es.foldl wStep st).1.length = st.1.length := fun {es} => by
          induction es with
          | nil => intro st; rfl
          | cons e es ih => intro st; rw [List.foldl_cons, ih, wStep_len]
        rw [← hl]
        exact this
      have q2 : dry (wPass es here).1 < dry here := q2
      exact wGo_closed he hl2 (by omega)
theorem here0_len {size : Nat} : (here0 size).length = size := by simp [here0]
theorem dry_le {here : Here} : dry here ≤ here.length := List.countP_le_length
theorem here0_ok {es : List O3} {size : Nat} (h : 0 < size) : WOk es size (here0 size) := by
  have at0 : (here0 size)[0]? = some (some (-1)) := by
    unfold here0
    rw [List.getElem?_set_self (by simpa using h)]
  have els : ∀ v, v ≠ 0 → someAt (here0 size) v = false := fun v hv => by
    unfold someAt here0
    rw [List.getElem?_set_ne (Ne.symm hv), List.getElem?_replicate]
    split <;> rename_i e <;> first | rfl | (split at e <;> cases e)
  refine ⟨here0_len, at0, fun v hv => ?_, fun _ => 0, fun v n h0 hv => ?_⟩
  · by_cases z : v = 0
    · subst z; exact .zero
    · rw [els v z] at hv; cases hv
  · have := someAt_iff.mpr ⟨n, hv⟩
    rw [els v h0] at this
    cases this
theorem wet_ok {es : List O3} {size : Nat} (h : 0 < size) (he : ∀ e ∈ es, e.2.2 < size) : WOk es size (wet size es) := wGo_ok he (here0_ok h)
theorem wet_iff {es : List O3} {size : Nat} (h : 0 < size) (he : ∀ e ∈ es, e.2.2 < size) {v : Nat} : someAt (wet size es) v = true ↔ Rch (prs es) v := by
  refine ⟨(wet_ok h he).rch v, fun r => ?_⟩
  refine r.closed (P := fun v => someAt (wet size es) v = true) (someAt_iff.mpr ⟨_, (wet_ok h he).spr⟩) fun s g hs hm => ?_
  obtain ⟨⟨m, s', g'⟩, hm2, e⟩ := List.mem_map.mp hm
  cases e
  exact wGo_closed he here0_len (by have := dry_le (here := here0 size); rw [here0_len] at this; omega) _ hm2 hs
end Z

set_option maxRecDepth 100000
namespace Z
open PySem PySem.Spec PyProof.Rows L2

/-! ### the law's own looks at a net -/
def dNs (ns : List Nat) : List D := ns.map dInt
instance : Cd Nat where
  enc := dInt
  dec := fun d => match d with
    | .int i => if 0 ≤ i then some i.toNat else none
    | _ => none
  de := fun x => by simp [dInt]
  ed := fun d x h => by
    split at h
    · split at h
      · cases h
        unfold dInt
        rw [Int.toNat_of_nonneg (by assumption)]
      · cases h
    · cases h
theorem decs_dNs (ns : List Nat) : (decs (dNs ns) : Option (List Nat)) = some ns := decs_enc ns
theorem dNs_some {ds : List D} {ns : List Nat} (h : decs ds = some ns) : ds = dNs ns := decs_some h
def pAt (ps : List P3) (k : Nat) : P3 := (ps[k]?).getD (0, 0, false)
theorem pAt_some {ps : List P3} {k : Nat} (h : k < ps.length) : ps[k]? = some (pAt ps k) := by unfold pAt; simp [h]
theorem pAt_mem {ps : List P3} {k : Nat} (h : k < ps.length) : pAt ps k ∈ ps := List.mem_of_getElem? (pAt_some h)
theorem atI_dPs {ps : List P3} {k : Nat} (h : k < ps.length) : atI (dPs ps) (k : Int) = some (dP (pAt ps k)) := by
  refine atI_nat ?_
  unfold dPs
  rw [List.getElem?_map, pAt_some h]
  rfl
/-- pipes[k][j] -/
theorem ixP {Γ : En} {f h : VF} {ps : List P3} {k : Nat} (h1 : f Γ = some (.lst (dPs ps))) (h2 : h Γ = some (dInt k)) (hk : k < ps.length) : v2 fIx f h Γ = some (dP (pAt ps k)) := v2e h1 h2 (atI_dPs hk)
theorem ixP0 {Γ : En} {f : VF} {p : P3} (h : f Γ = some (dP p)) : v2 fIx f (vC (.int 0)) Γ = some (dInt p.1) := v2e h rfl rfl
theorem ixP1 {Γ : En} {f : VF} {p : P3} (h : f Γ = some (dP p)) : v2 fIx f (vC (.int 1)) Γ = some (dInt p.2.1) := v2e h rfl rfl
theorem ixP2 {Γ : En} {f : VF} {p : P3} (h : f Γ = some (dP p)) : v2 fIx f (vC (.int 2)) Γ = some (.bl p.2.2) := v2e h rfl rfl
theorem ixO0 {Γ : En} {f : VF} {p : O3} (h : f Γ = some (dO3 p)) : v2 fIx f (vC (.int 0)) Γ = some (dInt p.1) := v2e h rfl rfl
theorem ixO1 {Γ : En} {f : VF} {p : O3} (h : f Γ = some (dO3 p)) : v2 fIx f (vC (.int 1)) Γ = some (dInt p.2.1) := v2e h rfl rfl
theorem ixO2 {Γ : En} {f : VF} {p : O3} (h : f Γ = some (dO3 p)) : v2 fIx f (vC (.int 2)) Γ = some (dInt p.2.2) := v2e h rfl rfl
/-- a number in a list of numbers -/
theorem inD_ns {n : Nat} {ns : List Nat} : inD (dInt n) (dNs ns) = some (decide (n ∈ ns)) := by
  unfold inD
  have h1 : scalD (dInt n) = true := rfl
  have h2 : (dNs ns).all scalD = true := by unfold dNs; rw [List.all_map]; simp [dInt, scalD, Function.comp_def]
  rw [h1, h2]
  show some _ = _
  refine congrArg some ?_
  unfold dNs
  rw [List.any_map]
  induction ns with
  | nil => rfl
  | cons m ns ih =>
    have ih := ih (by unfold dNs; rw [List.all_map]; simp [dInt, scalD, Function.comp_def])
    rw [List.any_cons, ih]
    have : ((fun y => eqF y (dInt n)) ∘ dInt) m = decide (n = m) := by
      show ((m : Int) == (n : Int)) = _
      by_cases c : n = m
      · subst c; simp
      · have : ¬ (m : Int) = (n : Int) := by omega
        simp [c, this]
    rw [this]
    simp
theorem fIn_ns {neg : Bool} {n : Nat} {ns : List Nat} : fIn neg (dInt n) (dNs ns) = some (.bl (if neg = true then !decide (n ∈ ns) else decide (n ∈ ns))) := by
  unfold fIn
  rw [inD_ns]
  rfl
theorem inE {Γ : En} {f : VF} {h : VL} {n : Nat} {ns : List Nat} (h1 : f Γ = some (dInt n)) (h2 : h Γ = some (dNs ns)) : v2 (fIn false) f h Γ = some (.bl (decide (n ∈ ns))) := v2e h1 h2 fIn_ns
theorem notInE {Γ : En} {f : VF} {h : VL} {n : Nat} {ns : List Nat} (h1 : f Γ = some (dInt n)) (h2 : h Γ = some (dNs ns)) : v2 (fIn true) f h Γ = some (.bl (decide (n ∉ ns))) := v2e h1 h2 (by rw [fIn_ns]; simp)

def lawOpen (ps : List P3) : List Nat := (List.range ps.length).filter fun k => (pAt ps k).2.2
def F_law_open : FN
  | [.val (.lst ds)] => (decs ds : Option (List P3)).bind fun ps => if ps.length ≤ 1000 then some (.inl (.own .loc (dNs (lawOpen ps)))) else none
  | _ => none
theorem F_open {ps : List P3} (h : ps.length ≤ 1000) : F_law_open [.val (.lst (dPs ps))] = some (.inl (.own .loc (dNs (lawOpen ps)))) := by
  show (decs (dPs ps)).bind _ = _
  rw [decs_dPs, Option.bind_some]
  exact ite_some h
/-- _law_open: 0 pipes 1 number -/
def t_law_open : VT := (seqT (retO (vLc [1] (lRng1 (v1 fLenL (lVar 0))) (gN 1) (bV (v2 fIx (v2 fIx (vVar 0) (vVar 1)) (vC (.int 2)))) (vVar 1))) skipT)
theorem lenPs {i : Nat} {Γ : En} {ps : List P3} (h : lVar i Γ = some (dPs ps)) : v1 fLenL (lVar i) Γ = some (.int (ps.length : Int)) := v1e h (by simp [fLenL, dPs])
theorem v_law_open : ∀ ss r, ss.length = 1 → F_law_open ss = some r → t_law_open (postP r) (En0 ss 2) ∧ ∃ s, r = .inl s := by
  intro ss r hl h
  unfold F_law_open at h
  split at h
  · rename_i ds
    obtain ⟨ps, e1, h'⟩ := Option.bind_eq_some_iff.mp h
    split at h'
    · rename_i hs
      have h'' := Option.some.inj h'
      subst h''
      cases dPs_some e1
      refine ⟨⟨_, vlc_filter (p := fun k => (pAt ps k).2.2) (h := dInt) (rng1e (i := (ps.length : Int)) (lenPs rfl) (by omega)) (by simp; omega) (fun k hk => ?_), rfl⟩, _, rfl⟩
      have hk : k < ps.length := by simpa using hk
      exact lcS rfl (bVe (ixP2 (ixP rfl rfl hk))) fun _ => rfl
    · cases h'
  · cases h
/-- pairs of places -/
def dE (e : Nat × Nat) : D := .tup [dInt e.1, dInt e.2]
def dEs (es : List (Nat × Nat)) : List D := es.map dE
instance : Cd (Nat × Nat) where
  enc := dE
  dec := fun d => match d with
    | .tup [.int a, .int b] => if 0 ≤ a ∧ 0 ≤ b then some (a.toNat, b.toNat) else none
    | _ => none
  de := fun x => by simp [dE, dInt]
  ed := fun d x h => by
    split at h
    · split at h
      · rename_i hc
        cases h
        simp only [dE, dInt]
        rw [show ((_ : Int).toNat : Int) = _ from Int.toNat_of_nonneg hc.1, show ((_ : Int).toNat : Int) = _ from Int.toNat_of_nonneg hc.2]
      · cases h
    · cases h
theorem decs_dEs (es : List (Nat × Nat)) : (decs (dEs es) : Option (List (Nat × Nat))) = some es := decs_enc es
def srtN (ns : List Nat) : List Nat := (srt (ns.map fun (n : Nat) => (n : Int))).map Int.toNat
theorem srtN_map (ns : List Nat) : (srt (ns.map fun (n : Nat) => (n : Int))).map D.int = dNs (srtN ns) := by
  unfold dNs srtN
  rw [List.map_map]
  refine List.map_congr_left fun i hi => ?_
  have := (srt_perm _).mem_iff.mp hi
  obtain ⟨n, _, rfl⟩ := List.mem_map.mp this
  show D.int (n : Int) = dInt (n : Int).toNat
  rw [Int.toNat_natCast]
  rfl
theorem srtN_perm (ns : List Nat) : (srtN ns).Perm ns := by
  unfold srtN
  have := (srt_perm (ns.map fun (n : Nat) => (n : Int))).map Int.toNat
  rwa [List.map_map, show (Int.toNat ∘ fun (n : Nat) => (n : Int)) = id from funext fun n => Int.toNat_natCast n, List.map_id] at this
theorem srtN_pairwise (ns : List Nat) : (srtN ns).Pairwise (· ≤ ·) := by
  unfold srtN
  rw [List.pairwise_map]
  exact (srt_pairwise _).imp fun h => by omega
theorem natSorted_eq {as bs : List Nat} (p : as.Perm bs) (h1 : as.Pairwise (· ≤ ·)) (h2 : bs.Pairwise (· ≤ ·)) : as = bs :=
  p.eq_of_pairwise (le := fun (a b : Nat) => a ≤ b) (fun a b _ _ q1 q2 => Nat.le_antisymm q1 q2) h1 h2
theorem srtN_sorted {ns : List Nat} (h : ns.Pairwise (· < ·)) : srtN ns = ns := natSorted_eq (srtN_perm ns) (srtN_pairwise ns) (h.imp Nat.le_of_lt)
theorem fSorted_ns (ns : List Nat) : fSorted (dNs ns) = some (.own .loc (dNs (srtN ns))) := by
  unfold fSorted
  have : dNs ns = (ns.map fun (n : Nat) => (n : Int)).map D.int := by unfold dNs; rw [List.map_map]; rfl
  rw [this, toIs_map]
  show some (Sl.own .loc ((srt _).map D.int)) = _
  rw [srtN_map]
def lawWet (size : Nat) (es : List (Nat × Nat)) : List Nat := srtN (lwIter es size [0])
def F_law_wet : FN
  | [.val (.int s), .val (.lst ds)] => (decs ds : Option (List (Nat × Nat))).bind fun es => if 0 ≤ s ∧ s ≤ 1000 ∧ es.length ≤ 900 then some (.inl (.own .loc (dNs (lawWet s.toNat es)))) else none
  | _ => none
theorem F_wetL {s : Nat} {es : List (Nat × Nat)} (h : s ≤ 1000) (h2 : es.length ≤ 900) : F_law_wet [.val (.int (s : Int)), .val (.lst (dEs es))] = some (.inl (.own .loc (dNs (lawWet s es)))) := by
  show (decs (dEs es)).bind _ = _
  rw [decs_dEs, Option.bind_some]
  exact ite_some (show 0 ≤ (s : Int) ∧ (s : Int) ≤ 1000 ∧ es.length ≤ 900 by omega)
/-- _law_wet: 0 size 1 pairs 2 here 3 turn 4 start 5 goal -/
def t_law_wet : VT := (seqT (asgO 2 (oLst (aCons (vC (.int 0)) aNil))) (seqT (forT (lRng1 (vVar 0)) (gN 3) (seqT (forT (v1 dL (vVar 1)) (gT [4, 5]) (seqT (ifT (bAnd (bV (v2 (fIn false) (vVar 4) (lVar 2))) (bV (v2 (fIn true) (vVar 5) (lVar 2)))) (seqT (appT 2 (vVar 5)) skipT) skipT) skipT)) skipT)) (seqT (retO (v1 fSorted (lVar 2))) skipT)))
theorem lwPass_bound : ∀ (es : List (Nat × Nat)) (here : List Nat), (lwPass es here).length ≤ here.length + es.length
  | [], _ => Nat.le_refl _
  | e :: es, here => by
    have ih := lwPass_bound es (lwStep here e)
    have : (lwStep here e).length ≤ here.length + 1 := by unfold lwStep; split <;> simp
    show (lwPass es (lwStep here e)).length ≤ _
    simp only [List.length_cons]
    omega
theorem lwIter_snoc (es : List (Nat × Nat)) : ∀ (n : Nat) (here : List Nat), lwIter es (n + 1) here = lwPass es (lwIter es n here)
  | 0, _ => rfl
  | n + 1, here => by show lwIter es (n + 1) (lwPass es here) = _; rw [lwIter_snoc es n]; rfl
theorem v_law_wet : ∀ ss r, ss.length = 2 → F_law_wet ss = some r → t_law_wet (postP r) (En0 ss 6) ∧ ∃ s, r = .inl s := by
  intro ss r hl h
  unfold F_law_wet at h
  split at h
  · rename_i s ds
    obtain ⟨es, e1, h'⟩ := Option.bind_eq_some_iff.mp h
    split at h'
    · rename_i hs
      have h'' := Option.some.inj h'
      subst h''
      have ed : ds = dEs es := decs_some e1
      subst ed
      obtain ⟨s, rfl⟩ := Int.eq_ofNat_of_zero_le hs.1
      refine ⟨?_, _, rfl⟩
      simp only [Int.toNat_natCast]
      refine ⟨_, rfl, ?_⟩
      refine ⟨_, rng1e (i := (s : Int)) rfl (by omega), ?_⟩
      refine loopT_inv (fun rest Γ => ∃ here n v3 v4 v5, n + rest.length = s ∧ here = lwIter es n [0] ∧ here.length ≤ 1 + n * es.length ∧ Γ = [some (.val (.int (s : Int))), some (.val (.lst (dEs es))), some (.own .loc (dNs here)), v3, v4, v5]) ?_ ?_ _ _
        ⟨[0], 0, none, none, none, by simp, rfl, by simp, rfl⟩
      · rintro t xs Γ k ⟨here, n, v3, v4, v5, hn, hh, hlen, rfl⟩ hk
        refine ⟨_, rfl, ?_⟩
        refine ⟨dEs es, rfl, ?_⟩
        have bound : n * es.length ≤ 900000 := Nat.mul_le_mul (show n ≤ 1000 by simp at hn; omega) (show es.length ≤ 900 by omega)
        refine loopT_inv (fun rest Γ => ∃ here' v4 v5, lwPass rest here' = lwPass es here ∧ here'.length + rest.length ≤ 1 + n * es.length + es.length ∧ Γ = [some (.val (.int (s : Int))), some (.val (.lst (dEs es))), some (.own .loc (dNs here')), some (.val (dInt t)), v4, v5]) ?_ ?_ es _ ⟨here, v4, v5, rfl, by omega, rfl⟩
        · rintro ⟨a, b⟩ rest Γ k' ⟨here', v4, v5, q1, q2, rfl⟩ hk'
          refine ⟨_, rfl, ?_⟩
          simp only [List.length_cons] at q2
          refine if_d (p := a ∈ here' ∧ b ∉ here') (bAnd_d (bVe (inE rfl rfl)) fun _ => bVe (notInE rfl rfl)) (fun c => ?_) (fun c => ?_)
          · refine ⟨(by intro z; cases z), dInt b, rfl, by simp [dNs]; omega, ?_⟩
            refine hk' _ ⟨here' ++ [b], some (.val (dInt a)), some (.val (dInt b)), ?_, by simp; omega, ?_⟩
            · rw [← q1]
              show lwPass rest (here' ++ [b]) = lwPass rest (lwStep here' (a, b))
              unfold lwStep
              rw [if_pos c]
            · show [_, _, some (Sl.own .loc (dNs here' ++ [dInt b])), _, _, _] = _
              unfold dNs
              rw [List.map_append]
              rfl
          · refine hk' _ ⟨here', _, _, ?_, by omega, rfl⟩
            rw [← q1]
            show lwPass rest here' = lwPass rest (lwStep here' (a, b))
            unfold lwStep
            rw [if_neg c]
        · rintro Γ ⟨here', v4, v5, q1, q2, rfl⟩
          have q1 : here' = lwPass es here := q1
          refine hk _ ⟨here', n + 1, _, _, _, by simp at hn; omega, ?_, ?_, rfl⟩
          · rw [q1, lwIter_snoc, hh]
          · have := lwPass_bound es here
            rw [q1, Nat.succ_mul]
            omega
      · rintro Γ ⟨here, n, v3, v4, v5, hn, hh, hlen, rfl⟩
        simp at hn
        subst hn
        subst hh
        exact ⟨_, v1e rfl (fSorted_ns _), rfl⟩
    · cases h'
  · cases h
def edgesOf (ps : List P3) (ks : List Nat) : List (Nat × Nat) := ks.map fun k => ((pAt ps k).1, (pAt ps k).2.1)
def lawReached (size : Nat) (ps : List P3) : List Nat := lawWet size (edgesOf ps (lawOpen ps))
def F_law_reached : FN
  | [.val (.int s), .val (.lst ds)] => (decs ds : Option (List P3)).bind fun ps => if 0 ≤ s ∧ s ≤ 1000 ∧ ps.length ≤ 900 then some (.inl (.own .loc (dNs (lawReached s.toNat ps)))) else none
  | _ => none
theorem F_reachedL {s : Nat} {ps : List P3} (h : s ≤ 1000) (h2 : ps.length ≤ 900) : F_law_reached [.val (.int (s : Int)), .val (.lst (dPs ps))] = some (.inl (.own .loc (dNs (lawReached s ps)))) := by
  show (decs (dPs ps)).bind _ = _
  rw [decs_dPs, Option.bind_some]
  exact ite_some (show 0 ≤ (s : Int) ∧ (s : Int) ≤ 1000 ∧ ps.length ≤ 900 by omega)
theorem lawOpen_lt {ps : List P3} {k : Nat} (h : k ∈ lawOpen ps) : k < ps.length ∧ (pAt ps k).2.2 = true := by
  unfold lawOpen at h
  rw [List.mem_filter, List.mem_range] at h
  exact h
theorem lawOpen_len (ps : List P3) : (lawOpen ps).length ≤ ps.length := by
  unfold lawOpen
  exact Nat.le_trans (List.length_filter_le _ _) (by simp)
/-- _law_reached: 0 size 1 pipes 2 k -/
def t_law_reached : VT := (seqT (retO (v1 inlO (xCall 2 F_law_wet (rV (vVar 0) (rV (v1 slD (vLc [2] (v1 slL (v1 inlO (xCall 1 F_law_open (rV (vVar 1) rNil)))) (gN 2) bT (vTup (aCons (v2 fIx (v2 fIx (vVar 1) (vVar 2)) (vC (.int 0))) (aCons (v2 fIx (v2 fIx (vVar 1) (vVar 2)) (vC (.int 1))) aNil))))) rNil))))) skipT)
theorem edges_e {Γ : En} {ps : List P3} {k : Nat} {f h : VF} (h1 : f Γ = some (.lst (dPs ps))) (h2 : h Γ = some (dInt k)) (hk : k < ps.length) :
    vTup (aCons (v2 fIx (v2 fIx f h) (vC (.int 0))) (aCons (v2 fIx (v2 fIx f h) (vC (.int 1))) aNil)) Γ = some (dE ((pAt ps k).1, (pAt ps k).2.1)) := by
  unfold vTup aCons
  rw [ixP0 (ixP h1 h2 hk), Option.bind_some, ixP1 (ixP h1 h2 hk)]
  rfl
theorem v_law_reached : ∀ ss r, ss.length = 2 → F_law_reached ss = some r → t_law_reached (postP r) (En0 ss 3) ∧ ∃ s, r = .inl s := by
  intro ss r hl h
  unfold F_law_reached at h
  split at h
  · rename_i s ds
    obtain ⟨ps, e1, h'⟩ := Option.bind_eq_some_iff.mp h
    split at h'
    · rename_i hs
      have h'' := Option.some.inj h'
      subst h''
      cases dPs_some e1
      obtain ⟨s, rfl⟩ := Int.eq_ofNat_of_zero_le hs.1
      refine ⟨?_, _, rfl⟩
      simp only [Int.toNat_natCast]
      have hlo := lawOpen_len ps
      refine ⟨.own .loc (dNs (lawReached s ps)), v1e (x := .inl (.own .loc (dNs (lawReached s ps)))) (xc (rVe rfl (rVe (v1e (vlc_map (enc := dInt) (xs := lawOpen ps) (h := fun k => dE ((pAt ps k).1, (pAt ps k).2.1)) (v1e (v1e (xc rfl ⟨rfl, rfl⟩ rfl (F_open (by omega))) rfl) rfl) (by omega)
        fun k hk => lcS1 rfl rfl (edges_e rfl rfl (lawOpen_lt hk).1)) rfl) rfl)) ⟨rfl, rfl⟩ rfl ?_) rfl, rfl⟩
      show F_law_wet [.val (.int (s : Int)), .val (.lst ((lawOpen ps).map fun k => dE ((pAt ps k).1, (pAt ps k).2.1)))] = _
      have := F_wetL (s := s) (es := edgesOf ps (lawOpen ps)) (by omega) (by simp [edgesOf]; omega)
      unfold dEs edgesOf at this
      rw [List.map_map] at this
      exact this
    · cases h'
  · cases h
def lawInto (ps : List P3) (ns : List Nat) : List Nat := (lawOpen ps).filter fun k => decide ((pAt ps k).1 ∉ ns ∧ (pAt ps k).2.1 ∈ ns)
def F_law_into : FN
  | [.val (.lst ds), .val (.lst es)] => (decs ds : Option (List P3)).bind fun ps => (decs es : Option (List Nat)).bind fun ns => if ps.length ≤ 900 then some (.inl (.own .loc (dNs (lawInto ps ns)))) else none
  | _ => none
theorem F_into {ps : List P3} {ns : List Nat} (h2 : ps.length ≤ 900) : F_law_into [.val (.lst (dPs ps)), .val (.lst (dNs ns))] = some (.inl (.own .loc (dNs (lawInto ps ns)))) := by
  show (decs (dPs ps)).bind _ = _
  rw [decs_dPs, Option.bind_some]
  show (decs (dNs ns)).bind _ = _
  rw [decs_dNs, Option.bind_some]
  exact ite_some h2
/-- _law_into: 0 pipes 1 places 2 k -/
def t_law_into : VT := (seqT (retO (vLc [2] (v1 slL (v1 inlO (xCall 1 F_law_open (rV (vVar 0) rNil)))) (gN 2) (bAnd (bV (v2 (fIn true) (v2 fIx (v2 fIx (vVar 0) (vVar 2)) (vC (.int 0))) (lVar 1))) (bV (v2 (fIn false) (v2 fIx (v2 fIx (vVar 0) (vVar 2)) (vC (.int 1))) (lVar 1)))) (vVar 2))) skipT)
theorem v_law_into : ∀ ss r, ss.length = 2 → F_law_into ss = some r → t_law_into (postP r) (En0 ss 3) ∧ ∃ s, r = .inl s := by
  intro ss r hl h
  unfold F_law_into at h
  split at h
  · rename_i ds es
    obtain ⟨ps, e1, h'⟩ := Option.bind_eq_some_iff.mp h
    obtain ⟨ns, e2, h2⟩ := Option.bind_eq_some_iff.mp h'
    split at h2
    · rename_i hs
      have h'' := Option.some.inj h2
      subst h''
      cases dPs_some e1
      cases dNs_some e2
      have hlo := lawOpen_len ps
      refine ⟨⟨.own .loc (dNs (lawInto ps ns)), ?_, rfl⟩, _, rfl⟩
      refine vlc_filter (enc := dInt) (xs := lawOpen ps) (h := dInt) (v1e (v1e (xc rfl ⟨rfl, rfl⟩ rfl (F_open (by omega))) rfl) rfl) (by omega) fun k hk => ?_
      have hk := (lawOpen_lt hk).1
      exact lcS rfl (bAnd_d (bVe (notInE (ixP0 (ixP rfl rfl hk)) rfl)) fun _ => bVe (inE (ixP1 (ixP rfl rfl hk)) rfl)) fun _ => rfl
    · cases h2
  · cases h
/-- all numbers are below the bound -/
def F_law_numbers : FN
  | [.val (.lst ds), .val (.int b)] => (decs ds : Option (List Nat)).bind fun ns => if ∀ n ∈ ns, (n : Int) < b then some (.inl (.val (.bl true))) else none
  | _ => none
theorem F_numbers {ns : List Nat} {b : Nat} (h : ∀ n ∈ ns, n < b) : F_law_numbers [.val (.lst (dNs ns)), .val (.int (b : Int))] = some (.inl (.val (.bl true))) := by
  show (decs (dNs ns)).bind _ = _
  rw [decs_dNs, Option.bind_some]
  exact ite_some (fun n hn => by have := h n hn; omega)
/-- _law_numbers: 0 found 1 bound 2 number -/
def t_law_numbers : VT := (seqT (ifT (bNot (bV (v1 (fIsi "list") (vVar 0)))) (seqT (retV (vC (.bl false))) skipT) skipT) (seqT (forT (v1 dL (vVar 0)) (gN 2) (seqT (ifT (bOr (bNot (bV (v1 slD (v1 inlO (xCall 1 F_law_whole (rV (vVar 2) rNil)))))) (bOr (bV (v2 fLt (vVar 2) (vC (.int 0)))) (bV (v2 fGe (vVar 2) (vVar 1))))) (seqT (retV (vC (.bl false))) skipT) skipT) skipT)) (seqT (retV (vC (.bl true))) skipT)))
theorem v_law_numbers : ∀ ss r, ss.length = 2 → F_law_numbers ss = some r → t_law_numbers (postP r) (En0 ss 3) ∧ ∃ s, r = .inl s := by
  intro ss r hl h
  unfold F_law_numbers at h
  split at h
  · rename_i ds b
    obtain ⟨ns, e1, h'⟩ := Option.bind_eq_some_iff.mp h
    split at h'
    · rename_i hs
      have h'' := Option.some.inj h'
      subst h''
      cases dNs_some e1
      refine ⟨?_, _, rfl⟩
      refine if_f (dec_f (p := ¬ True) (by simp) (bNot_d (bVe (v1e rfl isi_list)))) ?_
      refine ⟨dNs ns, rfl, ?_⟩
      refine loopT_inv (enc := dInt) (fun rest Γ => (∀ n ∈ rest, ((n : Nat) : Int) < b) ∧ ∃ v2, Γ = [some (.val (.lst (dNs ns))), some (.val (.int b)), v2]) ?_ ?_ ns _ ⟨hs, none, rfl⟩
      · rintro n rest Γ k ⟨hb, v2, rfl⟩ hk
        refine ⟨_, rfl, ?_⟩
        have hn := hb n (by simp)
        refine if_f (dec_f (p := (¬ True) ∨ ((n : Int) < 0 ∨ b ≤ (n : Int))) (by simp; omega) (bOr_d (bNot_d (bVe (v1e (v1e (xc rfl ⟨rfl, rfl⟩ rfl rfl) rfl) rfl))) fun _ => bOr_d rfl fun _ => rfl)) ?_
        exact hk _ ⟨fun m hm => hb m (List.mem_cons_of_mem _ hm), _, rfl⟩
      · rintro Γ ⟨_, v2, rfl⟩
        exact ⟨_, rfl, rfl⟩
    · cases h'
  · cases h
/-- == of data of numbers -/
theorem shaped_ns (ns : List Nat) : okD (.lst (dNs ns)) = true := by
  unfold okD
  rw [Bool.and_eq_true]
  constructor
  · unfold flatD
    induction ns with
    | nil => rfl
    | cons n ns ih => show (flatD (dInt n) && flatDs (dNs ns)) = true; rw [show flatDs (dNs ns) = true from ih]; rfl
  · unfold SeqAt.shaped toPy
    rw [Bool.and_eq_true]
    constructor
    · show PyData.canLayAll0 (toPys (dNs ns)) = true
      induction ns with
      | nil => rfl
      | cons n ns ih => show (PyData.canLay0 (toPy (dInt n)) && PyData.canLayAll0 (toPys (dNs ns))) = true; rw [ih]; rfl
    · refine decide_eq_true ?_
      have : ∀ ns : List Nat, PyData.depthAll (toPys (dNs ns)) ≤ 1 := fun ns => by
        induction ns with
        | nil => decide
        | cons n ns ih =>
          show PyData.depthAll (toPy (dInt n) :: toPys (dNs ns)) ≤ 1
          simp only [PyData.depthAll, dInt, toPy, PyData.depth]
          omega
      have h := this ns
      simp only [PyData.depth]
      omega
theorem eqv_refl_ok {d : D} (h : okD d = true) : PyData.eqv (toPy d) (toPy d) = true := by
  unfold okD at h
  rw [Bool.and_eq_true] at h
  exact SeqAt.eqv_refl _ (SeqAt.canLay_of_shaped h.2)
theorem fEq_refl {d : D} (h : okD d = true) : fEq d d = some (.bl true) := by
  unfold fEq
  split
  · simp
  · simp
  · simp
  · rw [h, eqv_refl_ok h]
    rfl
theorem fNe_refl {d : D} (h : okD d = true) : fNe d d = some (.bl false) := by unfold fNe; rw [fEq_refl h]; rfl
def F_law_rising : FN
  | [.val (.lst ds), .val (.int b)] => (decs ds : Option (List Nat)).bind fun ns => if (∀ n ∈ ns, (n : Int) < b) ∧ ns.Pairwise (· < ·) ∧ ns.length ≤ 4000 then some (.inl (.val (.bl true))) else none
  | _ => none
theorem F_rising {ns : List Nat} {b : Nat} (h : ∀ n ∈ ns, n < b) (h2 : ns.Pairwise (· < ·)) (h3 : ns.length ≤ 4000) : F_law_rising [.val (.lst (dNs ns)), .val (.int (b : Int))] = some (.inl (.val (.bl true))) := by
  show (decs (dNs ns)).bind _ = _
  rw [decs_dNs, Option.bind_some]
  exact ite_some ⟨fun n hn => by have := h n hn; omega, h2, h3⟩
/-- _law_rising: 0 found 1 bound -/
def t_law_rising : VT := (seqT (ifT (bNot (bV (v1 slD (v1 inlO (xCall 2 F_law_numbers (rV (vVar 0) (rV (vVar 1) rNil))))))) (seqT (retV (vC (.bl false))) skipT) skipT) (seqT (retV (vAnd (v2 fEq (vVar 0) (v1 slD (v1 fSorted (lVar 0)))) (v2 fEq (v1 fLenSet (lVar 0)) (v1 fLenL (lVar 0))))) skipT))
theorem fLenSet_ns {ns : List Nat} (h : ns.Nodup) (h3 : ns.length ≤ 4000) : fLenSet (dNs ns) = some (.int (ns.length : Int)) := by
  unfold fLenSet
  have e : dNs ns = (ns.map fun (n : Nat) => (n : Int)).map D.int := by unfold dNs; rw [List.map_map]; rfl
  rw [e, toIs_map, Option.bind_some]
  have hn : (ns.map fun (n : Nat) => (n : Int)).Nodup := by
    unfold List.Nodup
    rw [List.pairwise_map]
    exact h.imp fun q z => q (by omega)
  have hc : decide ((ns.map fun (n : Nat) => (n : Int)).Nodup ∧ (ns.map fun (n : Nat) => (n : Int)).length ≤ 4000) = true := decide_eq_true ⟨hn, by simpa using h3⟩
  rw [if_pos hc]
  simp
theorem v_law_rising : ∀ ss r, ss.length = 2 → F_law_rising ss = some r → t_law_rising (postP r) (En0 ss 2) ∧ ∃ s, r = .inl s := by
  intro ss r hl h
  unfold F_law_rising at h
  split at h
  · rename_i ds b
    obtain ⟨ns, e1, h'⟩ := Option.bind_eq_some_iff.mp h
    split at h'
    · rename_i hs
      have h'' := Option.some.inj h'
      subst h''
      cases dNs_some e1
      obtain ⟨hb, hp, hl⟩ := hs
      refine ⟨?_, _, rfl⟩
      have e0 : F_law_numbers [.val (.lst (dNs ns)), .val (.int b)] = some (.inl (.val (.bl true))) := by
        show (decs (dNs ns)).bind _ = _
        rw [decs_dNs, Option.bind_some]
        exact ite_some hb
      refine if_f (dec_f (p := ¬ True) (by simp) (bNot_d (bVe (v1e (v1e (xc rfl ⟨rfl, rfl⟩ rfl e0) rfl) rfl)))) ?_
      refine ⟨.bl true, vAnd_t (v2e rfl (v1e (v1e rfl (fSorted_ns ns)) rfl) ?_) ?_, rfl⟩
      · rw [srtN_sorted hp]
        exact fEq_refl (shaped_ns ns)
      · refine v2e (v1e rfl (fLenSet_ns (hp.imp fun q => Nat.ne_of_lt q) hl)) (v1e rfl rfl) ?_
        simp [fEq, dNs]
    · cases h'
  · cases h
end Z

set_option maxRecDepth 100000
namespace Z
open PySem PySem.Spec PyProof.Rows L2

/-! ### nets read back -/
def unNet (s : Int) (ds : List D) : Option (Nat × List P3) := (decs ds : Option (List P3)).bind fun ps => if 0 ≤ s ∧ okNet s.toNat ps then some (s.toNat, ps) else none
theorem unNet_of {s : Nat} {ps : List P3} (h : okNet s ps) : unNet (s : Int) (dPs ps) = some (s, ps) := by
  unfold unNet
  rw [decs_dPs, Option.bind_some]
  exact ite_some (show 0 ≤ (s : Int) ∧ okNet s ps from ⟨Int.natCast_nonneg s, h⟩)
theorem unNet_some {s : Int} {ds : List D} {x : Nat × List P3} (h : unNet s ds = some x) : s = (x.1 : Int) ∧ ds = dPs x.2 ∧ okNet x.1 x.2 := by
  obtain ⟨ps, e1, h'⟩ := Option.bind_eq_some_iff.mp h
  split at h'
  · rename_i hc
    cases h'
    exact ⟨(Int.toNat_of_nonneg hc.1).symm, dPs_some e1, hc.2⟩
  · cases h'
theorem okNet.pip {size : Nat} {ps : List P3} (h : okNet size ps) : ∀ p ∈ ps, okP size p := okPs_iff.mp h.2.2.1

/-! ### open pipes -/
def opOf (ps : List P3) (k : Nat) : O3 := (k, (pAt ps k).1, (pAt ps k).2.1)
def openOf (ps : List P3) : List O3 := (lawOpen ps).map (opOf ps)
def opGo : Nat → List P3 → List O3
  | _, [] => []
  | n, p :: ps => if p.2.2 = true then (n, p.1, p.2.1) :: opGo (n + 1) ps else opGo (n + 1) ps
theorem opGo_eq : ∀ (ps : List P3) (n : Nat), opGo n ps = ((List.range ps.length).filter fun k => (pAt ps k).2.2).map fun k => (n + k, (pAt ps k).1, (pAt ps k).2.1)
  | [], _ => rfl
  | p :: ps, n => by
    rw [List.length_cons, List.range_succ_eq_map, List.filter_cons, List.filter_map]
    have ih := opGo_eq ps (n + 1)
    have e : ((List.filter ((fun k => (pAt (p :: ps) k).2.2) ∘ Nat.succ) (List.range ps.length)).map Nat.succ).map (fun k => (n + k, (pAt (p :: ps) k).1, (pAt (p :: ps) k).2.1)) = opGo (n + 1) ps := by
      rw [ih, List.map_map]
      refine List.map_congr_left fun k _ => ?_
      show (n + (k + 1), _) = (n + 1 + k, _)
      rw [show n + (k + 1) = n + 1 + k by omega]
      rfl
    show (if p.2.2 = true then _ else _) = List.map _ (if p.2.2 = true then _ else _)
    split
    · rw [List.map_cons, e]; rfl
    · rw [e]
theorem opGo_open (ps : List P3) : opGo 0 ps = openOf ps := by
  rw [opGo_eq]
  unfold openOf lawOpen opOf
  simp
theorem openOf_mem {ps : List P3} {o : O3} : o ∈ openOf ps ↔ ∃ k, k < ps.length ∧ (pAt ps k).2.2 = true ∧ o = (k, (pAt ps k).1, (pAt ps k).2.1) := by
  unfold openOf
  rw [List.mem_map]
  constructor
  · rintro ⟨k, hk, rfl⟩
    exact ⟨k, (lawOpen_lt hk).1, (lawOpen_lt hk).2, rfl⟩
  · rintro ⟨k, h1, h2, rfl⟩
    refine ⟨k, ?_, rfl⟩
    unfold lawOpen
    rw [List.mem_filter, List.mem_range]
    exact ⟨h1, h2⟩
theorem openOf_len (ps : List P3) : (openOf ps).length ≤ ps.length := by
  unfold openOf
  rw [List.length_map]
  exact lawOpen_len ps
theorem openOf_lt {size : Nat} {ps : List P3} (h : ∀ p ∈ ps, okP size p) : ∀ o ∈ openOf ps, o.2.1 < size ∧ o.2.2 < size := by
  intro o ho
  obtain ⟨k, h1, _, rfl⟩ := openOf_mem.mp ho
  have := h _ (pAt_mem h1)
  exact ⟨this.1, this.2.1⟩
def enP : Nat → List P3 → List (Nat × P3)
  | _, [] => []
  | n, p :: ps => (n, p) :: enP (n + 1) ps
def dNP (x : Nat × P3) : D := .tup [.int (x.1 : Int), dP x.2]
theorem enumF_ps : ∀ (ps : List P3) (n : Nat), enumF n (dPs ps) = (enP n ps).map dNP
  | [], _ => rfl
  | p :: ps, n => by
    show _ :: enumF (n + 1) (dPs ps) = _
    rw [enumF_ps ps (n + 1)]
    rfl
theorem enP_len : ∀ (ps : List P3) (n : Nat), (enP n ps).length = ps.length
  | [], _ => rfl
  | p :: ps, n => by simp [enP, enP_len ps (n + 1)]
def opE : List (Nat × P3) → List O3
  | [] => []
  | x :: xs => if x.2.2.2 = true then (x.1, x.2.1, x.2.2.1) :: opE xs else opE xs
theorem opE_eq : ∀ (ps : List P3) (n : Nat), opE (enP n ps) = opGo n ps
  | [], _ => rfl
  | p :: ps, n => by simp only [enP, opE, opGo, opE_eq ps (n + 1)]
def F_open_pipes : FN
  | [.net _ s ds] => (unNet s ds).map fun x => .inl (.own .loc (dOs (openOf x.2)))
  | _ => none
theorem F_opens {m : Md} {s : Nat} {ps : List P3} (h : okNet s ps) : F_open_pipes [.net m (s : Int) (dPs ps)] = some (.inl (.own .loc (dOs (openOf ps)))) := by
  show (unNet _ _).map _ = _
  rw [unNet_of h]
  rfl
/-- open_pipes: 0 net 1 found 2 number 3 pipe -/
def t_open_pipes : VT := (seqT (asgO 1 (oLst aNil)) (seqT (forT (lEnum (v1 slD (v1 inlO (xMeth 1 F_pipes 0 rNil)))) (gT [2, 3]) (seqT (ifT (bV (v2 fIx (vVar 3) (vC (.int 2)))) (seqT (appT 1 (vTup (aCons (vVar 2) (aCons (v2 fIx (vVar 3) (vC (.int 0))) (aCons (v2 fIx (vVar 3) (vC (.int 1))) aNil))))) skipT) skipT) skipT)) (seqT (retS 1) skipT)))
theorem v_open_pipes : ∀ ss r, ss.length = 1 → F_open_pipes ss = some r → t_open_pipes (postP r) (En0 ss 4) ∧ ∃ s, r = .inl s := by
  intro ss r hl h
  unfold F_open_pipes at h
  split at h
  · rename_i m s ds
    obtain ⟨x, e1, e2⟩ := Option.map_eq_some_iff.mp h
    subst e2
    obtain ⟨rfl, rfl, hn⟩ := unNet_some e1
    obtain ⟨n, ps⟩ := x
    refine ⟨?_, _, rfl⟩
    refine ⟨_, rfl, ?_⟩
    have hlen : ps.length ≤ 60 := hn.2.2.2
    refine ⟨(enP 0 ps).map dNP, by rw [← enumF_ps ps 0]; rfl, ?_⟩
    refine loopT_inv (enc := dNP) (fun rest Γ => ∃ (found : List O3) (v2 v3 : Option Sl), found ++ opE rest = openOf ps ∧ Γ = [some (.net m (n : Int) (dPs ps)), some (.own .loc (dOs found)), v2, v3]) ?_ ?_ _ _ ⟨[], none, none, by rw [opE_eq, opGo_open]; rfl, rfl⟩
    · rintro ⟨k, p⟩ rest Γ kk ⟨found, v2, v3, e, rfl⟩ hk
      refine ⟨_, rfl, ?_⟩
      have hfl : found.length ≤ 60 := by
        have := congrArg List.length e
        have h2 := openOf_len ps
        rw [List.length_append] at this
        omega
      refine if_b (b := p.2.2) (bVe (ixP2 (p := p) rfl)) (fun c => ?_) (fun c => ?_)
      · refine ⟨(by intro z; cases z), dO3 (k, p.1, p.2.1), rfl, by simp; omega, ?_⟩
        refine hk _ ⟨found ++ [(k, p.1, p.2.1)], some (.val (dInt k)), some (.val (dP p)), ?_, ?_⟩
        · rw [← e]
          simp only [opE]
          rw [if_pos c]
          simp
        · show [_, some (Sl.own .loc (dOs found ++ [dO3 (k, p.1, p.2.1)])), _, _] = _
          unfold dOs
          rw [List.map_append]
          rfl
      · refine hk _ ⟨found, _, _, ?_, rfl⟩
        rw [← e]
        simp only [opE]
        rw [if_neg (by rw [c]; simp)]
    · rintro Γ ⟨found, v2, v3, e, rfl⟩
      have e : found = openOf ps := by simpa [opE] using e
      subst e
      exact ⟨_, rfl, rfl, rfl⟩
  · cases h

/-! ### where water comes to -/
def dOp : Option Int → D
  | none => .non
  | some i => .int i
def dHere (here : Here) : List D := here.map dOp
def hAt (here : Here) (v : Nat) : Option Int := (here[v]?).getD none
theorem hAt_some {here : Here} {v : Nat} (h : v < here.length) : here[v]? = some (hAt here v) := by unfold hAt; simp [h]
theorem someAt_hAt (here : Here) (v : Nat) : someAt here v = (hAt here v).isSome := by
  unfold someAt hAt
  cases here[v]? with
  | none => rfl
  | some o => cases o <;> rfl
theorem atI_here {here : Here} {v : Nat} (h : v < here.length) : atI (dHere here) (v : Int) = some (dOp (hAt here v)) := by
  refine atI_nat ?_
  unfold dHere
  rw [List.getElem?_map, hAt_some h]
  rfl
theorem isNon_dOp (o : Option Int) : isNon (dOp o) = !o.isSome := by cases o <;> rfl
theorem dryE {Γ : En} {f : VF} {here : Here} {v : Nat} (h : f Γ = some (dOp (hAt here v))) : v2 fIsN f (vC .non) Γ = some (.bl (decide (someAt here v = false))) := by
  refine v2e h rfl ?_
  show some (D.bl (isNon (dOp (hAt here v)))) = _
  rw [isNon_dOp, someAt_hAt]
  cases hAt here v <;> rfl
theorem wetE {Γ : En} {f : VF} {here : Here} {v : Nat} (h : f Γ = some (dOp (hAt here v))) : v2 fNotN f (vC .non) Γ = some (.bl (decide (someAt here v = true))) := by
  refine v2e h rfl ?_
  show some (D.bl (!isNon (dOp (hAt here v)))) = _
  rw [isNon_dOp, someAt_hAt]
  cases hAt here v <;> rfl
def F_wet : FN
  | [.val (.int s), .val (.lst ds)] => (decs ds : Option (List O3)).bind fun es => if 1 ≤ s ∧ s ≤ 1000 ∧ ∀ e ∈ es, (e.2.1 : Int) < s ∧ (e.2.2 : Int) < s then some (.inl (.own .loc (dHere (wet s.toNat es)))) else none
  | _ => none
theorem F_wetE {s : Nat} {es : List O3} (h : 1 ≤ s) (h2 : s ≤ 1000) (h3 : ∀ e ∈ es, e.2.1 < s ∧ e.2.2 < s) : F_wet [.val (.int (s : Int)), .val (.lst (dOs es))] = some (.inl (.own .loc (dHere (wet s es)))) := by
  show (decs (dOs es)).bind _ = _
  rw [decs_dOs, Option.bind_some]
  exact ite_some (show 1 ≤ (s : Int) ∧ (s : Int) ≤ 1000 ∧ _ from ⟨by omega, by omega, fun e he => by have := h3 e he; omega⟩)
/-- wet: 0 size 1 pipes 2 here 3 turned 4 number 5 start 6 goal 7 place -/
def t_wet : VT := (seqT (asgO 2 (vLc [7] (lRng1 (vVar 0)) (gN 7) bT (vC .non))) (seqT (setT 2 (vC (.int 0)) (v1 fNeg (vC (.int 1)))) (seqT (asgV 3 (vC (.bl true))) (seqT (whileT (bV (vVar 3)) (seqT (asgV 3 (vC (.bl false))) (seqT (forT (v1 dL (vVar 1)) (gT [4, 5, 6]) (seqT (ifT (bAnd (bV (v2 fNotN (v2 fIxL (lVar 2) (vVar 5)) (vC .non))) (bV (v2 fIsN (v2 fIxL (lVar 2) (vVar 6)) (vC .non)))) (seqT (setT 2 (vVar 6) (vVar 4)) (seqT (asgV 3 (vC (.bl true))) skipT)) skipT) skipT)) skipT))) (seqT (retS 2) skipT)))))
theorem wPass_len {es : List O3} : ∀ {st : Here × Bool}, (es.foldl wStep st).1.length = st.1.length := by
  induction es with
  | nil => intro st; rfl
  | cons e es ih => intro st; rw [List.foldl_cons, ih, wStep_len]
theorem v_wet : ∀ ss r, ss.length = 2 → F_wet ss = some r → t_wet (postP r) (En0 ss 8) ∧ ∃ s, r = .inl s := by
  intro ss r hl h
  unfold F_wet at h
  split at h
  · rename_i s ds
    obtain ⟨es, e1, h'⟩ := Option.bind_eq_some_iff.mp h
    split at h'
    · rename_i hs
      have h'' := Option.some.inj h'
      subst h''
      cases dOs_some e1
      obtain ⟨s, rfl⟩ := Int.eq_ofNat_of_zero_le (show 0 ≤ s by omega)
      obtain ⟨h1, h2, h3⟩ := hs
      have he : ∀ e ∈ es, e.2.1 < s ∧ e.2.2 < s := fun e q => by have := h3 e q; omega
      refine ⟨?_, _, rfl⟩
      simp only [Int.toNat_natCast]
      refine ⟨_, vlc_map (h := fun (_ : Nat) => D.non) (rng1e (i := (s : Int)) rfl (by omega)) (by simp; omega) (fun k hk => lcS1 rfl rfl rfl), ?_⟩
      have eh0 : ((List.range ((s : Int)).toNat).map fun (_ : Nat) => D.non).set 0 (.int (-1)) = dHere (here0 s) := by
        rw [Int.toNat_natCast]
        unfold dHere here0
        rw [List.map_set, List.map_replicate]
        congr 1
        rw [List.map_const', List.length_range]
        rfl
      refine ⟨(by intro z; cases z), _, 0, 0, rfl, rfl, ?_, ?_⟩
      · exact ixN_nat (n := ((List.range ((s : Int)).toNat).map fun (_ : Nat) => D.non).length) (j := 0) (by simp; omega)
      refine ⟨_, rfl, ?_⟩
      refine ⟨fun m Γ => ∃ (here : Here) (b : Bool) (n : Nat) (v4 v5 v6 v7 : Option Sl), here.length = s ∧ (b = true → wGo es n here = wet s es ∧ dry here < n ∧ m = n) ∧ (b = false → here = wet s es) ∧
        Γ = [some (.val (.int (s : Int))), some (.val (.lst (dOs es))), some (.own .loc (dHere here)), some (.val (.bl b)), v4, v5, v6, v7], ⟨s + 1, here0 s, true, s + 1, none, none, none, none, here0_len, fun _ => ⟨rfl, ?_, rfl⟩, fun z => (nomatch z), ?_⟩, ?_⟩
      · have := dry_le (here := here0 s)
        rw [here0_len] at this
        omega
      · rw [← eh0]
        rfl
      rintro m Γ ⟨here, b, n, v4, v5, v6, v7, hl, hT, hF, rfl⟩
      refine ⟨b, rfl, fun hb => ?_, fun hb => ?_⟩
      · obtain ⟨q1, q2, q3⟩ := hT hb
        refine ⟨_, rfl, ?_⟩
        refine ⟨dOs es, rfl, ?_⟩
        refine loopT_inv (enc := dO3) (fun rest Γ => ∃ (here' : Here) (b' : Bool) (v4 v5 v6 v7 : Option Sl), here'.length = s ∧ (∀ e ∈ rest, e ∈ es) ∧ rest.foldl wStep (here', b') = es.foldl wStep (here, false) ∧
          Γ = [some (.val (.int (s : Int))), some (.val (.lst (dOs es))), some (.own .loc (dHere here')), some (.val (.bl b')), v4, v5, v6, v7]) ?_ ?_ es _ ⟨here, false, v4, v5, v6, v7, hl, fun _ h => h, rfl, rfl⟩
        · rintro ⟨k, a, g⟩ rest Γ kk ⟨here', b', v4, v5, v6, v7, hl', hr, q, rfl⟩ hk
          refine ⟨_, rfl, ?_⟩
          have hag : a < s ∧ g < s := he (k, a, g) (hr _ (by simp))
          have hr' : ∀ e ∈ rest, e ∈ es := fun e h => hr e (List.mem_cons_of_mem _ h)
          refine if_d (p := someAt here' a = true ∧ someAt here' g = false) (bAnd_d (bVe (wetE (here := here') (v := a) (v2e rfl rfl (atI_here (v := a) (by omega))))) fun _ => bVe (dryE (here := here') (v := g) (v2e rfl rfl (atI_here (v := g) (by omega))))) (fun c => ?_) (fun c => ?_)
          · refine ⟨(by intro z; cases z), .int (k : Int), (g : Int), g, rfl, rfl, ixN_nat (by simp [dHere]; omega), ?_⟩
            refine ⟨_, rfl, ?_⟩
            refine hk _ ⟨here'.set g (some (k : Int)), true, some (.val (dInt k)), some (.val (dInt a)), some (.val (dInt g)), v7, by simpa using hl', hr', ?_, ?_⟩
            · rw [← q, List.foldl_cons]
              congr 1
              unfold wStep
              rw [if_pos c]
            · show [_, _, some (Sl.own .loc ((dHere here').set g (.int (k : Int)))), _, _, _, _, _] = _
              unfold dHere
              rw [List.map_set]
              rfl
          · refine hk _ ⟨here', b', _, _, _, v7, hl', hr', ?_, rfl⟩
            rw [← q, List.foldl_cons]
            congr 1
            unfold wStep
            rw [if_neg c]
        · rintro Γ ⟨here', b', v4, v5, v6, v7, hl', _, q, rfl⟩
          have q : (here', b') = wPass es here := q
          cases n with
          | zero => omega
          | succ n =>
            have q1 : (if (wPass es here).2 = true then wGo es n (wPass es here).1 else (wPass es here).1) = wet s es := q1
            rw [← q] at q1
            refine ⟨n, by omega, here', b', n, v4, v5, v6, v7, hl', fun z => ?_, fun z => ?_, rfl⟩
            · rw [if_pos z] at q1
              refine ⟨q1, ?_, rfl⟩
              have := wFold_turn (es := es) (st := (here, false)) (fun e he' => by show _ < here.length; rw [hl]; exact (he e he').2) rfl
              rcases this with ⟨w1, _⟩ | ⟨_, w2⟩
              · have w1 : wPass es here = (here, false) := w1
                rw [← q] at w1
                cases w1
                cases z
              · have w2 : dry (wPass es here).1 < dry here := w2
                rw [← q] at w2
                simp only at w2
                omega
            · rw [if_neg (by simp [z])] at q1
              exact q1
      · cases hF hb
        exact ⟨_, rfl, rfl, rfl⟩
    · cases h'
  · cases h
def reachedOf (size : Nat) (ps : List P3) : List Nat := (List.range size).filter fun v => someAt (wet size (openOf ps)) v
def F_reached : FN
  | [.net _ s ds] => (unNet s ds).map fun x => .inl (.own .loc (dNs (reachedOf x.1 x.2)))
  | _ => none
theorem F_reachedE {m : Md} {s : Nat} {ps : List P3} (h : okNet s ps) : F_reached [.net m (s : Int) (dPs ps)] = some (.inl (.own .loc (dNs (reachedOf s ps)))) := by
  show (unNet _ _).map _ = _
  rw [unNet_of h]
  rfl
/-- reached: 0 net 1 here 2 place -/
def t_reached : VT := (seqT (asgV 1 (v1 slD (v1 inlO (xCall 2 F_wet (rV (v1 slD (v1 inlO (xMeth 1 F_size 0 rNil))) (rV (v1 slD (v1 inlO (xCall 1 F_open_pipes (rS 0 rNil)))) rNil)))))) (seqT (retO (vLc [2] (lRng1 (v1 slD (v1 inlO (xMeth 1 F_size 0 rNil)))) (gN 2) (bV (v2 fNotN (v2 fIx (vVar 1) (vVar 2)) (vC .non))) (vVar 2))) skipT))
theorem wetOf_e {s : Nat} {ps : List P3} (hn : okNet s ps) : F_wet [.val (.int (s : Int)), .val (.lst (dOs (openOf ps)))] = some (.inl (.own .loc (dHere (wet s (openOf ps))))) :=
  F_wetE hn.1 (by have := hn.2.1; omega) (openOf_lt hn.pip)
theorem opens_e {i : Nat} {m : Md} {Γ : En} {s : Nat} {ps : List P3} (hn : okNet s ps) (e : Γ[i]? = some (some (.net m (s : Int) (dPs ps)))) : xCall 1 F_open_pipes (rS i rNil) Γ = some (.inl (.own .loc (dOs (openOf ps)))) := by
  refine xc (as := [.s i]) (ss := [.net .ro (s : Int) (dPs ps)]) ?_ ⟨rfl, rfl⟩ ?_ (F_opens hn)
  · unfold rS
    rw [e]
    rfl
  · simp [arSls, arSl, e, roS]
theorem v_reached : ∀ ss r, ss.length = 1 → F_reached ss = some r → t_reached (postP r) (En0 ss 3) ∧ ∃ s, r = .inl s := by
  intro ss r hl h
  unfold F_reached at h
  split at h
  · rename_i m s ds
    obtain ⟨x, e1, e2⟩ := Option.map_eq_some_iff.mp h
    subst e2
    obtain ⟨rfl, rfl, hn⟩ := unNet_some e1
    obtain ⟨n, ps⟩ := x
    refine ⟨?_, _, rfl⟩
    have hn1 : n ≤ 12 := hn.2.1
    have hlen : (wet n (openOf ps)).length = n := (wet_ok hn.1 fun e he => (openOf_lt hn.pip e he).2).len
    refine ⟨_, v1e (v1e (xc (rVe rfl (rVe (v1e (v1e (opens_e hn rfl) rfl) rfl) rfl)) ⟨rfl, rfl⟩ rfl (wetOf_e hn)) rfl) rfl, ?_⟩
    refine ⟨_, vlc_filter (enc := dInt) (xs := List.range n) (p := fun v => someAt (wet n (openOf ps)) v) (h := dInt) (rng1e (i := (n : Int)) rfl (by omega)) (by simp; omega) (fun v hv => ?_), rfl⟩
    have hv : v < n := by simpa using hv
    refine lcS (b := someAt (wet n (openOf ps)) v) rfl (bVe ?_) fun _ => rfl
    have := wetE (Γ := [some (.net m (n : Int) (dPs ps)), some (.val (.lst (dHere (wet n (openOf ps))))), some (.val (dInt v))]) (here := wet n (openOf ps)) (v := v) (f := v2 fIx (vVar 1) (vVar 2)) (v2e rfl rfl (atI_here (by omega)))
    rw [show decide (someAt (wet n (openOf ps)) v = true) = someAt (wet n (openOf ps)) v by simp] at this
    exact this
  · cases h
def F_entering : FN
  | [.net _ s ds, .val (.lst es)] => (unNet s ds).bind fun x => (decs es : Option (List Nat)).map fun ns => .inl (.own .loc (dNs (lawInto x.2 ns)))
  | _ => none
theorem F_enteringE {m : Md} {s : Nat} {ps : List P3} {ns : List Nat} (h : okNet s ps) : F_entering [.net m (s : Int) (dPs ps), .val (.lst (dNs ns))] = some (.inl (.own .loc (dNs (lawInto ps ns)))) := by
  show (unNet _ _).bind _ = _
  rw [unNet_of h, Option.bind_some, decs_dNs]
  rfl
/-- entering: 0 net 1 places 2 pipe -/
def t_entering : VT := (seqT (retO (vLc [2] (v1 slL (v1 inlO (xCall 1 F_open_pipes (rS 0 rNil)))) (gN 2) (bAnd (bV (v2 (fIn true) (v2 fIx (vVar 2) (vC (.int 1))) (lVar 1))) (bV (v2 (fIn false) (v2 fIx (vVar 2) (vC (.int 2))) (lVar 1)))) (v2 fIx (vVar 2) (vC (.int 0))))) skipT)
theorem lawInto_o (ps : List P3) (ns : List Nat) : ((openOf ps).filter fun o => decide (o.2.1 ∉ ns ∧ o.2.2 ∈ ns)).map (fun o => dInt o.1) = dNs (lawInto ps ns) := by
  unfold openOf lawInto dNs
  rw [List.filter_map, List.map_map]
  rfl
theorem v_entering : ∀ ss r, ss.length = 2 → F_entering ss = some r → t_entering (postP r) (En0 ss 3) ∧ ∃ s, r = .inl s := by
  intro ss r hl h
  unfold F_entering at h
  split at h
  · rename_i m s ds es
    obtain ⟨x, e1, h'⟩ := Option.bind_eq_some_iff.mp h
    obtain ⟨ns, e2, e3⟩ := Option.map_eq_some_iff.mp h'
    subst e3
    obtain ⟨rfl, rfl, hn⟩ := unNet_some e1
    cases dNs_some e2
    obtain ⟨n, ps⟩ := x
    refine ⟨?_, _, rfl⟩
    have hl := openOf_len ps
    have hn1 : ps.length ≤ 60 := hn.2.2.2
    refine ⟨.own .loc (dNs (lawInto ps ns)), ?_, rfl⟩
    rw [← lawInto_o]
    refine vlc_filter (enc := dO3) (xs := openOf ps) (h := fun o => dInt o.1) (v1e (v1e (opens_e hn rfl) rfl) rfl) (by omega) fun o ho => ?_
    exact lcS rfl (bAnd_d (bVe (notInE (ixO1 (p := o) rfl) rfl)) fun _ => bVe (inE (ixO2 (p := o) rfl) rfl)) fun _ => rfl
  · cases h
theorem reached_law {size : Nat} {ps : List P3} (hn : okNet size ps) : reachedOf size ps = lawReached size ps := by
  have he : ∀ e ∈ openOf ps, e.2.2 < size := fun e he => (openOf_lt hn.pip e he).2
  have ee : edgesOf ps (lawOpen ps) = prs (openOf ps) := by
    unfold edgesOf prs openOf
    rw [List.map_map]
    rfl
  have he' : ∀ e ∈ prs (openOf ps), e.2 < size := fun e q => by
    obtain ⟨o, h1, rfl⟩ := List.mem_map.mp q
    exact he o h1
  unfold lawReached lawWet
  rw [ee]
  obtain ⟨nd, hlt⟩ := lw_nodup hn.1 he'
  have nd2 : (reachedOf size ps).Nodup := List.Pairwise.filter _ (List.pairwise_lt_range.imp fun h => Nat.ne_of_lt h)
  refine natSorted_eq (List.Perm.trans ((List.perm_ext_iff_of_nodup nd2 nd).mpr fun v => ?_) (srtN_perm _).symm) ?_ (srtN_pairwise _)
  · unfold reachedOf
    rw [List.mem_filter, List.mem_range, wet_iff hn.1 he, lw_iff hn.1 he']
    exact ⟨fun q => q.2, fun q => ⟨hlt v ((lw_iff hn.1 he').mpr q), q⟩⟩
  · exact (List.Pairwise.filter _ List.pairwise_lt_range).imp Nat.le_of_lt
theorem reachedOf_lt {size : Nat} {ps : List P3} : (∀ n ∈ reachedOf size ps, n < size) ∧ (reachedOf size ps).Pairwise (· < ·) ∧ (reachedOf size ps).length ≤ size := by
  refine ⟨fun n hn => ?_, List.Pairwise.filter _ List.pairwise_lt_range, ?_⟩
  · unfold reachedOf at hn
    rw [List.mem_filter, List.mem_range] at hn
    exact hn.1
  · unfold reachedOf
    exact Nat.le_trans (List.length_filter_le _ _) (by simp)
theorem lawInto_lt {ps : List P3} {ns : List Nat} : (∀ n ∈ lawInto ps ns, n < ps.length) ∧ (lawInto ps ns).Pairwise (· < ·) ∧ (lawInto ps ns).length ≤ ps.length := by
  refine ⟨fun n hn => ?_, List.Pairwise.filter _ (List.Pairwise.filter _ List.pairwise_lt_range), ?_⟩
  · unfold lawInto at hn
    exact (lawOpen_lt (List.mem_filter.mp hn).1).1
  · unfold lawInto
    exact Nat.le_trans (List.length_filter_le _ _) (lawOpen_len ps)

/-! ### one pipe turned, or one more laid -/
def turnOne (size : Nat) (ps : List P3) (c : Int) : List P3 :=
  if c % 2 = 1 ∧ 1 < size ∧ ps.length < 60 then ps ++ [((pipeBy (c / 2) size).1, (pipeBy (c / 2) size).2.1, true)]
  else if 0 < ps.length then ps.set (c / 2 % ps.length).toNat ((pAt ps (c / 2 % ps.length).toNat).1, (pAt ps (c / 2 % ps.length).toNat).2.1, !(pAt ps (c / 2 % ps.length).toNat).2.2)
  else ps
theorem turnOne_ok {size : Nat} {ps : List P3} {c : Int} (h : okNet size ps) : okNet size (turnOne size ps c) := by
  obtain ⟨h1, h2, h3, h4⟩ := h
  have h3 := okPs_iff.mp h3
  unfold turnOne
  split
  · rename_i hc
    refine ⟨h1, h2, okPs_iff.mpr fun p hp => ?_, by simp; omega⟩
    rcases List.mem_append.mp hp with q | q
    · exact h3 p q
    · simp at q
      subst q
      have := pipeBy_ok (c := c / 2) (s := size) (by omega)
      exact this
  · split
    · rename_i hc
      refine ⟨h1, h2, okPs_iff.mpr fun p hp => ?_, by simpa using h4⟩
      rcases List.mem_or_eq_of_mem_set hp with q | q
      · exact h3 p q
      · subst q
        have hk : (c / 2 % (ps.length : Int)).toNat < ps.length := by
          have a1 : 0 ≤ c / 2 % (ps.length : Int) := Int.emod_nonneg _ (by omega)
          have a2 : c / 2 % (ps.length : Int) < ps.length := Int.emod_lt_of_pos _ (by omega)
          omega
        have := h3 _ (pAt_mem hk)
        exact this
    · exact ⟨h1, h2, okPs_iff.mpr h3, h4⟩
def G_law_turn_one : FM
  | [.net .mut s ds, .val (.int s'), .own .mut ds', .val (.int c)] => (unNet s ds).bind fun x => (decs ds' : Option (List P3)).bind fun ps' => if s' = s ∧ ps' = x.2 then
      some (.inl (.val .non), [.net .mut s (dPs (turnOne x.1 x.2 c)), .val (.int s'), .own .mut (dPs (turnOne x.1 x.2 c)), .val (.int c)]) else none
  | _ => none
theorem G_turnOne {s : Nat} {ps : List P3} {c : Int} (h : okNet s ps) : G_law_turn_one [.net .mut (s : Int) (dPs ps), .val (.int (s : Int)), .own .mut (dPs ps), .val (.int c)] =
    some (.inl (.val .non), [.net .mut (s : Int) (dPs (turnOne s ps c)), .val (.int (s : Int)), .own .mut (dPs (turnOne s ps c)), .val (.int c)]) := by
  show (unNet _ _).bind _ = _
  rw [unNet_of h, Option.bind_some, decs_dPs, Option.bind_some]
  exact ite_some ⟨rfl, rfl⟩
theorem G_shutE {s : Nat} {ps : List P3} {k : Nat} {p : P3} (h : ps[k]? = some p) : G_shut [.net .mut (s : Int) (dPs ps), .val (.int (k : Int))] = some (.inl (.val .non), [.net .mut (s : Int) (dPs (ps.set k (p.1, p.2.1, false))), .val (.int (k : Int))]) := by
  unfold G_shut
  simp only
  rw [turnPs_ok h]
  rfl
theorem G_reopenE {s : Nat} {ps : List P3} {k : Nat} {p : P3} (h : ps[k]? = some p) : G_reopen [.net .mut (s : Int) (dPs ps), .val (.int (k : Int))] = some (.inl (.val .non), [.net .mut (s : Int) (dPs (ps.set k (p.1, p.2.1, true))), .val (.int (k : Int))]) := by
  unfold G_reopen
  simp only
  rw [turnPs_ok h]
  rfl
/-- _law_turn_one: 0 net 1 size 2 pipes 3 cell 4 pipe 5 number 6 old -/
def t_law_turn_one : VT := (seqT (ifT (bAnd (bV (v2 fEq (v2 fMod (vVar 3) (vC (.int 2))) (vC (.int 1)))) (bAnd (bV (v2 fGt (vVar 1) (vC (.int 1)))) (bV (v2 fLt (v1 fLenL (lVar 2)) (vC (.int 60)))))) (seqT (asgV 4 (v1 slD (v1 inlO (xCall 2 F_law_pipe_by (rV (v2 fDiv (vVar 3) (vC (.int 2))) (rV (vVar 1) rNil)))))) (seqT (nmT none 3 G_lay 0 (rV (v2 fIx (vVar 4) (vC (.int 0))) (rV (v2 fIx (vVar 4) (vC (.int 1))) rNil))) (seqT (appT 2 (vTup (aCons (v2 fIx (vVar 4) (vC (.int 0))) (aCons (v2 fIx (vVar 4) (vC (.int 1))) (aCons (vC (.bl true)) aNil))))) skipT))) (seqT (ifT (bV (v2 fGt (v1 fLenL (lVar 2)) (vC (.int 0)))) (seqT (asgV 5 (v2 fMod (v2 fDiv (vVar 3) (vC (.int 2))) (v1 fLenL (lVar 2)))) (seqT (asgV 6 (v2 fIxL (lVar 2) (vVar 5))) (seqT (setT 2 (vVar 5) (vTup (aCons (v2 fIx (vVar 6) (vC (.int 0))) (aCons (v2 fIx (vVar 6) (vC (.int 1))) (aCons (v1 notD (v2 fIx (vVar 6) (vC (.int 2)))) aNil))))) (seqT (ifT (bV (v2 fIx (vVar 6) (vC (.int 2)))) (seqT (nmT none 2 G_shut 0 (rV (vVar 5) rNil)) skipT) (seqT (nmT none 2 G_reopen 0 (rV (vVar 5) rNil)) skipT)) skipT)))) skipT) skipT)) skipT)
theorem v_law_turn_one : ∀ ss r ss', ss.length = 4 → G_law_turn_one ss = some (r, ss') → t_law_turn_one (postM r ss ss') (En0 ss 7) := by
  intro ss r ss' hl h
  unfold G_law_turn_one at h
  split at h
  · rename_i s ds s' ds' c
    obtain ⟨x, e1, h1⟩ := Option.bind_eq_some_iff.mp h
    obtain ⟨ps', e2, h2⟩ := Option.bind_eq_some_iff.mp h1
    split at h2
    · rename_i hc
      have h3 := Option.some.inj h2
      cases h3
      obtain ⟨rfl, rfl, hn⟩ := unNet_some e1
      cases dPs_some e2
      obtain ⟨rfl, rfl⟩ := hc
      obtain ⟨n, ps⟩ := x
      have d2 : fDiv (.int c) (.int 2) = _ := fDiv_pos (by omega) (by omega)
      have m2 : fMod (.int c) (.int 2) = _ := fMod_pos (by omega)
      have ok := turnOne_ok (c := c) hn
      refine if_d (p := c % 2 = 1 ∧ 1 < n ∧ ps.length < 60) (bAnd_d (bVe (v2e (v2e rfl rfl m2) rfl rfl)) fun _ => bAnd_d (bVe (v2e rfl rfl (by simp [fGt, i2, tt2]; omega))) fun _ => bVe (v2e (lenPs rfl) rfl (by simp [fLt, i2, tt2]; omega))) (fun q => ?_) (fun q => ?_)
      · have et : turnOne n ps c = ps ++ [((pipeBy (c / 2) n).1, (pipeBy (c / 2) n).2.1, true)] := by unfold turnOne; rw [if_pos q]
        have hP := pipeBy_ok (c := c / 2) (s := n) (by omega)
        have hn2 := hn.2.1
        simp only at hn2
        refine ⟨_, v1e (v1e (xc (rVe (v2e rfl rfl d2) rfl) ⟨rfl, rfl⟩ rfl (F_pipeBy (by omega))) rfl) rfl, ?_⟩
        refine ⟨rfl, _, _, _, _, rfl, ⟨rfl, rfl⟩, rfl, lay_ok hP.1 hP.2.1 hP.2.2 q.2.2, ?_⟩
        refine ⟨(by intro z; cases z), dP ((pipeBy (c / 2) n).1, (pipeBy (c / 2) n).2.1, true), rfl, by simp [dPs]; omega, ?_⟩
        refine ⟨rfl, .inl ⟨rfl, ?_⟩, .inr ⟨rfl, rfl⟩, .inl ⟨rfl, ?_⟩, .inr ⟨rfl, rfl⟩, trivial⟩
        · rw [et]; rfl
        · rw [et]
          simp [dPs, putA, putGo]
      · refine if_d (p := 0 < ps.length) (bVe (v2e (lenPs rfl) rfl (by simp [fGt, i2, tt2]))) (fun q2 => ?_) (fun q2 => ?_)
        · have a1 : 0 ≤ c / 2 % (ps.length : Int) := Int.emod_nonneg _ (by omega)
          have a2 : c / 2 % (ps.length : Int) < ps.length := Int.emod_lt_of_pos _ (by omega)
          obtain ⟨k, hk⟩ := Int.eq_ofNat_of_zero_le a1
          have em : fMod (.int (c / 2)) (.int (ps.length : Int)) = some (.int (k : Int)) := by rw [fMod_pos (by omega), hk]
          have et : turnOne n ps c = ps.set k ((pAt ps k).1, (pAt ps k).2.1, !(pAt ps k).2.2) := by
            unfold turnOne
            rw [if_neg q, if_pos q2, hk, Int.toNat_natCast]
          have hkl : k < ps.length := by omega
          refine ⟨.int (k : Int), v2e (v2e rfl rfl d2) (lenPs rfl) em, ?_⟩
          refine ⟨dP (pAt ps k), v2e rfl rfl (atI_dPs hkl), ?_⟩
          refine ⟨(by intro z; cases z), dP ((pAt ps k).1, (pAt ps k).2.1, !(pAt ps k).2.2), (k : Int), k, rfl, rfl, ixN_nat (by simp [dPs]; omega), ?_⟩
          have es : (dPs ps).set k (dP ((pAt ps k).1, (pAt ps k).2.1, !(pAt ps k).2.2)) = dPs (turnOne n ps c) := by
            rw [et]
            unfold dPs
            rw [List.map_set]
          refine if_b (b := (pAt ps k).2.2) (bVe (ixP2 (p := pAt ps k) rfl)) (fun b => ?_) (fun b => ?_)
          · rw [b] at et
            refine ⟨rfl, _, _, _, _, rfl, ⟨rfl, rfl⟩, rfl, G_shutE (pAt_some hkl), ?_⟩
            refine ⟨rfl, .inl ⟨rfl, ?_⟩, .inr ⟨rfl, rfl⟩, .inl ⟨rfl, ?_⟩, .inr ⟨rfl, rfl⟩, trivial⟩
            · rw [et]; rfl
            · rw [← es]; rfl
          · rw [b] at et
            refine ⟨rfl, _, _, _, _, rfl, ⟨rfl, rfl⟩, rfl, G_reopenE (pAt_some hkl), ?_⟩
            refine ⟨rfl, .inl ⟨rfl, ?_⟩, .inr ⟨rfl, rfl⟩, .inl ⟨rfl, ?_⟩, .inr ⟨rfl, rfl⟩, trivial⟩
            · rw [et]; rfl
            · rw [← es]; rfl
        · have et : turnOne n ps c = ps := by unfold turnOne; rw [if_neg q, if_neg q2]
          rw [et]
          exact ⟨rfl, .inl ⟨rfl, rfl⟩, .inr ⟨rfl, rfl⟩, .inl ⟨rfl, rfl⟩, .inr ⟨rfl, rfl⟩, trivial⟩
    · cases h2
  · cases h
end Z

set_option maxRecDepth 100000
namespace Z
open PySem PySem.Spec PyProof.Rows L2

/-! ### the third law -/
theorem vFrzE {f : VF} {Γ : En} {d : D} (h : f (frz Γ) = some d) (hs : scalD d = true) : vFrz f Γ = some d := by unfold vFrz; rw [h]; show (if _ then _ else _) = _; rw [if_pos hs]
def F_law_right_k03 : FN
  | [.net _ s ds, .val (.int s'), .val (.lst ds'), .val (.lst pl)] => (unNet s ds).bind fun x => (decs ds' : Option (List P3)).bind fun ps' => (decs pl : Option (List Nat)).bind fun ns =>
    if s' = s ∧ ps' = x.2 then some (.inl (.val (.bl true))) else none
  | _ => none
theorem F_right03 {m : Md} {s : Nat} {ps : List P3} {ns : List Nat} (h : okNet s ps) : F_law_right_k03 [.net m (s : Int) (dPs ps), .val (.int (s : Int)), .val (.lst (dPs ps)), .val (.lst (dNs ns))] = some (.inl (.val (.bl true))) := by
  show (unNet _ _).bind _ = _
  rw [unNet_of h, Option.bind_some, decs_dPs, Option.bind_some, decs_dNs, Option.bind_some]
  exact ite_some ⟨rfl, rfl⟩
/-- _law_right: 0 net 1 size 2 pipes 3 places 4 found 5 handed 6 into 7 good -/
def t_law_right_k03 : VT := (seqT (asgO 4 (v1 inlO (xCall 1 F_reached (rS 0 rNil)))) (seqT (asgV 5 (v1 slD (v1 fList (lVar 3)))) (seqT (asgO 6 (v1 inlO (xCall 2 F_entering (rS 0 (rV (vVar 5) rNil))))) (seqT (ifT (bFrz (bOr (bNot (bV (v1 slD (v1 inlO (xCall 2 F_law_rising (rV (vVar 4) (rV (vVar 1) rNil))))))) (bOr (bNot (bV (v1 slD (v1 inlO (xCall 2 F_law_rising (rV (vVar 6) (rV (v1 fLenL (lVar 2)) rNil))))))) (bV (v2 fNe (vVar 5) (vVar 3)))))) (seqT (retV (vC (.bl false))) skipT) skipT) (seqT (asgV 7 (vFrz (vAnd (v2 fEq (vVar 4) (v1 slD (v1 inlO (xCall 2 F_law_reached (rV (vVar 1) (rV (vVar 2) rNil)))))) (v2 fEq (vVar 6) (v1 slD (v1 inlO (xCall 2 F_law_into (rV (vVar 2) (rV (vVar 3) rNil))))))))) (seqT (appT 4 (vC (.int 0))) (seqT (appT 6 (vC (.int 0))) (seqT (retV (vVar 7)) skipT))))))))
theorem v_law_right_k03 : ∀ ss r, ss.length = 4 → F_law_right_k03 ss = some r → t_law_right_k03 (postP r) (En0 ss 8) ∧ ∃ s, r = .inl s := by
  intro ss r hl h
  unfold F_law_right_k03 at h
  split at h
  · rename_i m s ds s' ds' pl
    obtain ⟨x, e1, h1⟩ := Option.bind_eq_some_iff.mp h
    obtain ⟨ps', e2, h2⟩ := Option.bind_eq_some_iff.mp h1
    obtain ⟨ns, e3, h3⟩ := Option.bind_eq_some_iff.mp h2
    split at h3
    · rename_i hc
      have h4 := Option.some.inj h3
      subst h4
      obtain ⟨rfl, rfl, hn⟩ := unNet_some e1
      cases dPs_some e2
      cases dNs_some e3
      obtain ⟨rfl, rfl⟩ := hc
      obtain ⟨n, ps⟩ := x
      refine ⟨?_, _, rfl⟩
      simp only at hn ⊢
      have hn1 := hn.2.1
      have hn2 := hn.2.2.2
      obtain ⟨r1, r2, r3⟩ := reachedOf_lt (size := n) (ps := ps)
      obtain ⟨i1, i2', i3⟩ := lawInto_lt (ps := ps) (ns := ns)
      refine ⟨.own .loc (dNs (reachedOf n ps)), v1e (xc rfl ⟨rfl, rfl⟩ rfl (F_reachedE hn)) rfl, ?_⟩
      refine ⟨_, rfl, ?_⟩
      refine ⟨.own .loc (dNs (lawInto ps ns)), v1e (xc rfl ⟨rfl, rfl⟩ rfl (F_enteringE hn)) rfl, ?_⟩
      refine if_f ?_ ?_
      · refine dec_f (p := (¬ True) ∨ (¬ True) ∨ False) (by simp) (bOr_d (bNot_d (bVe (v1e (v1e (xc rfl ⟨rfl, rfl⟩ rfl (F_rising r1 r2 (by omega))) rfl) rfl))) fun _ => bOr_d (bNot_d (bVe (v1e (v1e (xc (rVe rfl (rVe (lenPs rfl) rfl)) ⟨rfl, rfl⟩ rfl (F_rising i1 i2' (by omega))) rfl) rfl))) fun _ => bVe ?_)
        exact v2e rfl rfl (fNe_refl (shaped_ns ns))
      · refine ⟨.bl true, ?_, ?_⟩
        · exact vFrzE (vAnd_t (v2e rfl (v1e (v1e (xc rfl ⟨rfl, rfl⟩ rfl (F_reachedL (ps := ps) (by omega) (by omega))) rfl) rfl) (by rw [← reached_law hn]; exact fEq_refl (shaped_ns _)))
            (v2e rfl (v1e (v1e (xc rfl ⟨rfl, rfl⟩ rfl (F_into (ps := ps) (ns := ns) (by omega))) rfl) rfl) (fEq_refl (shaped_ns _)))) rfl
        · refine ⟨(by intro z; cases z), _, rfl, by simp [dNs]; omega, ?_⟩
          refine ⟨(by intro z; cases z), _, rfl, by simp [dNs]; omega, ?_⟩
          exact ⟨_, rfl, rfl⟩
    · cases h3
  · cases h
/-- the start of a law: a net by hand -/
theorem netBy_start {ns : List Int} {small many first : Nat} (h : 0 < small) (h2 : small ≤ 12) (h3 : many ≤ 55) : okNet (sizeOf ns small) (pipesBy ns first (manyOf ns many) (sizeOf ns small)) := by
  have h4 := sizeOf_le (ns := ns) h h2
  have h5 := manyOf_le (ns := ns) h3
  exact ⟨h4.1, h4.2, okPs_iff.mpr pipesBy_ok, Nat.le_trans pipesBy_len (by omega)⟩
def F_law_k03 : FN
  | [.val (.scr _)] => some (.inl (.val (.bl true)))
  | _ => none
theorem F_law_k03_t (ns : List Int) (_ : ns.length ≤ 63) : F_law_k03 [.val (.scr ns)] = some (.inl (.val (.bl true))) := rfl
/-- law: 0 script 1 size 2 pipes 3 net 4 digits 5 places 6 place -/
def t_law_k03 : VT := (seqT (asgV 1 (v1 slD (v1 inlO (xCall 2 F_law_size_of (rV (vVar 0) (rV (vC (.int 7)) rNil)))))) (seqT (asgO 2 (v1 inlO (xCall 4 F_law_pipes_by (rV (vVar 0) (rV (vC (.int 6)) (rV (v1 slD (v1 inlO (xCall 2 F_law_many_of (rV (vVar 0) (rV (vC (.int 12)) rNil))))) (rV (vVar 1) rNil))))))) (seqT (asgO 3 (v1 inlO (xCall 2 F_law_net_by (rV (vVar 1) (rS 2 rNil))))) (seqT (asgV 4 (v2 fMod (v1 slD (v1 inlO (xCall 2 F_law_cell_at (rV (vVar 0) (rV (vC (.int 2)) rNil))))) (vC (.int 531441)))) (seqT (asgO 5 (oLst aNil)) (seqT (forT (lRng1 (vVar 1)) (gN 6) (seqT (ifT (bV (v2 fEq (v2 fMod (vVar 4) (vC (.int 3))) (vC (.int 1)))) (seqT (appT 5 (vVar 6)) skipT) skipT) (seqT (asgV 4 (v2 fDiv (vVar 4) (vC (.int 3)))) skipT))) (seqT (ifT (bV (v2 fEq (v2 fMod (v1 slD (v1 inlO (xCall 2 F_law_cell_at (rV (vVar 0) (rV (vC (.int 3)) rNil))))) (vC (.int 2))) (vC (.int 1)))) (seqT (asgO 5 (v1 fRev (lVar 5))) skipT) skipT) (seqT (ifT (bFrz (bOr (bNot (bV (v1 slD (v1 inlO (xCall 4 F_law_right_k03 (rS 3 (rV (vVar 1) (rV (vVar 2) (rV (vVar 5) rNil))))))))) (bNot (bV (v1 slD (v1 inlO (xCall 4 F_law_right_k03 (rS 3 (rV (vVar 1) (rV (vVar 2) (rV (vVar 5) rNil))))))))))) (seqT (retV (vC (.bl false))) skipT) skipT) (seqT (cmT none 4 G_law_turn_one (rS 3 (rV (vVar 1) (rS 2 (rV (v1 slD (v1 inlO (xCall 2 F_law_cell_at (rV (vVar 0) (rV (vC (.int 4)) rNil))))) rNil))))) (seqT (retV (vFrz (v1 slD (v1 inlO (xCall 4 F_law_right_k03 (rS 3 (rV (vVar 1) (rV (vVar 2) (rV (vVar 5) rNil))))))))) skipT))))))))))
theorem v_law_k03 : ∀ ss r, ss.length = 1 → F_law_k03 ss = some r → t_law_k03 (postP r) (En0 ss 7) ∧ ∃ s, r = .inl s := by
  intro ss r hl h
  unfold F_law_k03 at h
  split at h
  · rename_i ns
    have h1 := Option.some.inj h
    subst h1
    refine ⟨?_, _, rfl⟩
    have hs := sizeOf_le (ns := ns) (k := 7) (by omega) (by omega)
    have hm := manyOf_le (ns := ns) (k := 12) (by omega)
    have hn := netBy_start (ns := ns) (small := 7) (many := 12) (first := 6) (by omega) (by omega) (by omega)
    generalize hps : pipesBy ns 6 (manyOf ns 12) (sizeOf ns 7) = ps at hn
    refine ⟨_, v1e (v1e (xc rfl ⟨rfl, rfl⟩ rfl (F_sizeOf (k := 7) (by omega))) rfl) rfl, ?_⟩
    generalize sizeOf ns 7 = n at *
    refine ⟨.own .loc (dPs ps), v1e (xc (rVe rfl (rVe rfl (rVe (v1e (v1e (xc rfl ⟨rfl, rfl⟩ rfl (F_manyOf (k := 12))) rfl) rfl) (rVe rfl rfl)))) ⟨rfl, rfl⟩ rfl (F_pipesBy (f := 6) (m := manyOf ns 12) (s := n) (by omega) (by omega))) (by rw [hps]; rfl), ?_⟩
    refine ⟨.net .loc (n : Int) (dPs ps), v1e (xc rfl ⟨rfl, rfl⟩ rfl (F_netBy rfl hn)) rfl, ?_⟩
    refine ⟨_, v2e (v1e (v1e (xc rfl ⟨rfl, rfl⟩ rfl (F_cell (k := 2))) rfl) rfl) rfl (fMod_pos (by omega)), ?_⟩
    refine ⟨_, rfl, ?_⟩
    refine ⟨_, rng1e (i := (n : Int)) rfl (by omega), ?_⟩
    rw [Int.toNat_natCast]
    refine loopT_inv (enc := dInt) (fun rest Γ => ∃ (pl : List Nat) (dg : Int) (v6 : Option Sl), pl.length + rest.length ≤ n ∧ Γ = [some (.val (.scr ns)), some (.val (.int (n : Int))), some (.own .loc (dPs ps)), some (.net .loc (n : Int) (dPs ps)), some (.val (.int dg)), some (.own .loc (dNs pl)), v6]) ?_ ?_ _ _
      ⟨[], cellAt ns 2 % 531441, none, by simp, rfl⟩
    · rintro v rest Γ k ⟨pl, dg, v6, hpl, rfl⟩ hk
      refine ⟨_, rfl, ?_⟩
      simp only [List.length_cons] at hpl
      refine if_d (p := dg % 3 = 1) (bVe (v2e (v2e rfl rfl (fMod_pos (by omega))) rfl rfl)) (fun c => ?_) (fun c => ?_)
      · refine ⟨(by intro z; cases z), dInt v, rfl, by simp [dNs]; omega, ?_⟩
        refine ⟨_, v2e rfl rfl (fDiv_pos (by omega) (by omega)), ?_⟩
        refine hk _ ⟨pl ++ [v], dg / 3, some (.val (dInt v)), by simp; omega, ?_⟩
        show [_, _, _, _, _, some (Sl.own .loc (dNs pl ++ [dInt v])), _] = _
        unfold dNs
        rw [List.map_append]
        rfl
      · refine ⟨_, v2e rfl rfl (fDiv_pos (by omega) (by omega)), ?_⟩
        exact hk _ ⟨pl, dg / 3, some (.val (dInt v)), by omega, rfl⟩
    · rintro Γ ⟨pl, dg, v6, hpl, rfl⟩
      have rest : ∀ pl : List Nat, (seqT (ifT (bFrz (bOr (bNot (bV (v1 slD (v1 inlO (xCall 4 F_law_right_k03 (rS 3 (rV (vVar 1) (rV (vVar 2) (rV (vVar 5) rNil))))))))) (bNot (bV (v1 slD (v1 inlO (xCall 4 F_law_right_k03 (rS 3 (rV (vVar 1) (rV (vVar 2) (rV (vVar 5) rNil))))))))))) (seqT (retV (vC (.bl false))) skipT) skipT) (seqT (cmT none 4 G_law_turn_one (rS 3 (rV (vVar 1) (rS 2 (rV (v1 slD (v1 inlO (xCall 2 F_law_cell_at (rV (vVar 0) (rV (vC (.int 4)) rNil))))) rNil))))) (seqT (retV (vFrz (v1 slD (v1 inlO (xCall 4 F_law_right_k03 (rS 3 (rV (vVar 1) (rV (vVar 2) (rV (vVar 5) rNil))))))))) skipT))) (postP (.inl (.val (.bl true))))
          [some (.val (.scr ns)), some (.val (.int (n : Int))), some (.own .loc (dPs ps)), some (.net .loc (n : Int) (dPs ps)), some (.val (.int dg)), some (.own .loc (dNs pl)), v6] := fun pl => by
        refine if_f (dec_f (p := (¬ True) ∨ (¬ True)) (by simp) (bOr_d (bNot_d (bVe (v1e (v1e (xc rfl ⟨rfl, rfl⟩ rfl (F_right03 hn)) rfl) rfl))) fun _ => bNot_d (bVe (v1e (v1e (xc rfl ⟨rfl, rfl⟩ rfl (F_right03 hn)) rfl) rfl)))) ?_
        have hn' := turnOne_ok (c := cellAt ns 4) hn
        refine ⟨_, _, _, _, rfl, ⟨rfl, rfl⟩, rfl, G_turnOne (c := cellAt ns 4) hn, ?_⟩
        exact ⟨.bl true, vFrzE (v1e (v1e (xc rfl ⟨rfl, rfl⟩ rfl (F_right03 hn')) rfl) rfl) rfl, rfl⟩
      refine if_d (p := cellAt ns 3 % 2 = 1) (bVe (v2e (v2e (v1e (v1e (xc rfl ⟨rfl, rfl⟩ rfl (F_cell (k := 3))) rfl) rfl) rfl (fMod_pos (by omega))) rfl rfl)) (fun c => ?_) (fun c => ?_)
      · refine ⟨_, rfl, ?_⟩
        have := rest pl.reverse
        unfold dNs at this ⊢
        rw [List.map_reverse] at this
        exact this
      · exact rest pl
  · cases h
end Z

set_option maxRecDepth 100000
namespace Z
open PySem PySem.Spec PyProof.Rows L2

/-! ### a way -/
inductive Clm (here : Here) (ps : List P3) : Nat → List Nat → Prop
  | zero : Clm here ps 0 []
  | step {v m : Nat} {l : List Nat} : v ≠ 0 → hAt here v = some (m : Int) → m < ps.length → v < here.length → Clm here ps (pAt ps m).1 l → Clm here ps v (l ++ [m])
theorem Clm.det {here : Here} {ps : List P3} {v : Nat} {l : List Nat} (h : Clm here ps v l) : ∀ {l' : List Nat}, Clm here ps v l' → l = l' := by
  induction h with
  | zero =>
    intro l' h'
    cases h' with
    | zero => rfl
    | step h0 => exact absurd rfl h0
  | step h0 h1 h2 h3 h4 ih =>
    intro l' h'
    cases h' with
    | zero => exact absurd rfl h0
    | step g0 g1 g2 g3 g4 =>
      rw [h1] at g1
      have := Option.some.inj g1
      have : _ = _ := Int.ofNat.inj this
      subst this
      rw [ih g4]
/-- where a row of pipes leads to -/
def chain (ps : List P3) : Nat → List Nat → Option Nat
  | u, [] => some u
  | u, k :: ks => if (pAt ps k).2.2 = true ∧ (pAt ps k).1 = u then chain ps (pAt ps k).2.1 ks else none
theorem chain_snoc {ps : List P3} {m : Nat} : ∀ {l : List Nat} {u w : Nat}, chain ps u l = some w → (pAt ps m).2.2 = true → (pAt ps m).1 = w → chain ps u (l ++ [m]) = some (pAt ps m).2.1
  | [], u, w, h, h1, h2 => by
    cases h
    show (if _ then _ else _) = _
    rw [if_pos ⟨h1, h2⟩]
    rfl
  | k :: l, u, w, h, h1, h2 => by
    show (if _ then _ else _) = _
    unfold chain at h
    split at h
    · rename_i c
      rw [if_pos c]
      exact chain_snoc h h1 h2
    · cases h
/-- a way by open pipes, none twice -/
structure IsWay (ps : List P3) (v : Nat) (l : List Nat) : Prop where
  ch : chain ps 0 l = some v
  nd : l.Nodup
  lt : ∀ m ∈ l, m < ps.length
theorem IsWay.len {ps : List P3} {v : Nat} {l : List Nat} (h : IsWay ps v l) : l.length ≤ ps.length := nodup_lt_len h.nd h.lt
theorem climb_ok {ps : List P3} {size : Nat} {here : Here} (W : WOk (openOf ps) size here) {v : Nat} (hv : someAt here v = true) : ∃ l, Clm here ps v l ∧ IsWay ps v l := by
  obtain ⟨rk, par⟩ := W.par
  have key : ∀ (n v : Nat), rk v < n → someAt here v = true → ∃ l, Clm here ps v l ∧ IsWay ps v l ∧ ∀ m ∈ l, rk (pAt ps m).2.1 ≤ rk v := by
    intro n
    induction n with
    | zero => intro v h; omega
    | succ n ih =>
      intro v h hv
      by_cases v0 : v = 0
      · subst v0
        exact ⟨[], .zero, ⟨rfl, .nil, fun m h => (nomatch h)⟩, fun m h => (nomatch h)⟩
      · obtain ⟨x, hx⟩ := someAt_iff.mp hv
        obtain ⟨s, ⟨m, rfl, hm⟩, hs, hr⟩ := par v x v0 hx
        obtain ⟨k, hk1, hk2, hk3⟩ := openOf_mem.mp hm
        cases hk3
        obtain ⟨l, c, w, q⟩ := ih _ (by omega) hs
        refine ⟨l ++ [m], .step v0 (by unfold hAt; rw [hx]; rfl) hk1 ((List.getElem?_eq_some_iff.mp hx).1) c, ⟨chain_snoc w.ch hk2 rfl, ?_, ?_⟩, ?_⟩
        · rw [List.nodup_append]
          refine ⟨w.nd, by simp, fun a ha b hb => ?_⟩
          simp at hb
          subst hb
          intro z
          subst z
          have := q a ha
          omega
        · intro a ha
          rcases List.mem_append.mp ha with z | z
          · exact w.lt a z
          · simp at z
            subst z
            exact hk1
        · intro a ha
          rcases List.mem_append.mp ha with z | z
          · have := q a z
            omega
          · simp at z
            subst z
            exact Nat.le_refl _
  obtain ⟨l, h1, h2, _⟩ := key (rk v + 1) v (by omega) hv
  exact ⟨l, h1, h2⟩
open Classical in
noncomputable def wayOf (size : Nat) (ps : List P3) (v : Nat) : List Nat := if h : ∃ l, Clm (wet size (openOf ps)) ps v l then Classical.choose h else []
theorem wayOf_ok {size : Nat} {ps : List P3} (hn : okNet size ps) {v : Nat} (hv : someAt (wet size (openOf ps)) v = true) : Clm (wet size (openOf ps)) ps v (wayOf size ps v) ∧ IsWay ps v (wayOf size ps v) := by
  obtain ⟨l, h1, h2⟩ := climb_ok (wet_ok hn.1 fun e he => (openOf_lt hn.pip e he).2) hv
  have h : ∃ l, Clm (wet size (openOf ps)) ps v l := ⟨l, h1⟩
  unfold wayOf
  rw [dif_pos h]
  have := Classical.choose_spec h
  refine ⟨this, ?_⟩
  rw [this.det h1]
  exact h2
noncomputable def wayR (size : Nat) (ps : List P3) (v : Nat) : D := if someAt (wet size (openOf ps)) v = true then .lst (dNs (wayOf size ps v)) else .non
noncomputable def F_way : FN
  | [.net _ s ds, .val (.int p)] => (unNet s ds).map fun x => if p < 0 ∨ (x.1 : Int) ≤ p then .inr .place else .inl (.val (wayR x.1 x.2 p.toNat))
  | _ => none
theorem F_wayE {m : Md} {s : Nat} {ps : List P3} {p : Int} (h : okNet s ps) : F_way [.net m (s : Int) (dPs ps), .val (.int p)] = some (if p < 0 ∨ (s : Int) ≤ p then .inr .place else .inl (.val (wayR s ps p.toNat))) := by
  show (unNet _ _).map _ = _
  rw [unNet_of h]
  rfl
theorem F_way_no {m : Md} {s : Nat} {ps : List P3} {p : Int} (h : okNet s ps) (hp : p < 0 ∨ (s : Int) ≤ p) : F_way [.net m (s : Int) (dPs ps), .val (.int p)] = some (.inr .place) := by rw [F_wayE h, if_pos hp]
theorem F_way_yes {m : Md} {s v : Nat} {ps : List P3} (h : okNet s ps) (hp : v < s) : F_way [.net m (s : Int) (dPs ps), .val (.int (v : Int))] = some (.inl (.val (wayR s ps v))) := by rw [F_wayE h, if_neg (by omega), Int.toNat_natCast]
theorem rSe {i : Nat} {Γ : En} {s : Sl} {fs : VA} {as : List Ar} (h : Γ[i]? = some (some s)) (h2 : fs Γ = some as) : rS i fs Γ = some (.s i :: as) := by
  unfold rS
  rw [h2, Option.bind_some, h]
/-- way: 0 net 1 place 2 here 3 laid 4 found -/
def t_way : VT := (seqT (exprX (xMeth 2 F_see_place 0 (rV (vVar 1) rNil))) (seqT (asgV 2 (v1 slD (v1 inlO (xCall 2 F_wet (rV (v1 slD (v1 inlO (xMeth 1 F_size 0 rNil))) (rV (v1 slD (v1 inlO (xCall 1 F_open_pipes (rS 0 rNil)))) rNil)))))) (seqT (ifT (bV (v2 fIsN (v2 fIx (vVar 2) (vVar 1)) (vC .non))) (seqT (retV (vC .non)) skipT) skipT) (seqT (asgV 3 (v1 slD (v1 inlO (xMeth 1 F_pipes 0 rNil)))) (seqT (asgV 4 (v1 slD (oLst aNil))) (seqT (whileT (bV (v2 fNe (vVar 1) (vC (.int 0)))) (seqT (asgV 4 (v1 slD (v2 fCat (v1 slL (oLst (aCons (v2 fIx (vVar 2) (vVar 1)) aNil))) (lVar 4)))) (seqT (asgV 1 (v2 fIx (v2 fIx (vVar 3) (v2 fIx (vVar 2) (vVar 1))) (vC (.int 0)))) skipT))) (seqT (retV (vVar 4)) skipT)))))))
theorem v_way : ∀ ss r, ss.length = 2 → F_way ss = some r → t_way (postP r) (En0 ss 5) := by
  intro ss r hl h
  unfold F_way at h
  split at h
  · rename_i m s ds p
    obtain ⟨x, e1, e2⟩ := Option.map_eq_some_iff.mp h
    clear h
    subst e2
    obtain ⟨rfl, rfl, hn⟩ := unNet_some e1
    obtain ⟨n, ps⟩ := x
    clear e1
    simp only at hn ⊢
    refine ⟨_, xm rfl (xc rfl ⟨rfl, rfl⟩ rfl rfl), ?_⟩
    by_cases c : p < 0 ∨ (n : Int) ≤ p
    · rw [if_pos c, if_pos c]
      exact rfl
    rw [if_neg c, if_neg c]
    obtain ⟨v, rfl⟩ := Int.eq_ofNat_of_zero_le (show 0 ≤ p by omega)
    have hv : v < n := by omega
    have hn1 := hn.2.1
    have hn2 := hn.2.2.2
    have hlen : (wet n (openOf ps)).length = n := (wet_ok hn.1 fun e he => (openOf_lt hn.pip e he).2).len
    rw [Int.toNat_natCast]
    refine ⟨_, v1e (v1e (xc (rVe rfl (rVe (v1e (v1e (opens_e hn rfl) rfl) rfl) rfl)) ⟨rfl, rfl⟩ rfl (wetOf_e hn)) rfl) rfl, ?_⟩
    refine if_d (p := someAt (wet n (openOf ps)) v = false) (bVe (dryE (here := wet n (openOf ps)) (v := v) (v2e rfl rfl (atI_here (v := v) (by omega))))) (fun d => ?_) (fun d => ?_)
    · refine ⟨_, rfl, ?_⟩
      show (Sum.inl (Sl.val (wayR n ps v)) : Rs) = _
      unfold wayR
      rw [if_neg (by rw [d]; simp)]
    · have d : someAt (wet n (openOf ps)) v = true := by simpa using d
      obtain ⟨w1, w2⟩ := wayOf_ok hn d
      have hL := w2.len
      have eR : wayR n ps v = .lst (dNs (wayOf n ps v)) := by unfold wayR; rw [if_pos d]
      rw [eR]
      generalize wayOf n ps v = L at *
      refine ⟨_, v1e (v1e (xm rfl (xc rfl ⟨rfl, rfl⟩ rfl rfl)) rfl) rfl, ?_⟩
      refine ⟨_, rfl, ?_⟩
      refine ⟨fun k Γ => ∃ (u : Nat) (acc l : List Nat), Clm (wet n (openOf ps)) ps u l ∧ l ++ acc = L ∧ k = l.length ∧ u < n ∧
        Γ = [some (.net m (n : Int) (dPs ps)), some (.val (dInt u)), some (.val (.lst (dHere (wet n (openOf ps))))), some (.val (.lst (dPs ps))), some (.val (.lst (dNs acc)))], ⟨L.length, v, [], L, w1, by simp, rfl, hv, rfl⟩, ?_⟩
      rintro k Γ ⟨u, acc, l, q1, q2, q3, q4, rfl⟩
      refine ⟨!decide ((u : Int) = 0), rfl, fun b => ?_, fun b => ?_⟩
      · cases q1 with
        | zero => simp at b
        | step g0 g1 g2 g3 g4 =>
          rename_i mm l
          have hix : v2 fIx (vVar 2) (vVar 1) [some (Sl.net m (n : Int) (dPs ps)), some (.val (dInt u)), some (.val (.lst (dHere (wet n (openOf ps))))), some (.val (.lst (dPs ps))), some (.val (.lst (dNs acc)))] = some (dInt mm) := v2e rfl rfl (by
            have := atI_here (here := wet n (openOf ps)) (v := u) (by omega)
            rw [g1] at this
            exact this)
          have hlen2 : acc.length + 1 ≤ 60 := by
            have := congrArg List.length q2
            simp at this
            omega
          refine ⟨.lst (dNs (mm :: acc)), ?_, ?_⟩
          · refine v1e (v2e (x := [dInt mm]) (y := dNs acc) (z := .own .loc (dInt mm :: dNs acc)) ?_ rfl ?_) rfl
            · refine v1e (x := .own .loc [dInt mm]) ?_ rfl
              unfold oLst aCons
              rw [hix]
              rfl
            · exact ite_some (decide_eq_true (by simp [dNs]; omega))
          · refine ⟨dInt (pAt ps mm).1, ?_, ?_⟩
            · exact ixP0 (p := pAt ps mm) (ixP (k := mm) rfl (by
                refine v2e (x := .lst (dHere (wet n (openOf ps)))) (y := dInt u) rfl rfl ?_
                have := atI_here (here := wet n (openOf ps)) (v := u) (by omega)
                rw [g1] at this
                exact this) g2)
            · have := hn.pip _ (pAt_mem g2)
              exact ⟨l.length, by rw [q3]; simp, (pAt ps mm).1, mm :: acc, l, g4, by rw [← q2]; simp, rfl, this.1, rfl⟩
      · have u0 : u = 0 := by
          have : ((u : Int) = 0) := by simpa using b
          omega
        subst u0
        have : l = [] := by
          cases q1 with
          | zero => rfl
          | step g0 => exact absurd rfl g0
        subst this
        have q2 : acc = L := q2
        subst q2
        exact ⟨_, rfl, rfl⟩
  · cases h

/-! ### ways as the law asks them -/
def F_law_is_way : FN
  | [.val (.lst es), .val (.lst ds), .val (.int v)] => (decs es : Option (List Nat)).bind fun l => (decs ds : Option (List P3)).bind fun ps =>
      if 0 ≤ v ∧ chain ps 0 l = some v.toNat ∧ l.Nodup ∧ (∀ m ∈ l, m < ps.length) ∧ ps.length ≤ 4000 then some (.inl (.val (.bl true))) else none
  | _ => none
theorem F_isWay {ps : List P3} {v : Nat} {l : List Nat} (w : IsWay ps v l) (h : ps.length ≤ 4000) : F_law_is_way [.val (.lst (dNs l)), .val (.lst (dPs ps)), .val (.int (v : Int))] = some (.inl (.val (.bl true))) := by
  show (decs (dNs l)).bind _ = _
  rw [decs_dNs, Option.bind_some, decs_dPs, Option.bind_some]
  exact ite_some ⟨Int.natCast_nonneg v, w.ch, w.nd, w.lt, h⟩
/-- _law_is_way: 0 found 1 pipes 2 place 3 here 4 number -/
def t_law_is_way : VT := (seqT (ifT (bOr (bNot (bV (v1 slD (v1 inlO (xCall 2 F_law_numbers (rV (vVar 0) (rV (v1 fLenL (lVar 1)) rNil))))))) (bV (v2 fNe (v1 fLenSet (lVar 0)) (v1 fLenL (lVar 0))))) (seqT (retV (vC (.bl false))) skipT) skipT) (seqT (asgV 3 (vC (.int 0))) (seqT (forT (v1 dL (vVar 0)) (gN 4) (seqT (ifT (bOr (bNot (bV (v2 fIx (v2 fIx (vVar 1) (vVar 4)) (vC (.int 2))))) (bV (v2 fNe (v2 fIx (v2 fIx (vVar 1) (vVar 4)) (vC (.int 0))) (vVar 3)))) (seqT (retV (vC (.bl false))) skipT) skipT) (seqT (asgV 3 (v2 fIx (v2 fIx (vVar 1) (vVar 4)) (vC (.int 1)))) skipT))) (seqT (retV (v2 fEq (vVar 3) (vVar 2))) skipT))))
theorem v_law_is_way : ∀ ss r, ss.length = 3 → F_law_is_way ss = some r → t_law_is_way (postP r) (En0 ss 5) ∧ ∃ s, r = .inl s := by
  intro ss r hl h
  unfold F_law_is_way at h
  split at h
  · rename_i es ds v
    obtain ⟨l, e1, h1⟩ := Option.bind_eq_some_iff.mp h
    obtain ⟨ps, e2, h2⟩ := Option.bind_eq_some_iff.mp h1
    clear h h1
    split at h2
    · rename_i hc
      have h3 := Option.some.inj h2
      clear h2
      subst h3
      cases dNs_some e1
      cases dPs_some e2
      obtain ⟨v0, hch, hnd, hlt, hps⟩ := hc
      obtain ⟨v, rfl⟩ := Int.eq_ofNat_of_zero_le v0
      rw [Int.toNat_natCast] at hch
      have hL : l.length ≤ ps.length := nodup_lt_len hnd hlt
      refine ⟨?_, _, rfl⟩
      refine if_f (dec_f (p := (¬ True) ∨ False) (by simp) (bOr_d (bNot_d (bVe (v1e (v1e (xc (rVe rfl (rVe (lenPs rfl) rfl)) ⟨rfl, rfl⟩ rfl (F_numbers hlt)) rfl) rfl))) fun _ => bVe ?_)) ?_
      · refine v2e (v1e (x := dNs l) rfl (fLenSet_ns hnd (by omega))) (v1e (x := dNs l) (y := .int (l.length : Int)) rfl (by simp [fLenL, dNs])) ?_
        simp [fNe, fEq, notD]
      refine ⟨_, rfl, ?_⟩
      refine ⟨dNs l, rfl, ?_⟩
      refine loopT_inv (enc := dInt) (fun rest Γ => ∃ (u : Nat) (v4 : Option Sl), (∀ k ∈ rest, k < ps.length) ∧ chain ps u rest = some v ∧ Γ = [some (.val (.lst (dNs l))), some (.val (.lst (dPs ps))), some (.val (.int (v : Int))), some (.val (dInt u)), v4]) ?_ ?_ l _ ⟨0, none, hlt, hch, rfl⟩
      · rintro k rest Γ kk ⟨u, v4, hr, hc, rfl⟩ hk
        refine ⟨_, rfl, ?_⟩
        have hkl := hr k (by simp)
        unfold chain at hc
        split at hc
        · rename_i q
          refine if_f (dec_f (p := (¬ True) ∨ False) (by simp) (bOr_d (bNot_d (bVe ?_)) fun _ => bVe ?_)) ?_
          · have := ixP2 (ixP (Γ := [some (.val (.lst (dNs l))), some (.val (.lst (dPs ps))), some (.val (.int (v : Int))), some (.val (dInt u)), some (.val (dInt k))]) (f := vVar 1) (h := vVar 4) (ps := ps) (k := k) rfl rfl hkl)
            rw [q.1] at this
            exact this
          · refine v2e (ixP0 (ixP (ps := ps) (k := k) rfl rfl hkl)) (y := dInt u) rfl ?_
            rw [q.2]
            simp [fNe, fEq, notD, dInt]
          · refine ⟨dInt (pAt ps k).2.1, ixP1 (ixP (ps := ps) (k := k) rfl rfl hkl), ?_⟩
            exact hk _ ⟨(pAt ps k).2.1, _, fun a ha => hr a (List.mem_cons_of_mem _ ha), hc, rfl⟩
        · cases hc
      · rintro Γ ⟨u, v4, _, hc, rfl⟩
        have hc := Option.some.inj hc
        subst hc
        exact ⟨.bl true, v2e rfl rfl (by simp [fEq, dInt]), rfl⟩
    · cases h2
  · cases h
noncomputable def F_law_no_place_k04 : FN
  | [.net _ s ds, .val (.int p)] => (unNet s ds).bind fun x => if p < 0 ∨ (x.1 : Int) ≤ p then some (.inl (.val (.bl true))) else none
  | _ => none
theorem F_noPlace04 {m : Md} {s : Nat} {ps : List P3} {p : Int} (h : okNet s ps) (hp : p < 0 ∨ (s : Int) ≤ p) : F_law_no_place_k04 [.net m (s : Int) (dPs ps), .val (.int p)] = some (.inl (.val (.bl true))) := by
  show (unNet _ _).bind _ = _
  rw [unNet_of h]
  exact ite_some hp
/-- _law_no_place: 0 net 1 place 2 refused -/
def t_law_no_place_k04 : VT := (seqT (asgV 2 (vC (.bl false))) (seqT (tryT (ctL [.place]) (seqT (exprX (xCall 2 F_way (rS 0 (rV (vVar 1) rNil)))) skipT) (seqT (asgV 2 (vC (.bl true))) skipT)) (seqT (retV (vVar 2)) skipT)))
theorem v_law_no_place_k04 : ∀ ss r, ss.length = 2 → F_law_no_place_k04 ss = some r → t_law_no_place_k04 (postP r) (En0 ss 3) ∧ ∃ s, r = .inl s := by
  intro ss r hl h
  unfold F_law_no_place_k04 at h
  split at h
  · rename_i m s ds p
    obtain ⟨x, e1, h1⟩ := Option.bind_eq_some_iff.mp h
    clear h
    split at h1
    · rename_i hc
      have h2 := Option.some.inj h1
      clear h1
      subst h2
      obtain ⟨rfl, rfl, hn⟩ := unNet_some e1
      refine ⟨?_, _, rfl⟩
      refine ⟨_, rfl, ?_⟩
      refine ⟨.inr .place, xc rfl ⟨rfl, rfl⟩ rfl (F_way_no hn hc), ?_⟩
      exact ⟨_, rfl, _, rfl, rfl⟩
    · cases h1
  · cases h
noncomputable def F_law_right_k04 : FN
  | [.net _ s ds, .val (.int s'), .val (.lst ds')] => (unNet s ds).bind fun x => (decs ds' : Option (List P3)).bind fun ps' => if s' = s ∧ ps' = x.2 then some (.inl (.val (.bl true))) else none
  | _ => none
theorem F_right04 {m : Md} {s : Nat} {ps : List P3} (h : okNet s ps) : F_law_right_k04 [.net m (s : Int) (dPs ps), .val (.int (s : Int)), .val (.lst (dPs ps))] = some (.inl (.val (.bl true))) := by
  show (unNet _ _).bind _ = _
  rw [unNet_of h, Option.bind_some, decs_dPs, Option.bind_some]
  exact ite_some ⟨rfl, rfl⟩
/-- _law_right: 0 net 1 size 2 pipes 3 here 4 place 5 found -/
def t_law_right_k04 : VT := (seqT (asgV 3 (v1 slD (v1 inlO (xCall 2 F_law_reached (rV (vVar 1) (rV (vVar 2) rNil)))))) (seqT (forT (lRng1 (vVar 1)) (gN 4) (seqT (asgV 5 (v1 slD (v1 inlO (xCall 2 F_way (rS 0 (rV (vVar 4) rNil)))))) (seqT (ifT (bV (v2 (fIn true) (vVar 4) (lVar 3))) (seqT (ifT (bV (v2 fNotN (vVar 5) (vC .non))) (seqT (retV (vC (.bl false))) skipT) skipT) skipT) (seqT (ifT (bNot (bV (v1 slD (v1 inlO (xCall 3 F_law_is_way (rV (vVar 5) (rV (vVar 2) (rV (vVar 4) rNil)))))))) (seqT (retV (vC (.bl false))) skipT) skipT) skipT)) skipT))) (seqT (retV (vC (.bl true))) skipT)))
theorem v_law_right_k04 : ∀ ss r, ss.length = 3 → F_law_right_k04 ss = some r → t_law_right_k04 (postP r) (En0 ss 6) ∧ ∃ s, r = .inl s := by
  intro ss r hl h
  unfold F_law_right_k04 at h
  split at h
  · rename_i m s ds s' ds'
    obtain ⟨x, e1, h1⟩ := Option.bind_eq_some_iff.mp h
    obtain ⟨ps', e2, h2⟩ := Option.bind_eq_some_iff.mp h1
    clear h h1
    split at h2
    · rename_i hc
      have h4 := Option.some.inj h2
      clear h2
      subst h4
      obtain ⟨rfl, rfl, hn⟩ := unNet_some e1
      cases dPs_some e2
      clear e1 e2
      obtain ⟨rfl, rfl⟩ := hc
      obtain ⟨n, ps⟩ := x
      refine ⟨?_, _, rfl⟩
      simp only at hn ⊢
      have hn1 := hn.2.1
      have hn2 := hn.2.2.2
      refine ⟨.lst (dNs (reachedOf n ps)), v1e (v1e (xc rfl ⟨rfl, rfl⟩ rfl (F_reachedL (ps := ps) (by omega) (by omega))) rfl) (by rw [← reached_law hn]; rfl), ?_⟩
      refine ⟨_, rng1e (i := (n : Int)) rfl (by omega), ?_⟩
      rw [Int.toNat_natCast]
      refine loopT_inv (enc := dInt) (fun rest Γ => (∀ v ∈ rest, v < n) ∧ ∃ v4 v5, Γ = [some (.net m (n : Int) (dPs ps)), some (.val (.int (n : Int))), some (.val (.lst (dPs ps))), some (.val (.lst (dNs (reachedOf n ps)))), v4, v5]) ?_ ?_ _ _ ⟨fun v hv => by simpa using hv, none, none, rfl⟩
      · rintro v rest Γ k ⟨hr, v4, v5, rfl⟩ hk
        refine ⟨_, rfl, ?_⟩
        have hv := hr v (by simp)
        have hr' : ∀ v ∈ rest, v < n := fun a ha => hr a (List.mem_cons_of_mem _ ha)
        refine ⟨wayR n ps v, v1e (v1e (xc rfl ⟨rfl, rfl⟩ rfl (F_way_yes hn hv)) rfl) rfl, ?_⟩
        have hm : v ∈ reachedOf n ps ↔ someAt (wet n (openOf ps)) v = true := by
          unfold reachedOf
          rw [List.mem_filter, List.mem_range]
          exact ⟨fun q => q.2, fun q => ⟨hv, q⟩⟩
        refine if_d (p := v ∉ reachedOf n ps) (bVe (notInE rfl rfl)) (fun c => ?_) (fun c => ?_)
        · have : wayR n ps v = .non := by unfold wayR; rw [if_neg (fun z => c (hm.mpr z))]
          rw [this]
          refine if_f rfl ?_
          exact hk _ ⟨hr', _, _, rfl⟩
        · have d : someAt (wet n (openOf ps)) v = true := hm.mp (Decidable.not_not.mp c)
          have : wayR n ps v = .lst (dNs (wayOf n ps v)) := by unfold wayR; rw [if_pos d]
          rw [this]
          refine if_f (dec_f (p := ¬ True) (by simp) (bNot_d (bVe (v1e (v1e (xc rfl ⟨rfl, rfl⟩ rfl (F_isWay (wayOf_ok hn d).2 (by omega))) rfl) rfl)))) ?_
          exact hk _ ⟨hr', _, _, rfl⟩
      · rintro Γ ⟨_, v4, v5, rfl⟩
        exact ⟨_, rfl, rfl⟩
    · cases h2
  · cases h
def F_law_k04 : FN
  | [.val (.scr _)] => some (.inl (.val (.bl true)))
  | _ => none
theorem F_law_k04_t (ns : List Int) (_ : ns.length ≤ 63) : F_law_k04 [.val (.scr ns)] = some (.inl (.val (.bl true))) := rfl
/-- law: 0 script 1 size 2 pipes 3 net -/
def t_law_k04 : VT := (seqT (asgV 1 (v1 slD (v1 inlO (xCall 2 F_law_size_of (rV (vVar 0) (rV (vC (.int 7)) rNil)))))) (seqT (asgO 2 (v1 inlO (xCall 4 F_law_pipes_by (rV (vVar 0) (rV (vC (.int 6)) (rV (v1 slD (v1 inlO (xCall 2 F_law_many_of (rV (vVar 0) (rV (vC (.int 12)) rNil))))) (rV (vVar 1) rNil))))))) (seqT (asgO 3 (v1 inlO (xCall 2 F_law_net_by (rV (vVar 1) (rS 2 rNil))))) (seqT (ifT (bFrz (bNot (bV (v1 slD (v1 inlO (xCall 3 F_law_right_k04 (rS 3 (rV (vVar 1) (rV (vVar 2) rNil))))))))) (seqT (retV (vC (.bl false))) skipT) skipT) (seqT (cmT none 4 G_law_turn_one (rS 3 (rV (vVar 1) (rS 2 (rV (v1 slD (v1 inlO (xCall 2 F_law_cell_at (rV (vVar 0) (rV (vC (.int 3)) rNil))))) rNil))))) (seqT (ifT (bFrz (bNot (bV (v1 slD (v1 inlO (xCall 3 F_law_right_k04 (rS 3 (rV (vVar 1) (rV (vVar 2) rNil))))))))) (seqT (retV (vC (.bl false))) skipT) skipT) (seqT (retV (vAnd (v1 slD (v1 inlO (xCall 2 F_law_no_place_k04 (rS 3 (rV (v1 fNeg (vC (.int 1))) rNil))))) (v1 slD (v1 inlO (xCall 2 F_law_no_place_k04 (rS 3 (rV (v2 fAdd (vVar 1) (v2 fMod (v1 slD (v1 inlO (xCall 2 F_law_cell_at (rV (vVar 0) (rV (vC (.int 2)) rNil))))) (vC (.int 9)))) rNil))))))) skipT)))))))
theorem v_law_k04 : ∀ ss r, ss.length = 1 → F_law_k04 ss = some r → t_law_k04 (postP r) (En0 ss 4) ∧ ∃ s, r = .inl s := by
  intro ss r hl h
  unfold F_law_k04 at h
  split at h
  · rename_i ns
    have h1 := Option.some.inj h
    clear h
    subst h1
    refine ⟨?_, _, rfl⟩
    have hs := sizeOf_le (ns := ns) (k := 7) (by omega) (by omega)
    have hm := manyOf_le (ns := ns) (k := 12) (by omega)
    have hn := netBy_start (ns := ns) (small := 7) (many := 12) (first := 6) (by omega) (by omega) (by omega)
    generalize hps : pipesBy ns 6 (manyOf ns 12) (sizeOf ns 7) = ps at hn
    refine ⟨_, v1e (v1e (xc rfl ⟨rfl, rfl⟩ rfl (F_sizeOf (k := 7) (by omega))) rfl) rfl, ?_⟩
    generalize sizeOf ns 7 = n at *
    refine ⟨.own .loc (dPs ps), v1e (xc (rVe rfl (rVe rfl (rVe (v1e (v1e (xc rfl ⟨rfl, rfl⟩ rfl (F_manyOf (k := 12))) rfl) rfl) (rVe rfl rfl)))) ⟨rfl, rfl⟩ rfl (F_pipesBy (f := 6) (m := manyOf ns 12) (s := n) (by omega) (by omega))) (by rw [hps]; rfl), ?_⟩
    refine ⟨.net .loc (n : Int) (dPs ps), v1e (xc rfl ⟨rfl, rfl⟩ rfl (F_netBy rfl hn)) rfl, ?_⟩
    refine if_f (dec_f (p := ¬ True) (by simp) (bNot_d (bVe (v1e (v1e (xc rfl ⟨rfl, rfl⟩ rfl (F_right04 hn)) rfl) rfl)))) ?_
    have hn' := turnOne_ok (c := cellAt ns 3) hn
    refine ⟨_, _, _, _, rfl, ⟨rfl, rfl⟩, rfl, G_turnOne (c := cellAt ns 3) hn, ?_⟩
    refine if_f (dec_f (p := ¬ True) (by simp) (bNot_d (bVe (v1e (v1e (xc rfl ⟨rfl, rfl⟩ rfl (F_right04 hn')) rfl) rfl)))) ?_
    have c9 : 0 ≤ cellAt ns 2 % 9 := Int.emod_nonneg _ (by omega)
    refine ⟨.bl true, vAnd_t (v1e (v1e (xc rfl ⟨rfl, rfl⟩ rfl (F_noPlace04 hn' (by omega))) rfl) rfl) (v1e (v1e (xc (rSe rfl (rVe (v2e (z := .int ((n : Int) + cellAt ns 2 % 9)) rfl (v2e (v1e (v1e (xc rfl ⟨rfl, rfl⟩ rfl (F_cell (k := 2))) rfl) rfl) rfl (fMod_pos (i := cellAt ns 2) (j := 9) (by omega))) rfl) rfl)) ⟨rfl, rfl⟩ rfl (F_noPlace04 (p := (n : Int) + cellAt ns 2 % 9) hn' (by omega))) rfl) rfl), rfl⟩
  · cases h
end Z

set_option maxRecDepth 100000
namespace Z
open PySem PySem.Spec PyProof.Rows L2

/-! ### one pipe shut -/
theorem okD_O3 (a : O3) : okD (dO3 a) = true := rfl
theorem fEq_O3 (a b : O3) : fEq (dO3 a) (dO3 b) = some (.bl (decide (a = b))) := by
  show (if (okD (dO3 a) && okD (dO3 b)) = true then some (D.bl (PyData.eqv (toPy (dO3 a)) (toPy (dO3 b)))) else none) = _
  rw [okD_O3, okD_O3]
  show some (D.bl (PyData.eqv (toPy (dO3 a)) (toPy (dO3 b)))) = _
  refine congrArg (fun b => some (D.bl b)) ?_
  obtain ⟨a1, a2, a3⟩ := a
  obtain ⟨b1, b2, b3⟩ := b
  show (((a1 : Int) == (b1 : Int)) && (((a2 : Int) == (b2 : Int)) && (((a3 : Int) == (b3 : Int)) && true))) = _
  by_cases c1 : a1 = b1 <;> by_cases c2 : a2 = b2 <;> by_cases c3 : a3 = b3 <;> simp [c1, c2, c3] <;> omega
theorem neO3 {Γ : En} {f h : VF} {a b : O3} (h1 : f Γ = some (dO3 a)) (h2 : h Γ = some (dO3 b)) : v2 fNe f h Γ = some (.bl (decide (a ≠ b))) := by
  refine v2e h1 h2 ?_
  unfold fNe
  rw [fEq_O3]
  show some (D.bl (!decide (a = b))) = _
  simp
theorem openOf_edges (ps : List P3) : edgesOf ps (lawOpen ps) = prs (openOf ps) := by
  unfold edgesOf prs openOf
  rw [List.map_map]
  rfl
theorem openOf_ne (ps : List P3) (k : Nat) : (openOf ps).filter (fun o => decide (o ≠ opOf ps k)) = ((lawOpen ps).filter fun j => decide (j ≠ k)).map (opOf ps) := by
  unfold openOf
  rw [List.filter_map]
  congr 1
  refine List.filter_congr fun j hj => ?_
  show decide (opOf ps j ≠ opOf ps k) = decide (j ≠ k)
  by_cases c : j = k
  · subst c; simp
  · have : opOf ps j ≠ opOf ps k := fun z => c (congrArg Prod.fst z)
    simp [c, this]
theorem mem_lawWet {size : Nat} {es : List (Nat × Nat)} (h0 : 0 < size) (he : ∀ e ∈ es, e.2 < size) {v : Nat} : v ∈ lawWet size es ↔ Rch es v := by
  unfold lawWet
  rw [(srtN_perm _).mem_iff, lw_iff h0 he]
theorem wet_law {size : Nat} {os : List O3} (h0 : 0 < size) (he : ∀ o ∈ os, o.2.2 < size) {v : Nat} : someAt (wet size os) v = true ↔ v ∈ lawWet size (prs os) := by
  rw [wet_iff h0 he, mem_lawWet h0]
  intro e q
  obtain ⟨o, h1, rfl⟩ := List.mem_map.mp q
  exact he o h1
def lawNeeded (size : Nat) (ps : List P3) (v : Nat) : List Nat := if v ∈ lawReached size ps then (lawOpen ps).filter fun k => decide (v ∉ lawWet size (edgesOf ps ((lawOpen ps).filter fun j => decide (j ≠ k)))) else []
theorem lawNeeded_lt {size v : Nat} {ps : List P3} : (∀ n ∈ lawNeeded size ps v, n < ps.length) ∧ (lawNeeded size ps v).Pairwise (· < ·) ∧ (lawNeeded size ps v).length ≤ ps.length := by
  unfold lawNeeded
  split
  · refine ⟨fun n hn => (lawOpen_lt (List.mem_filter.mp hn).1).1, List.Pairwise.filter _ (List.Pairwise.filter _ List.pairwise_lt_range), Nat.le_trans (List.length_filter_le _ _) (lawOpen_len ps)⟩
  · exact ⟨fun n hn => (nomatch hn), .nil, by simp⟩
/-- what the program tells -/
theorem needed_eq {size v : Nat} {ps : List P3} (hn : okNet size ps) (hv : someAt (wet size (openOf ps)) v = true) :
    ((openOf ps).filter fun o => decide (someAt (wet size ((openOf ps).filter fun p => decide (p ≠ o))) v = false)).map (fun o => dInt o.1) = dNs (lawNeeded size ps v) := by
  have ho := openOf_lt hn.pip
  have hr : v ∈ lawReached size ps := by
    unfold lawReached
    rw [openOf_edges]
    exact (wet_law hn.1 fun o q => (ho o q).2).mp hv
  unfold lawNeeded
  rw [if_pos hr]
  show ((List.filter _ ((lawOpen ps).map (opOf ps))).map _) = _
  rw [List.filter_map, List.map_map]
  unfold dNs
  show List.map dInt _ = _
  congr 1
  refine List.filter_congr fun k hk => ?_
  show decide (someAt (wet size ((openOf ps).filter fun p => decide (p ≠ opOf ps k))) v = false) = _
  have e : prs ((openOf ps).filter fun p => decide (p ≠ opOf ps k)) = edgesOf ps ((lawOpen ps).filter fun j => decide (j ≠ k)) := by
    rw [openOf_ne]
    unfold prs edgesOf
    rw [List.map_map]
    rfl
  have := wet_law (v := v) (os := (openOf ps).filter fun p => decide (p ≠ opOf ps k)) hn.1 fun o q => (ho o (List.mem_filter.mp q).1).2
  rw [e] at this
  by_cases c : someAt (wet size ((openOf ps).filter fun p => decide (p ≠ opOf ps k))) v = true
  · rw [decide_eq_false (show ¬ someAt (wet size ((openOf ps).filter fun p => decide (p ≠ opOf ps k))) v = false by rw [c]; simp)]
    exact (decide_eq_false (Decidable.not_not.mpr (this.mp c))).symm
  · have c' : someAt (wet size ((openOf ps).filter fun p => decide (p ≠ opOf ps k))) v = false := by simpa using c
    rw [decide_eq_true c']
    exact (decide_eq_true (show ¬ v ∈ _ from fun z => c (this.mpr z))).symm
def F_needed : FN
  | [.net _ s ds, .val (.int p)] => (unNet s ds).map fun x => if p < 0 ∨ (x.1 : Int) ≤ p then .inr .place else .inl (.own .loc (dNs (lawNeeded x.1 x.2 p.toNat)))
  | _ => none
theorem F_needed_no {m : Md} {s : Nat} {ps : List P3} {p : Int} (h : okNet s ps) (hp : p < 0 ∨ (s : Int) ≤ p) : F_needed [.net m (s : Int) (dPs ps), .val (.int p)] = some (.inr .place) := by
  show (unNet _ _).map _ = _
  rw [unNet_of h, Option.map_some, if_pos hp]
theorem F_needed_yes {m : Md} {s v : Nat} {ps : List P3} (h : okNet s ps) (hp : v < s) : F_needed [.net m (s : Int) (dPs ps), .val (.int (v : Int))] = some (.inl (.own .loc (dNs (lawNeeded s ps v)))) := by
  show (unNet _ _).map _ = _
  rw [unNet_of h, Option.map_some, if_neg (by omega), Int.toNat_natCast]
/-- needed: 0 net 1 place 2 pipes 3 found 4 pipe 5 other -/
def t_needed : VT := (seqT (exprX (xMeth 2 F_see_place 0 (rV (vVar 1) rNil))) (seqT (asgV 2 (v1 slD (v1 inlO (xCall 1 F_open_pipes (rS 0 rNil))))) (seqT (asgO 3 (oLst aNil)) (seqT (ifT (bV (v2 fIsN (v2 fIx (v1 slD (v1 inlO (xCall 2 F_wet (rV (v1 slD (v1 inlO (xMeth 1 F_size 0 rNil))) (rV (vVar 2) rNil))))) (vVar 1)) (vC .non))) (seqT (retS 3) skipT) skipT) (seqT (forT (v1 dL (vVar 2)) (gN 4) (seqT (ifT (bV (v2 fIsN (v2 fIx (v1 slD (v1 inlO (xCall 2 F_wet (rV (v1 slD (v1 inlO (xMeth 1 F_size 0 rNil))) (rV (v1 slD (vLc [5] (lVar 2) (gN 5) (bV (v2 fNe (vVar 5) (vVar 4))) (vVar 5))) rNil))))) (vVar 1)) (vC .non))) (seqT (appT 3 (v2 fIx (vVar 4) (vC (.int 0)))) skipT) skipT) skipT)) (seqT (retS 3) skipT))))))
theorem v_needed : ∀ ss r, ss.length = 2 → F_needed ss = some r → t_needed (postP r) (En0 ss 6) := by
  intro ss r hl h
  unfold F_needed at h
  split at h
  · rename_i m s ds p
    obtain ⟨x, e1, e2⟩ := Option.map_eq_some_iff.mp h
    clear h
    subst e2
    obtain ⟨rfl, rfl, hn⟩ := unNet_some e1
    obtain ⟨n, ps⟩ := x
    clear e1
    simp only at hn ⊢
    refine ⟨_, xm rfl (xc rfl ⟨rfl, rfl⟩ rfl rfl), ?_⟩
    by_cases c : p < 0 ∨ (n : Int) ≤ p
    · rw [if_pos c, if_pos c]
      exact rfl
    rw [if_neg c, if_neg c]
    obtain ⟨v, rfl⟩ := Int.eq_ofNat_of_zero_le (show 0 ≤ p by omega)
    have hv : v < n := by omega
    have hn1 := hn.2.1
    have hn2 := hn.2.2.2
    have ho := openOf_lt hn.pip
    have hol := openOf_len ps
    have hlen : ∀ os : List O3, (∀ o ∈ os, o.2.2 < n) → (wet n os).length = n := fun os h => (wet_ok hn.1 h).len
    rw [Int.toNat_natCast]
    refine ⟨_, v1e (v1e (opens_e hn rfl) rfl) rfl, ?_⟩
    refine ⟨_, rfl, ?_⟩
    have l0 := hlen (openOf ps) fun o q => (ho o q).2
    refine if_d (p := someAt (wet n (openOf ps)) v = false) (bVe (dryE (here := wet n (openOf ps)) (v := v) (v2e (v1e (v1e (xc rfl ⟨rfl, rfl⟩ rfl (wetOf_e hn)) rfl) rfl) rfl (atI_here (v := v) (by omega))))) (fun d => ?_) (fun d => ?_)
    · refine ⟨_, rfl, rfl, ?_⟩
      show (Sum.inl (Sl.own .loc (dNs (lawNeeded n ps v))) : Rs) = _
      unfold lawNeeded
      rw [if_neg]
      · rfl
      · intro z
        unfold lawReached at z
        rw [openOf_edges] at z
        have := (wet_law hn.1 fun o q => (ho o q).2).mpr z
        rw [d] at this
        cases this
    · have d : someAt (wet n (openOf ps)) v = true := by simpa using d
      refine ⟨dOs (openOf ps), rfl, ?_⟩
      refine loopT_inv (enc := dO3) (fun rest Γ => ∃ (done : List O3) (v4 v5 : Option Sl), done ++ rest = openOf ps ∧
        Γ = [some (.net m (n : Int) (dPs ps)), some (.val (dInt v)), some (.val (.lst (dOs (openOf ps)))), some (.own .loc ((done.filter fun o => decide (someAt (wet n ((openOf ps).filter fun p => decide (p ≠ o))) v = false)).map fun o => dInt o.1)), v4, v5]) ?_ ?_ _ _ ⟨[], none, none, rfl, rfl⟩
      · rintro o rest Γ k ⟨done, v4, v5, hd, rfl⟩ hk
        refine ⟨_, rfl, ?_⟩
        have hf : ∀ q ∈ (openOf ps).filter (fun p => decide (p ≠ o)), q.2.1 < n ∧ q.2.2 < n := fun q z => ho q (List.mem_filter.mp z).1
        have l1 := hlen _ fun q z => (hf q z).2
        have hdl : done.length ≤ 60 := by
          have := congrArg List.length hd
          rw [List.length_append] at this
          omega
        refine if_d (p := someAt (wet n ((openOf ps).filter fun p => decide (p ≠ o))) v = false) (bVe (dryE (here := wet n ((openOf ps).filter fun p => decide (p ≠ o))) (v := v) (v2e (v1e (v1e (xc (rVe rfl (rVe (v1e (vlc_filter (enc := dO3) (xs := openOf ps) (p := fun p => decide (p ≠ o)) (h := dO3) rfl (by omega) (fun q _ => lcS rfl (bVe (neO3 rfl rfl)) fun _ => rfl)) rfl) rfl)) ⟨rfl, rfl⟩ rfl (F_wetE hn.1 (by omega) hf)) rfl) rfl) rfl (atI_here (v := v) (by omega))))) (fun c => ?_) (fun c => ?_)
        · refine ⟨(by intro z; cases z), dInt o.1, rfl, by rw [List.length_map]; exact Nat.le_trans (List.length_filter_le _ _) (by omega), ?_⟩
          refine hk _ ⟨done ++ [o], some (.val (dO3 o)), v5, by rw [← hd]; simp, ?_⟩
          rw [List.filter_append, List.map_append]
          rw [show ([o].filter fun o => decide (someAt (wet n ((openOf ps).filter fun p => decide (p ≠ o))) v = false)) = [o] by rw [List.filter_cons, if_pos (decide_eq_true c)]; rfl]
          rfl
        · refine hk _ ⟨done ++ [o], some (.val (dO3 o)), v5, by rw [← hd]; simp, ?_⟩
          rw [List.filter_append, List.map_append]
          rw [show ([o].filter fun o => decide (someAt (wet n ((openOf ps).filter fun p => decide (p ≠ o))) v = false)) = [] by rw [List.filter_cons, if_neg (by rw [decide_eq_false c]; simp)]; rfl]
          rw [List.map_nil, List.append_nil]
          rfl
      · rintro Γ ⟨done, v4, v5, hd, rfl⟩
        rw [List.append_nil] at hd
        subst hd
        rw [needed_eq hn d]
        exact ⟨_, rfl, rfl, rfl⟩
  · cases h
def F_law_no_place_k05 : FN
  | [.net _ s ds, .val (.int p)] => (unNet s ds).bind fun x => if p < 0 ∨ (x.1 : Int) ≤ p then some (.inl (.val (.bl true))) else none
  | _ => none
theorem F_noPlace05 {m : Md} {s : Nat} {ps : List P3} {p : Int} (h : okNet s ps) (hp : p < 0 ∨ (s : Int) ≤ p) : F_law_no_place_k05 [.net m (s : Int) (dPs ps), .val (.int p)] = some (.inl (.val (.bl true))) := by
  show (unNet _ _).bind _ = _
  rw [unNet_of h]
  exact ite_some hp
/-- _law_no_place: 0 net 1 place 2 refused -/
def t_law_no_place_k05 : VT := (seqT (asgV 2 (vC (.bl false))) (seqT (tryT (ctL [.place]) (seqT (exprX (xCall 2 F_needed (rS 0 (rV (vVar 1) rNil)))) skipT) (seqT (asgV 2 (vC (.bl true))) skipT)) (seqT (retV (vVar 2)) skipT)))
theorem v_law_no_place_k05 : ∀ ss r, ss.length = 2 → F_law_no_place_k05 ss = some r → t_law_no_place_k05 (postP r) (En0 ss 3) ∧ ∃ s, r = .inl s := by
  intro ss r hl h
  unfold F_law_no_place_k05 at h
  split at h
  · rename_i m s ds p
    obtain ⟨x, e1, h1⟩ := Option.bind_eq_some_iff.mp h
    clear h
    split at h1
    · rename_i hc
      have h2 := Option.some.inj h1
      clear h1
      subst h2
      obtain ⟨rfl, rfl, hn⟩ := unNet_some e1
      refine ⟨?_, _, rfl⟩
      refine ⟨_, rfl, ?_⟩
      refine ⟨.inr .place, xc rfl ⟨rfl, rfl⟩ rfl (F_needed_no hn hc), ?_⟩
      exact ⟨_, rfl, _, rfl, rfl⟩
    · cases h1
  · cases h
def F_law_needed : FN
  | [.val (.int s), .val (.lst ds), .val (.int v)] => (unNet s ds).bind fun x => if 0 ≤ v then some (.inl (.own .loc (dNs (lawNeeded x.1 x.2 v.toNat)))) else none
  | _ => none
theorem F_lawNeeded {s v : Nat} {ps : List P3} (h : okNet s ps) : F_law_needed [.val (.int (s : Int)), .val (.lst (dPs ps)), .val (.int (v : Int))] = some (.inl (.own .loc (dNs (lawNeeded s ps v)))) := by
  show (unNet _ _).bind _ = _
  rw [unNet_of h]
  exact ite_some (Int.natCast_nonneg v)
/-- _law_needed: 0 size 1 pipes 2 place 3 found 4 number 5 others 6 k -/
def t_law_needed : VT := (seqT (asgO 3 (oLst aNil)) (seqT (ifT (bV (v2 (fIn false) (vVar 2) (v1 slL (v1 inlO (xCall 2 F_law_reached (rV (vVar 0) (rV (vVar 1) rNil))))))) (seqT (forT (v1 dL (v1 slD (v1 inlO (xCall 1 F_law_open (rV (vVar 1) rNil))))) (gN 4) (seqT (asgV 5 (v1 slD (vLc [6] (v1 slL (v1 inlO (xCall 1 F_law_open (rV (vVar 1) rNil)))) (gN 6) (bV (v2 fNe (vVar 6) (vVar 4))) (vVar 6)))) (seqT (ifT (bV (v2 (fIn true) (vVar 2) (v1 slL (v1 inlO (xCall 2 F_law_wet (rV (vVar 0) (rV (v1 slD (vLc [6] (lVar 5) (gN 6) bT (vTup (aCons (v2 fIx (v2 fIx (vVar 1) (vVar 6)) (vC (.int 0))) (aCons (v2 fIx (v2 fIx (vVar 1) (vVar 6)) (vC (.int 1))) aNil))))) rNil))))))) (seqT (appT 3 (vVar 4)) skipT) skipT) skipT))) skipT) skipT) (seqT (retS 3) skipT)))
theorem v_law_needed : ∀ ss r, ss.length = 3 → F_law_needed ss = some r → t_law_needed (postP r) (En0 ss 7) ∧ ∃ s, r = .inl s := by
  intro ss r hl h
  unfold F_law_needed at h
  split at h
  · rename_i s ds v
    obtain ⟨x, e1, h1⟩ := Option.bind_eq_some_iff.mp h
    clear h
    split at h1
    · rename_i hc
      have h2 := Option.some.inj h1
      clear h1
      subst h2
      obtain ⟨rfl, rfl, hn⟩ := unNet_some e1
      obtain ⟨n, ps⟩ := x
      obtain ⟨v, rfl⟩ := Int.eq_ofNat_of_zero_le hc
      clear e1
      simp only at hn ⊢
      have hn1 := hn.2.1
      have hn2 := hn.2.2.2
      have hlo := lawOpen_len ps
      refine ⟨?_, _, rfl⟩
      rw [Int.toNat_natCast]
      refine ⟨_, rfl, ?_⟩
      refine if_d (p := v ∈ lawReached n ps) (bVe (inE rfl (v1e (v1e (xc rfl ⟨rfl, rfl⟩ rfl (F_reachedL (ps := ps) (by omega) (by omega))) rfl) rfl))) (fun c => ?_) (fun c => ?_)
      · refine ⟨dNs (lawOpen ps), v1e (v1e (v1e (xc rfl ⟨rfl, rfl⟩ rfl (F_open (by omega))) rfl) rfl) rfl, ?_⟩
        refine loopT_inv (enc := dInt) (fun rest Γ => ∃ (done : List Nat) (v4 v5 v6 : Option Sl), done ++ rest = lawOpen ps ∧
          Γ = [some (.val (.int (n : Int))), some (.val (.lst (dPs ps))), some (.val (dInt v)), some (.own .loc (dNs (done.filter fun k => decide (v ∉ lawWet n (edgesOf ps ((lawOpen ps).filter fun j => decide (j ≠ k))))))), v4, v5, v6]) ?_ ?_ _ _ ⟨[], none, none, none, rfl, rfl⟩
        · rintro o rest Γ k ⟨done, v4, v5, v6, hd, rfl⟩ hk
          refine ⟨_, rfl, ?_⟩
          have hdl : done.length ≤ 60 := by
            have := congrArg List.length hd
            rw [List.length_append] at this
            omega
          have hfl : ((lawOpen ps).filter fun j => decide (j ≠ o)).length ≤ 60 := Nat.le_trans (List.length_filter_le _ _) (by omega)
          refine ⟨.lst (dNs ((lawOpen ps).filter fun j => decide (j ≠ o))), v1e (vlc_filter (enc := dInt) (xs := lawOpen ps) (p := fun j => decide (j ≠ o)) (h := dInt) (v1e (v1e (xc rfl ⟨rfl, rfl⟩ rfl (F_open (by omega))) rfl) rfl) (by omega) (fun q _ => lcS rfl (bVe (v2e (x := dInt q) (y := dInt o) rfl rfl (by
            show some (D.bl (!decide ((q : Int) = (o : Int)))) = _
            by_cases c : q = o
            · subst c; simp
            · have : ¬ (q : Int) = (o : Int) := by omega
              simp [c, this]))) fun _ => rfl)) rfl, ?_⟩
          refine if_d (p := v ∉ lawWet n (edgesOf ps ((lawOpen ps).filter fun j => decide (j ≠ o)))) (bVe (notInE rfl (v1e (v1e (x := .inl (.own .loc (dNs (lawWet n (edgesOf ps ((lawOpen ps).filter fun j => decide (j ≠ o))))))) (xc (rVe rfl (rVe (v1e (vlc_map (enc := dInt) (xs := (lawOpen ps).filter fun j => decide (j ≠ o)) (h := fun k => dE ((pAt ps k).1, (pAt ps k).2.1)) rfl (by omega)
            fun k hk => lcS1 rfl rfl (edges_e rfl rfl (lawOpen_lt (List.mem_filter.mp hk).1).1)) rfl) rfl)) ⟨rfl, rfl⟩ rfl ?_) rfl) rfl))) (fun c => ?_) (fun c => ?_)
          · show F_law_wet [.val (.int (n : Int)), .val (.lst (((lawOpen ps).filter fun j => decide (j ≠ o)).map fun k => dE ((pAt ps k).1, (pAt ps k).2.1)))] = _
            have := F_wetL (s := n) (es := edgesOf ps ((lawOpen ps).filter fun j => decide (j ≠ o))) (by omega) (by unfold edgesOf; rw [List.length_map]; omega)
            unfold dEs edgesOf at this
            rw [List.map_map] at this
            exact this
          · refine ⟨(by intro z; cases z), dInt o, rfl, by unfold dNs; rw [List.length_map]; exact Nat.le_trans (List.length_filter_le _ _) (by omega), ?_⟩
            refine hk _ ⟨done ++ [o], some (.val (dInt o)), some (.val (.lst (dNs ((lawOpen ps).filter fun j => decide (j ≠ o))))), v6, by rw [← hd]; simp, ?_⟩
            rw [List.filter_append]
            rw [show ([o].filter fun k => decide (v ∉ lawWet n (edgesOf ps ((lawOpen ps).filter fun j => decide (j ≠ k))))) = [o] by rw [List.filter_cons, if_pos (decide_eq_true c)]; rfl]
            unfold dNs
            rw [List.map_append]
            rfl
          · refine hk _ ⟨done ++ [o], some (.val (dInt o)), some (.val (.lst (dNs ((lawOpen ps).filter fun j => decide (j ≠ o))))), v6, by rw [← hd]; simp, ?_⟩
            rw [List.filter_append]
            rw [show ([o].filter fun k => decide (v ∉ lawWet n (edgesOf ps ((lawOpen ps).filter fun j => decide (j ≠ k))))) = [] by rw [List.filter_cons, if_neg (by rw [decide_eq_false c]; simp)]; rfl]
            rw [List.append_nil]
            rfl
        · rintro Γ ⟨done, v4, v5, v6, hd, rfl⟩
          rw [List.append_nil] at hd
          subst hd
          refine ⟨_, rfl, rfl, ?_⟩
          show (Sum.inl (Sl.own .loc (dNs (lawNeeded n ps v))) : Rs) = _
          unfold lawNeeded
          rw [if_pos c]
      · refine ⟨_, rfl, rfl, ?_⟩
        show (Sum.inl (Sl.own .loc (dNs (lawNeeded n ps v))) : Rs) = _
        unfold lawNeeded
        rw [if_neg c]
        rfl
    · cases h1
  · cases h
end Z

set_option maxRecDepth 100000
namespace Z
open PySem PySem.Spec PyProof.Rows L2

/-! ### a pipe turned by hand -/
def turnAt (ps : List P3) (k : Nat) (o : Bool) : List P3 := ps.set k ((pAt ps k).1, (pAt ps k).2.1, o)
theorem turnAt_len {ps : List P3} {k : Nat} {o : Bool} : (turnAt ps k o).length = ps.length := by unfold turnAt; simp
theorem pAt_turn {ps : List P3} {k j : Nat} {o : Bool} (h : k < ps.length) : pAt (turnAt ps k o) j = if j = k then ((pAt ps k).1, (pAt ps k).2.1, o) else pAt ps j := by
  by_cases c : j = k
  · subst c
    rw [if_pos rfl]
    unfold pAt turnAt
    rw [List.getElem?_set_self h]
    rfl
  · rw [if_neg c]
    unfold turnAt
    conv => lhs; unfold pAt
    conv => rhs; unfold pAt
    rw [List.getElem?_set_ne (Ne.symm c)]
theorem pAt_turn1 {ps : List P3} {k j : Nat} {o : Bool} (h : k < ps.length) : (pAt (turnAt ps k o) j).1 = (pAt ps j).1 ∧ (pAt (turnAt ps k o) j).2.1 = (pAt ps j).2.1 := by
  rw [pAt_turn h]
  split
  · rename_i e
    subst e
    exact ⟨rfl, rfl⟩
  · exact ⟨rfl, rfl⟩
theorem turnAt_same {ps : List P3} {k : Nat} (h : k < ps.length) : turnAt ps k (pAt ps k).2.2 = ps := by
  unfold turnAt
  rw [show ((pAt ps k).1, (pAt ps k).2.1, (pAt ps k).2.2) = pAt ps k from rfl]
  refine List.ext_getElem? fun j => ?_
  by_cases c : k = j
  · subst c
    rw [List.getElem?_set_self h, pAt_some h]
  · rw [List.getElem?_set_ne c]
theorem turnAt_turnAt {ps : List P3} {k : Nat} {o p : Bool} (h : k < ps.length) : turnAt (turnAt ps k o) k p = turnAt ps k p := by
  show (turnAt ps k o).set k ((pAt (turnAt ps k o) k).1, (pAt (turnAt ps k o) k).2.1, p) = _
  rw [(pAt_turn1 h).1, (pAt_turn1 h).2]
  unfold turnAt
  rw [List.set_set]
theorem turnAt_ok {size k : Nat} {ps : List P3} {o : Bool} (hn : okNet size ps) (h : k < ps.length) : okNet size (turnAt ps k o) := by
  obtain ⟨h1, h2, h3, h4⟩ := hn
  have h3 := okPs_iff.mp h3
  refine ⟨h1, h2, okPs_iff.mpr fun p hp => ?_, by rw [turnAt_len]; exact h4⟩
  unfold turnAt at hp
  rcases List.mem_or_eq_of_mem_set hp with q | q
  · exact h3 p q
  · subst q
    have := h3 _ (pAt_mem h)
    exact this
theorem edgesOf_turn {ps : List P3} {k : Nat} {o : Bool} (h : k < ps.length) (ks : List Nat) : edgesOf (turnAt ps k o) ks = edgesOf ps ks := by
  unfold edgesOf
  refine List.map_congr_left fun j _ => ?_
  rw [(pAt_turn1 h).1, (pAt_turn1 h).2]
theorem lawOpen_shut {ps : List P3} {k : Nat} (h : k < ps.length) : lawOpen (turnAt ps k false) = (lawOpen ps).filter fun j => decide (j ≠ k) := by
  unfold lawOpen
  rw [turnAt_len, List.filter_filter]
  refine List.filter_congr fun j _ => ?_
  rw [pAt_turn h]
  by_cases c : j = k
  · simp [c]
  · simp [c]
theorem G_shutT {s : Nat} {ps : List P3} {k : Nat} (h : k < ps.length) : G_shut [.net .mut (s : Int) (dPs ps), .val (.int (k : Int))] = some (.inl (.val .non), [.net .mut (s : Int) (dPs (turnAt ps k false)), .val (.int (k : Int))]) := G_shutE (pAt_some h)
theorem G_reopenT {s : Nat} {ps : List P3} {k : Nat} (h : k < ps.length) : G_reopen [.net .mut (s : Int) (dPs ps), .val (.int (k : Int))] = some (.inl (.val .non), [.net .mut (s : Int) (dPs (turnAt ps k true)), .val (.int (k : Int))]) := G_reopenE (pAt_some h)
theorem fNe_ns (ns : List Nat) : fNe (.lst (dNs ns)) (.lst (dNs ns)) = some (.bl false) := fNe_refl (shaped_ns ns)
def F_law_k05 : FN
  | [.val (.scr _)] => some (.inl (.val (.bl true)))
  | _ => none
theorem F_law_k05_t (ns : List Int) (_ : ns.length ≤ 63) : F_law_k05 [.val (.scr ns)] = some (.inl (.val (.bl true))) := rfl
/-- law: 0 script 1 size 2 pipes 3 net 4 place 5 found 6 number 7 again -/
def t_law_k05 : VT := (seqT (asgV 1 (v1 slD (v1 inlO (xCall 2 F_law_size_of (rV (vVar 0) (rV (vC (.int 7)) rNil)))))) (seqT (asgO 2 (v1 inlO (xCall 4 F_law_pipes_by (rV (vVar 0) (rV (vC (.int 6)) (rV (v1 slD (v1 inlO (xCall 2 F_law_many_of (rV (vVar 0) (rV (vC (.int 12)) rNil))))) (rV (vVar 1) rNil))))))) (seqT (asgO 3 (v1 inlO (xCall 2 F_law_net_by (rV (vVar 1) (rS 2 rNil))))) (seqT (asgV 4 (v2 fMod (v1 slD (v1 inlO (xCall 2 F_law_cell_at (rV (vVar 0) (rV (vC (.int 2)) rNil))))) (vVar 1))) (seqT (asgV 5 (v1 slD (v1 inlO (xCall 2 F_needed (rS 3 (rV (vVar 4) rNil)))))) (seqT (ifT (bFrz (bOr (bNot (bV (v1 slD (v1 inlO (xCall 2 F_law_rising (rV (vVar 5) (rV (v1 fLenL (lVar 2)) rNil))))))) (bV (v2 fNe (vVar 5) (v1 slD (v1 inlO (xCall 3 F_law_needed (rV (vVar 1) (rV (vVar 2) (rV (vVar 4) rNil)))))))))) (seqT (retV (vC (.bl false))) skipT) skipT) (seqT (forT (v1 dL (vVar 5)) (gN 6) (seqT (nmT none 2 G_shut 3 (rV (vVar 6) rNil)) (seqT (ifT (bV (v2 (fIn false) (vVar 4) (v1 slL (v1 inlO (xCall 1 F_reached (rS 3 rNil)))))) (seqT (retV (vC (.bl false))) skipT) skipT) (seqT (nmT none 2 G_reopen 3 (rV (vVar 6) rNil)) skipT)))) (seqT (ifT (bFrz (bOr (bV (v2 fNe (v2 (fIn false) (vVar 4) (v1 slL (v1 inlO (xCall 1 F_reached (rS 3 rNil))))) (v2 (fIn false) (vVar 4) (v1 slL (v1 inlO (xCall 2 F_law_reached (rV (vVar 1) (rV (vVar 2) rNil)))))))) (bV (v2 fNe (v1 slD (v1 inlO (xCall 2 F_needed (rS 3 (rV (vVar 4) rNil))))) (vVar 5))))) (seqT (retV (vC (.bl false))) skipT) skipT) (seqT (cmT none 4 G_law_turn_one (rS 3 (rV (vVar 1) (rS 2 (rV (v1 slD (v1 inlO (xCall 2 F_law_cell_at (rV (vVar 0) (rV (vC (.int 4)) rNil))))) rNil))))) (seqT (asgV 7 (v1 slD (v1 inlO (xCall 2 F_needed (rS 3 (rV (vVar 4) rNil)))))) (seqT (ifT (bFrz (bOr (bNot (bV (v1 slD (v1 inlO (xCall 2 F_law_rising (rV (vVar 7) (rV (v1 fLenL (lVar 2)) rNil))))))) (bV (v2 fNe (vVar 7) (v1 slD (v1 inlO (xCall 3 F_law_needed (rV (vVar 1) (rV (vVar 2) (rV (vVar 4) rNil)))))))))) (seqT (retV (vC (.bl false))) skipT) skipT) (seqT (retV (vAnd (v1 slD (v1 inlO (xCall 2 F_law_no_place_k05 (rS 3 (rV (v1 fNeg (vC (.int 1))) rNil))))) (v1 slD (v1 inlO (xCall 2 F_law_no_place_k05 (rS 3 (rV (v2 fAdd (vVar 1) (v2 fMod (v1 slD (v1 inlO (xCall 2 F_law_cell_at (rV (vVar 0) (rV (vC (.int 3)) rNil))))) (vC (.int 9)))) rNil))))))) skipT))))))))))))
theorem needed_reach {n v k : Nat} {ps : List P3} (hn : okNet n ps) (hk : k ∈ lawNeeded n ps v) : k < ps.length ∧ (pAt ps k).2.2 = true ∧ v ∉ reachedOf n (turnAt ps k false) := by
  unfold lawNeeded at hk
  split at hk
  · rw [List.mem_filter] at hk
    obtain ⟨h1, h2⟩ := hk
    have hl := lawOpen_lt h1
    refine ⟨hl.1, hl.2, ?_⟩
    rw [reached_law (turnAt_ok hn hl.1)]
    unfold lawReached
    rw [edgesOf_turn hl.1, lawOpen_shut hl.1]
    exact of_decide_eq_true h2
  · cases hk
theorem v_law_k05 : ∀ ss r, ss.length = 1 → F_law_k05 ss = some r → t_law_k05 (postP r) (En0 ss 8) ∧ ∃ s, r = .inl s := by
  intro ss r hl h
  unfold F_law_k05 at h
  split at h
  · rename_i ns
    have h1 := Option.some.inj h
    clear h
    subst h1
    refine ⟨?_, _, rfl⟩
    have hs := sizeOf_le (ns := ns) (k := 7) (by omega) (by omega)
    have hm := manyOf_le (ns := ns) (k := 12) (by omega)
    have hn := netBy_start (ns := ns) (small := 7) (many := 12) (first := 6) (by omega) (by omega) (by omega)
    generalize hps : pipesBy ns 6 (manyOf ns 12) (sizeOf ns 7) = ps at hn
    refine ⟨_, v1e (v1e (xc rfl ⟨rfl, rfl⟩ rfl (F_sizeOf (k := 7) (by omega))) rfl) rfl, ?_⟩
    generalize sizeOf ns 7 = n at *
    refine ⟨.own .loc (dPs ps), v1e (xc (rVe rfl (rVe rfl (rVe (v1e (v1e (xc rfl ⟨rfl, rfl⟩ rfl (F_manyOf (k := 12))) rfl) rfl) (rVe rfl rfl)))) ⟨rfl, rfl⟩ rfl (F_pipesBy (f := 6) (m := manyOf ns 12) (s := n) (by omega) (by omega))) (by rw [hps]; rfl), ?_⟩
    refine ⟨.net .loc (n : Int) (dPs ps), v1e (xc rfl ⟨rfl, rfl⟩ rfl (F_netBy rfl hn)) rfl, ?_⟩
    have a1 : 0 ≤ cellAt ns 2 % (n : Int) := Int.emod_nonneg _ (by omega)
    have a2 : cellAt ns 2 % (n : Int) < n := Int.emod_lt_of_pos _ (by omega)
    obtain ⟨v, hv⟩ := Int.eq_ofNat_of_zero_le a1
    refine ⟨dInt v, v2e (v1e (v1e (xc rfl ⟨rfl, rfl⟩ rfl (F_cell (k := 2))) rfl) rfl) rfl (by rw [fMod_pos (i := cellAt ns 2) (j := (n : Int)) (by omega), hv]; rfl), ?_⟩
    have hvn : v < n := by omega
    have hpl := hn.2.2.2
    refine ⟨.lst (dNs (lawNeeded n ps v)), v1e (v1e (xc rfl ⟨rfl, rfl⟩ rfl (F_needed_yes hn hvn)) rfl) rfl, ?_⟩
    obtain ⟨b1, b2, b3⟩ := lawNeeded_lt (size := n) (v := v) (ps := ps)
    refine if_f (dec_f (p := (¬ True) ∨ False) (by simp) (bOr_d (bNot_d (bVe (v1e (v1e (xc (rVe rfl (rVe (lenPs rfl) rfl)) ⟨rfl, rfl⟩ rfl (F_rising b1 b2 (by omega))) rfl) rfl))) fun _ => bVe (v2e rfl (v1e (v1e (xc rfl ⟨rfl, rfl⟩ rfl (F_lawNeeded hn)) rfl) rfl) (fNe_ns _)))) ?_
    refine ⟨dNs (lawNeeded n ps v), rfl, ?_⟩
    refine loopT_inv (enc := dInt) (fun rest Γ => ∃ (v6 : Option Sl), (∀ k ∈ rest, k ∈ lawNeeded n ps v) ∧ Γ = [some (.val (.scr ns)), some (.val (.int (n : Int))), some (.own .loc (dPs ps)), some (.net .loc (n : Int) (dPs ps)), some (.val (dInt v)), some (.val (.lst (dNs (lawNeeded n ps v)))), v6, none]) ?_ ?_ _ _ ⟨none, fun _ h => h, rfl⟩
    · rintro k rest Γ kk ⟨v6, hr, rfl⟩ hk
      refine ⟨_, rfl, ?_⟩
      obtain ⟨k1, k2, k3⟩ := needed_reach hn (hr k (by simp))
      have hn' := turnAt_ok (o := false) hn k1
      refine ⟨rfl, _, _, _, _, rfl, ⟨rfl, rfl⟩, rfl, G_shutT k1, ?_⟩
      refine if_f (dec_f (p := v ∈ reachedOf n (turnAt ps k false)) k3 (bVe (inE rfl (v1e (v1e (xc rfl ⟨rfl, rfl⟩ rfl (F_reachedE hn')) rfl) rfl)))) ?_
      refine ⟨rfl, _, _, _, _, rfl, ⟨rfl, rfl⟩, rfl, G_reopenT (by rw [turnAt_len]; exact k1), ?_⟩
      have e : turnAt (turnAt ps k false) k true = ps := by
        rw [turnAt_turnAt k1, ← k2, turnAt_same k1]
      rw [e]
      exact hk _ ⟨some (.val (dInt k)), fun a ha => hr a (List.mem_cons_of_mem _ ha), rfl⟩
    · rintro Γ ⟨v6, _, rfl⟩
      refine if_f (dec_f (p := False ∨ False) (by simp) (bOr_d (bVe (v2e (inE rfl (v1e (v1e (xc rfl ⟨rfl, rfl⟩ rfl (F_reachedE hn)) rfl) rfl)) (inE rfl (v1e (v1e (xc rfl ⟨rfl, rfl⟩ rfl (F_reachedL (ps := ps) (by omega) (by omega))) rfl) rfl)) (by rw [← reached_law hn]; simp [fNe, fEq, notD]))) fun _ => bVe (v2e (v1e (v1e (xc rfl ⟨rfl, rfl⟩ rfl (F_needed_yes hn hvn)) rfl) rfl) rfl (fNe_ns _)))) ?_
      have hn' := turnOne_ok (c := cellAt ns 4) hn
      refine ⟨_, _, _, _, rfl, ⟨rfl, rfl⟩, rfl, G_turnOne (c := cellAt ns 4) hn, ?_⟩
      have hpl' := hn'.2.2.2
      obtain ⟨b1', b2', b3'⟩ := lawNeeded_lt (size := n) (v := v) (ps := turnOne n ps (cellAt ns 4))
      refine ⟨.lst (dNs (lawNeeded n (turnOne n ps (cellAt ns 4)) v)), v1e (v1e (xc rfl ⟨rfl, rfl⟩ rfl (F_needed_yes hn' hvn)) rfl) rfl, ?_⟩
      refine if_f (dec_f (p := (¬ True) ∨ False) (by simp) (bOr_d (bNot_d (bVe (v1e (v1e (xc (rVe rfl (rVe (lenPs rfl) rfl)) ⟨rfl, rfl⟩ rfl (F_rising b1' b2' (by omega))) rfl) rfl))) fun _ => bVe (v2e rfl (v1e (v1e (xc rfl ⟨rfl, rfl⟩ rfl (F_lawNeeded hn')) rfl) rfl) (fNe_ns _)))) ?_
      have c9 : 0 ≤ cellAt ns 3 % 9 := Int.emod_nonneg _ (by omega)
      refine ⟨.bl true, vAnd_t (v1e (v1e (xc rfl ⟨rfl, rfl⟩ rfl (F_noPlace05 hn' (by omega))) rfl) rfl) (v1e (v1e (xc (rSe rfl (rVe (v2e (z := .int ((n : Int) + cellAt ns 3 % 9)) rfl (v2e (v1e (v1e (xc rfl ⟨rfl, rfl⟩ rfl (F_cell (k := 3))) rfl) rfl) rfl (fMod_pos (i := cellAt ns 3) (j := 9) (by omega))) rfl) rfl)) ⟨rfl, rfl⟩ rfl (F_noPlace05 (p := (n : Int) + cellAt ns 3 % 9) hn' (by omega))) rfl) rfl), rfl⟩
  · cases h
end Z

set_option maxRecDepth 100000
namespace Z
open PySem PySem.Spec PyProof.Rows L2

/-! ### ways without a common pipe: plain mathematics -/
abbrev Stp := Option (Nat × Nat × Bool)
abbrev Stps := List Stp
def stAt (st : Stps) (v : Nat) : Stp := (st[v]?).getD none
theorem stAt_set {st : Stps} {v w : Nat} {x : Nat × Nat × Bool} (h : v < st.length) : stAt (st.set v (some x)) w = if w = v then some x else stAt st w := by
  unfold stAt
  by_cases e : w = v
  · subst e
    rw [List.getElem?_set_self h, if_pos rfl]
    rfl
  · rw [List.getElem?_set_ne (Ne.symm e), if_neg e]
structure EdOk (all : List O3) (size : Nat) : Prop where
  pos : 0 < size
  nd : (all.map (·.1)).Nodup
  lt : ∀ e ∈ all, e.2.1 < size ∧ e.2.2 < size
theorem EdOk.inj {all : List O3} {size : Nat} (E : EdOk all size) {a b : O3} (ha : a ∈ all) (hb : b ∈ all) (e : a.1 = b.1) : a = b := by
  have nd := E.nd
  clear E
  induction all with
  | nil => cases ha
  | cons x xs ih =>
    rw [List.map_cons, List.nodup_cons] at nd
    rcases List.mem_cons.mp ha with h1 | h1
    · rcases List.mem_cons.mp hb with h2 | h2
      · rw [h1, h2]
      · exact (nd.1 (List.mem_map.mpr ⟨b, h2, by rw [← e, h1]⟩)).elim
    · rcases List.mem_cons.mp hb with h2 | h2
      · exact (nd.1 (List.mem_map.mpr ⟨a, h1, by rw [e, h2]⟩)).elim
      · exact ih h1 h2 nd.2
abbrev Cst := Stps × List Nat
def cfStep1 (used : List Int) (here : Nat) (x : Cst) (e : O3) : Cst := if e.2.1 = here ∧ (e.1 : Int) ∉ used ∧ e.2.2 ≠ 0 ∧ stAt x.1 e.2.2 = none then (x.1.set e.2.2 (some (e.1, e.2.1, true)), x.2 ++ [e.2.2]) else x
def cfStep2 (used : List Int) (here : Nat) (x : Cst) (e : O3) : Cst := if e.2.2 = here ∧ (e.1 : Int) ∈ used ∧ e.2.1 ≠ 0 ∧ stAt x.1 e.2.1 = none then (x.1.set e.2.1 (some (e.1, e.2.2, false)), x.2 ++ [e.2.1]) else x
def cfStep (used : List Int) (here : Nat) (x : Cst) (e : O3) : Cst := cfStep2 used here (cfStep1 used here x e) e
def cfPass (used : List Int) (all : List O3) (here : Nat) (x : Cst) : Cst := all.foldl (cfStep used here) x
def cfGo (used : List Int) (all : List O3) : Nat → Nat → Cst → Cst
  | 0, _, x => x
  | f + 1, d, x => match x.2[d]? with
    | some h => cfGo used all f (d + 1) (cfPass used all h x)
    | none => x
def cf0 (size : Nat) : Cst := (List.replicate size none, [0])
def comeFrom (size : Nat) (all : List O3) (used : List Int) : Stps := (cfGo used all (size + 1) 0 (cf0 size)).1
structure COk (all : List O3) (used : List Int) (size : Nat) (x : Cst) : Prop where
  len : x.1.length = size
  nd : x.2.Nodup
  mem : ∀ v, v ∈ x.2 ↔ v = 0 ∨ (stAt x.1 v).isSome = true
  lt : ∀ v ∈ x.2, v < size
  st0 : stAt x.1 0 = none
  par : ∃ rk : Nat → Nat, ∀ v n u b, stAt x.1 v = some (n, u, b) → rk u < rk v ∧ u ∈ x.2 ∧ (b = true → (n, u, v) ∈ all ∧ (n : Int) ∉ used) ∧ (b = false → (n, v, u) ∈ all ∧ (n : Int) ∈ used)
theorem COk.add {all : List O3} {used : List Int} {size : Nat} {x : Cst} {v n u : Nat} {b : Bool} (C : COk all used size x) (v0 : v ≠ 0) (vs : v < size) (hv : stAt x.1 v = none) (hu : u ∈ x.2)
    (h1 : b = true → (n, u, v) ∈ all ∧ (n : Int) ∉ used) (h2 : b = false → (n, v, u) ∈ all ∧ (n : Int) ∈ used) : COk all used size (x.1.set v (some (n, u, b)), x.2 ++ [v]) := by
  have vl : v < x.1.length := by rw [C.len]; exact vs
  have nv : v ∉ x.2 := fun z => by
    rcases (C.mem v).mp z with q | q
    · exact v0 q
    · rw [hv] at q; cases q
  refine ⟨by simp [C.len], ?_, fun w => ?_, fun w hw => ?_, ?_, ?_⟩
  · rw [List.nodup_append]
    refine ⟨C.nd, by simp, fun a ha c hc => ?_⟩
    simp at hc
    subst hc
    intro z
    subst z
    exact nv ha
  · rw [List.mem_append, C.mem w]
    simp only [stAt_set vl, List.mem_singleton]
    by_cases c : w = v
    · subst c; simp
    · simp [c]
  · rcases List.mem_append.mp hw with q | q
    · exact C.lt w q
    · simp at q; subst q; exact vs
  · simp only [stAt_set vl]
    rw [if_neg (Ne.symm v0)]
    exact C.st0
  · obtain ⟨rk, hr⟩ := C.par
    refine ⟨fun w => if w = v then rk u + 1 else rk w, fun w m p c hw => ?_⟩
    simp only [stAt_set vl] at hw
    have uv : u ≠ v := fun z => nv (z ▸ hu)
    by_cases cw : w = v
    · subst cw
      rw [if_pos rfl] at hw
      cases hw
      refine ⟨by simp [uv], List.mem_append_left _ hu, h1, h2⟩
    · rw [if_neg cw] at hw
      obtain ⟨q1, q2, q3, q4⟩ := hr w m p c hw
      have pv : p ≠ v := fun z => nv (z ▸ q2)
      exact ⟨by simp [cw, pv, q1], List.mem_append_left _ q2, q3, q4⟩
theorem cfStep_ok {all : List O3} {used : List Int} {size here : Nat} {x : Cst} {e : O3} (E : EdOk all size) (C : COk all used size x) (he : e ∈ all) (hh : here ∈ x.2) : COk all used size (cfStep used here x e) ∧ here ∈ (cfStep used here x e).2 := by
  have h1 : COk all used size (cfStep1 used here x e) ∧ here ∈ (cfStep1 used here x e).2 := by
    unfold cfStep1
    split
    · rename_i c
      refine ⟨C.add c.2.2.1 (E.lt e he).2 c.2.2.2 (c.1 ▸ hh) (fun _ => ⟨he, c.2.1⟩) (fun z => (nomatch z)), List.mem_append_left _ hh⟩
    · exact ⟨C, hh⟩
  unfold cfStep
  generalize cfStep1 used here x e = y at *
  unfold cfStep2
  split
  · rename_i c
    exact ⟨h1.1.add c.2.2.1 (E.lt e he).1 c.2.2.2 (c.1 ▸ h1.2) (fun z => (nomatch z)) (fun _ => ⟨he, c.2.1⟩), List.mem_append_left _ h1.2⟩
  · exact h1
theorem cfStep_more {used : List Int} {here : Nat} {x : Cst} {e : O3} : ∃ more, (cfStep used here x e).2 = x.2 ++ more := by
  have h1 : ∃ more, (cfStep1 used here x e).2 = x.2 ++ more := by
    unfold cfStep1
    split
    · exact ⟨_, rfl⟩
    · exact ⟨[], by simp⟩
  unfold cfStep
  generalize cfStep1 used here x e = y at *
  obtain ⟨m, h1⟩ := h1
  unfold cfStep2
  split
  · exact ⟨m ++ [e.2.1], by simp only; rw [h1]; simp⟩
  · exact ⟨m, h1⟩
/-- nothing more can be come to from a place by a pipe -/
def Cl1 (used : List Int) (line : List Nat) (here : Nat) (e : O3) : Prop := (e.2.1 = here → (e.1 : Int) ∉ used → e.2.2 ∈ line) ∧ (e.2.2 = here → (e.1 : Int) ∈ used → e.2.1 ∈ line)
theorem Cl1.more {used : List Int} {line more : List Nat} {here : Nat} {e : O3} (h : Cl1 used line here e) : Cl1 used (line ++ more) here e := ⟨fun a b => List.mem_append_left _ (h.1 a b), fun a b => List.mem_append_left _ (h.2 a b)⟩
theorem cfStep_cl {all : List O3} {used : List Int} {size here : Nat} {x : Cst} {e : O3} (E : EdOk all size) (C : COk all used size x) (he : e ∈ all) (hh : here ∈ x.2) : Cl1 used (cfStep used here x e).2 here e := by
  have h1 : (e.2.1 = here → (e.1 : Int) ∉ used → e.2.2 ∈ (cfStep1 used here x e).2) := by
    intro a b
    unfold cfStep1
    split
    · exact List.mem_append_right _ (by simp)
    · rename_i c
      by_cases z : e.2.2 = 0
      · rw [z]; exact (C.mem 0).mpr (.inl rfl)
      · refine (C.mem _).mpr (.inr ?_)
        cases q : stAt x.1 e.2.2 with
        | none => exact absurd ⟨a, b, z, q⟩ c
        | some y => rfl
  have C1 : COk all used size (cfStep1 used here x e) := by
    unfold cfStep1
    split
    · rename_i c
      exact C.add c.2.2.1 (E.lt e he).2 c.2.2.2 (c.1 ▸ hh) (fun _ => ⟨he, c.2.1⟩) (fun z => (nomatch z))
    · exact C
  unfold cfStep
  generalize cfStep1 used here x e = y at *
  refine ⟨fun a b => ?_, fun a b => ?_⟩
  · have := h1 a b
    unfold cfStep2
    split
    · exact List.mem_append_left _ this
    · exact this
  · unfold cfStep2
    split
    · exact List.mem_append_right _ (by simp)
    · rename_i c
      by_cases z : e.2.1 = 0
      · rw [z]; exact (C1.mem 0).mpr (.inl rfl)
      · refine (C1.mem _).mpr (.inr ?_)
        cases q : stAt y.1 e.2.1 with
        | none => exact absurd ⟨a, b, z, q⟩ c
        | some y => rfl
theorem cfFold_ok {all : List O3} {used : List Int} {size here : Nat} (E : EdOk all size) : ∀ {es : List O3} {x : Cst}, (∀ e ∈ es, e ∈ all) → COk all used size x → here ∈ x.2 →
    COk all used size (es.foldl (cfStep used here) x) ∧ (∃ more, (es.foldl (cfStep used here) x).2 = x.2 ++ more) ∧ ∀ e ∈ es, Cl1 used (es.foldl (cfStep used here) x).2 here e
  | [], x, _, C, _ => ⟨C, ⟨[], by simp⟩, fun e h => (nomatch h)⟩
  | e :: es, x, he, C, hh => by
    obtain ⟨C1, hh1⟩ := cfStep_ok E C (he e (by simp)) hh
    obtain ⟨C2, ⟨m2, e2⟩, k2⟩ := cfFold_ok E (es := es) (fun a ha => he a (List.mem_cons_of_mem _ ha)) C1 hh1
    obtain ⟨m1, e1⟩ := cfStep_more (used := used) (here := here) (x := x) (e := e)
    refine ⟨C2, ⟨m1 ++ m2, by rw [List.foldl_cons, e2, e1]; simp⟩, fun a ha => ?_⟩
    rcases List.mem_cons.mp ha with rfl | ha
    · rw [List.foldl_cons, e2]
      exact (cfStep_cl E C (he a (by simp)) hh).more
    · exact k2 a ha
theorem cfGo_ok {all : List O3} {used : List Int} {size : Nat} (E : EdOk all size) : ∀ {f d : Nat} {x : Cst}, COk all used size x → d ≤ x.2.length → size + 1 ≤ f + d → (∀ i h, i < d → x.2[i]? = some h → ∀ e ∈ all, Cl1 used x.2 h e) →
    COk all used size (cfGo used all f d x) ∧ ∀ h ∈ (cfGo used all f d x).2, ∀ e ∈ all, Cl1 used (cfGo used all f d x).2 h e
  | 0, d, x, C, hd, hf, _ => by
    have := nodup_lt_len C.nd C.lt
    omega
  | f + 1, d, x, C, hd, hf, k => by
    unfold cfGo
    split
    · rename_i h hh
      have hm : h ∈ x.2 := List.mem_of_getElem? hh
      have dl := (List.getElem?_eq_some_iff.mp hh).1
      obtain ⟨C2, ⟨m2, e2⟩, k2⟩ := cfFold_ok (here := h) E (es := all) (fun _ q => q) C hm
      refine cfGo_ok E (f := f) (d := d + 1) C2 (by show d + 1 ≤ (cfPass used all h x).2.length; unfold cfPass; rw [e2]; simp; omega) (by omega) fun i w hi hw e he => ?_
      show Cl1 used (cfPass used all h x).2 w e
      unfold cfPass at hw ⊢
      by_cases c : i = d
      · subst c
        rw [e2, List.getElem?_append_left dl, hh] at hw
        cases hw
        exact k2 e he
      · rw [e2] at hw ⊢
        rw [List.getElem?_append_left (by omega)] at hw
        exact (k i w (by omega) hw e he).more
    · rename_i hh
      refine ⟨C, fun h hm e he => ?_⟩
      obtain ⟨i, hi, hi2⟩ := List.mem_iff_getElem.mp hm
      have : x.2.length ≤ d := List.getElem?_eq_none_iff.mp hh
      exact k i h (by omega) (by rw [← hi2]; exact List.getElem?_eq_getElem hi) e he
theorem cf0_ok {all : List O3} {used : List Int} {size : Nat} (E : EdOk all size) : COk all used size (cf0 size) := by
  have none_ : ∀ v, stAt (List.replicate size none) v = none := fun v => by
    unfold stAt
    rw [List.getElem?_replicate]
    split <;> rfl
  refine ⟨by simp [cf0], by simp [cf0], fun v => ?_, fun v hv => ?_, none_ 0, fun _ => 0, fun v n u b h => ?_⟩
  · show v ∈ [0] ↔ v = 0 ∨ (stAt (List.replicate size none) v).isSome = true
    rw [none_ v]
    simp
  · have : v = 0 := by simpa [cf0] using hv
    subst this
    exact E.pos
  · have h : stAt (List.replicate size none) v = _ := h
    rw [none_ v] at h
    cases h
/-- come to -/
def rc (st : Stps) (v : Nat) : Prop := v = 0 ∨ (stAt st v).isSome = true
instance (st : Stps) (v : Nat) : Decidable (rc st v) := by unfold rc; infer_instance
structure SOk (all : List O3) (used : List Int) (size : Nat) (st : Stps) : Prop where
  len : st.length = size
  lt : ∀ v, rc st v → v < size
  st0 : stAt st 0 = none
  par : ∃ rk : Nat → Nat, ∀ v n u b, stAt st v = some (n, u, b) → rk u < rk v ∧ rc st u ∧ (b = true → (n, u, v) ∈ all ∧ (n : Int) ∉ used) ∧ (b = false → (n, v, u) ∈ all ∧ (n : Int) ∈ used)
  fwd : ∀ e ∈ all, rc st e.2.1 → (e.1 : Int) ∉ used → rc st e.2.2
  bwd : ∀ e ∈ all, rc st e.2.2 → (e.1 : Int) ∈ used → rc st e.2.1
theorem comeFrom_ok {all : List O3} {used : List Int} {size : Nat} (E : EdOk all size) : SOk all used size (comeFrom size all used) := by
  obtain ⟨C, k⟩ := cfGo_ok (used := used) E (f := size + 1) (d := 0) (cf0_ok E) (Nat.zero_le _) (by omega) fun i h hi => by omega
  obtain ⟨rk, hr⟩ := C.par
  refine ⟨C.len, fun v hv => C.lt v ((C.mem v).mpr hv), C.st0, ⟨rk, fun v n u b h => ?_⟩, fun e he h1 h2 => ?_, fun e he h1 h2 => ?_⟩
  · obtain ⟨q1, q2, q3, q4⟩ := hr v n u b h
    exact ⟨q1, (C.mem u).mp q2, q3, q4⟩
  · exact (C.mem _).mp ((k _ ((C.mem _).mpr h1) e he).1 rfl h2)
  · exact (C.mem _).mp ((k _ ((C.mem _).mpr h1) e he).2 rfl h2)
end Z

set_option maxRecDepth 100000
namespace Z
open PySem PySem.Spec PyProof.Rows L2

/-! ### balances -/
def ind (p : Prop) [Decidable p] : Int := if p then 1 else 0
theorem ind_t {p : Prop} [Decidable p] (h : p) : ind p = 1 := if_pos h
theorem ind_f {p : Prop} [Decidable p] (h : ¬ p) : ind p = 0 := if_neg h
def sumI {α : Type} (f : α → Int) : List α → Int
  | [] => 0
  | x :: xs => f x + sumI f xs
theorem sumI_congr {α : Type} {f g : α → Int} : ∀ {xs : List α}, (∀ x ∈ xs, f x = g x) → sumI f xs = sumI g xs
  | [], _ => rfl
  | x :: xs, h => by
    show f x + sumI f xs = g x + sumI g xs
    rw [h x (by simp), sumI_congr fun y hy => h y (List.mem_cons_of_mem _ hy)]
theorem sumI_add {α : Type} (f g : α → Int) : ∀ xs : List α, sumI (fun x => f x + g x) xs = sumI f xs + sumI g xs
  | [] => rfl
  | x :: xs => by
    show f x + g x + sumI (fun x => f x + g x) xs = (f x + sumI f xs) + (g x + sumI g xs)
    rw [sumI_add f g xs]
    omega
theorem sumI_neg {α : Type} (f : α → Int) : ∀ xs : List α, sumI (fun x => - f x) xs = - sumI f xs
  | [] => rfl
  | x :: xs => by
    show - f x + sumI (fun x => - f x) xs = - (f x + sumI f xs)
    rw [sumI_neg f xs]
    omega
theorem sumI_zero {α : Type} : ∀ xs : List α, sumI (fun _ => (0 : Int)) xs = 0
  | [] => rfl
  | x :: xs => by
    show 0 + sumI (fun _ => (0 : Int)) xs = 0
    rw [sumI_zero xs]
    rfl
theorem sumI_le {α : Type} {f g : α → Int} : ∀ {xs : List α}, (∀ x ∈ xs, f x ≤ g x) → sumI f xs ≤ sumI g xs
  | [], _ => Int.le_refl _
  | x :: xs, h => by
    show f x + sumI f xs ≤ g x + sumI g xs
    have := h x (by simp)
    have := sumI_le (xs := xs) fun y hy => h y (List.mem_cons_of_mem _ hy)
    omega
/-- sums changed about -/
theorem sumI_swap {α β : Type} (f : α → β → Int) : ∀ (xs : List α) (ys : List β), sumI (fun x => sumI (f x) ys) xs = sumI (fun y => sumI (fun x => f x y) xs) ys
  | [], ys => by
    show 0 = sumI (fun y => 0) ys
    rw [sumI_zero]
  | x :: xs, ys => by
    show sumI (f x) ys + sumI (fun x => sumI (f x) ys) xs = sumI (fun y => f x y + sumI (fun x => f x y) xs) ys
    rw [sumI_swap f xs ys, sumI_add]
theorem sumI_ind {v : Nat} : ∀ {S : List Nat}, S.Nodup → sumI (fun w => ind (v = w)) S = ind (v ∈ S)
  | [], _ => rfl
  | w :: S, h => by
    have h' := List.nodup_cons.mp h
    show ind (v = w) + sumI (fun w => ind (v = w)) S = _
    rw [sumI_ind h'.2]
    by_cases c : v = w
    · subst c
      rw [ind_t rfl, ind_f h'.1, ind_t (by simp)]
      rfl
    · rw [ind_f c]
      by_cases d : v ∈ S
      · rw [ind_t d, ind_t (by simp [d])]
        rfl
      · rw [ind_f d, ind_f (by simp [c, d])]
        rfl
theorem sumI_count {α : Type} (p : α → Bool) : ∀ xs : List α, sumI (fun x => ind (p x = true)) xs = ((xs.filter p).length : Int)
  | [] => rfl
  | x :: xs => by
    show ind (p x = true) + sumI _ xs = _
    rw [sumI_count p xs, List.filter_cons]
    by_cases c : p x = true
    · rw [ind_t c, if_pos c]
      simp
      omega
    · rw [ind_f c, if_neg c]
      omega
/-- one item changed -/
theorem sumI_one {all : List O3} {e0 : O3} {f g : O3 → Int} {δ : Int} : (all.map (·.1)).Nodup → e0 ∈ all → (∀ e ∈ all, e.1 ≠ e0.1 → g e = f e) → g e0 = f e0 + δ → sumI g all = sumI f all + δ := by
  induction all with
  | nil => intro _ h; cases h
  | cons x xs ih =>
    intro nd h0 hf hg
    rw [List.map_cons, List.nodup_cons] at nd
    show g x + sumI g xs = f x + sumI f xs + δ
    rcases List.mem_cons.mp h0 with h1 | h1
    · have : sumI g xs = sumI f xs := sumI_congr fun y hy => hf y (List.mem_cons_of_mem _ hy) fun z => nd.1 (List.mem_map.mpr ⟨y, hy, by rw [z, h1]⟩)
      rw [this, ← h1, hg]
      omega
    · have := ih nd.2 h1 (fun e he => hf e (List.mem_cons_of_mem _ he)) hg
      rw [this, hf x (by simp) fun z => nd.1 (List.mem_map.mpr ⟨e0, h1, z.symm⟩)]
      omega
def flo (used : List Int) (v : Nat) (e : O3) : Int := if (e.1 : Int) ∈ used then ind (e.2.1 = v) - ind (e.2.2 = v) else 0
def bal (all : List O3) (used : List Int) (v : Nat) : Int := sumI (flo used v) all
theorem bal_put {all : List O3} {used used' : List Int} {size n s g : Nat} (E : EdOk all size) (h : (n, s, g) ∈ all) (h0 : (n : Int) ∉ used) (h1 : (n : Int) ∈ used') (hm : ∀ m : Int, m ≠ n → (m ∈ used' ↔ m ∈ used)) (v : Nat) :
    bal all used' v = bal all used v + (ind (s = v) - ind (g = v)) := by
  refine sumI_one E.nd h (fun e he hne => ?_) ?_
  · unfold flo
    have : (e.1 : Int) ≠ (n : Int) := fun z => hne (by simp only at z ⊢; omega)
    by_cases c : (e.1 : Int) ∈ used
    · rw [if_pos c, if_pos ((hm _ this).mpr c)]
    · rw [if_neg c, if_neg fun z => c ((hm _ this).mp z)]
  · unfold flo
    simp only
    rw [if_pos h1, if_neg h0]
    omega
def delI (used : List Int) (n : Int) : List Int := used.filter fun x => decide (x ≠ n)
theorem mem_delI {used : List Int} {n m : Int} : m ∈ delI used n ↔ m ∈ used ∧ m ≠ n := by
  unfold delI
  rw [List.mem_filter]
  simp
def tog (used : List Int) (x : Nat × Bool) : List Int := if x.2 = true then putI used x.1 else delI used x.1
theorem mem_putI {used : List Int} {n m : Int} : m ∈ putI used n ↔ m ∈ used ∨ m = n := by
  unfold putI
  split
  · rename_i h
    exact ⟨.inl, fun q => q.elim id fun e => e ▸ h⟩
  · simp
theorem mem_tog_ne {used : List Int} {x : Nat × Bool} {m : Int} (h : m ≠ x.1) : m ∈ tog used x ↔ m ∈ used := by
  unfold tog
  split
  · rw [mem_putI]
    exact ⟨fun q => q.elim id fun e => absurd e h, .inl⟩
  · rw [mem_delI]
    exact ⟨And.left, fun q => ⟨q, h⟩⟩
/-- the keys of a dict of pipes -/
structure UOk (all : List O3) (used : List Int) : Prop where
  nd : used.Nodup
  sub : ∀ k ∈ used, ∃ e ∈ all, (e.1 : Int) = k
theorem UOk.len {all : List O3} {used : List Int} (U : UOk all used) : used.length ≤ all.length := by
  have := U.nd.length_le_of_subset (l₂ := all.map fun e => (e.1 : Int)) fun k hk => by
    obtain ⟨e, h1, h2⟩ := U.sub k hk
    exact List.mem_map.mpr ⟨e, h1, h2⟩
  simpa using this
theorem putI_nd {used : List Int} {n : Int} (h : used.Nodup) : (putI used n).Nodup := by
  unfold putI
  split
  · exact h
  · rename_i c
    rw [List.nodup_append]
    refine ⟨h, by simp, fun a ha b hb => ?_⟩
    simp at hb
    subst hb
    intro z
    subst z
    exact c ha
theorem delI_nd {used : List Int} {n : Int} (h : used.Nodup) : (delI used n).Nodup := List.Pairwise.filter _ h
theorem UOk.tog {all : List O3} {used : List Int} {x : Nat × Bool} (U : UOk all used) (h : ∃ e ∈ all, e.1 = x.1) : UOk all (tog used x) := by
  unfold Z.tog
  split
  · refine ⟨putI_nd U.nd, fun k hk => ?_⟩
    rcases mem_putI.mp hk with q | q
    · exact U.sub k q
    · obtain ⟨e, h1, h2⟩ := h
      exact ⟨e, h1, by rw [q, h2]⟩
  · exact ⟨delI_nd U.nd, fun k hk => U.sub k (mem_delI.mp hk).1⟩
inductive Pth (st : Stps) : Nat → List (Nat × Bool) → Prop
  | zero : Pth st 0 []
  | step {v n u : Nat} {b : Bool} {l : List (Nat × Bool)} : v ≠ 0 → v < st.length → stAt st v = some (n, u, b) → Pth st u l → Pth st v ((n, b) :: l)
theorem Pth.det {st : Stps} {v : Nat} {l : List (Nat × Bool)} (h : Pth st v l) : ∀ {l'}, Pth st v l' → l = l' := by
  induction h with
  | zero =>
    intro l' h'
    cases h' with
    | zero => rfl
    | step h0 => exact absurd rfl h0
  | step h0 h1 h2 h3 ih =>
    intro l' h'
    cases h' with
    | zero => exact absurd rfl h0
    | step g0 g1 g2 g3 =>
      rw [h2] at g2
      cases g2
      rw [ih g3]
def togs (l : List (Nat × Bool)) (used : List Int) : List Int := l.foldl tog used
/-- it may be done: what is put in is not there, what is taken out is -/
def May (l : List (Nat × Bool)) (used : List Int) : Prop := (l.map (·.1)).Nodup ∧ ∀ x ∈ l, (x.2 = true → (x.1 : Int) ∉ used) ∧ (x.2 = false → (x.1 : Int) ∈ used)
theorem May.tail {l : List (Nat × Bool)} {x : Nat × Bool} {used : List Int} (h : May (x :: l) used) : May l (tog used x) := by
  obtain ⟨nd, k⟩ := h
  rw [List.map_cons, List.nodup_cons] at nd
  refine ⟨nd.2, fun y hy => ?_⟩
  have ne : (y.1 : Int) ≠ x.1 := fun z => nd.1 (List.mem_map.mpr ⟨y, hy, by omega⟩)
  rw [mem_tog_ne ne]
  exact k y (List.mem_cons_of_mem _ hy)
theorem path_ok {all : List O3} {used : List Int} {size : Nat} {st : Stps} (E : EdOk all size) (S : SOk all used size st) {v : Nat} (hv : rc st v) :
    ∃ l, Pth st v l ∧ May l used ∧ (∀ x ∈ l, ∃ e ∈ all, e.1 = x.1) ∧ ∀ used0, May l used0 → ∀ w, bal all (togs l used0) w = bal all used0 w + (ind (0 = w) - ind (v = w)) := by
  obtain ⟨rk, hr⟩ := S.par
  have key : ∀ (n v : Nat), rk v < n → rc st v → ∃ l, Pth st v l ∧ May l used ∧ (∀ x ∈ l, ∃ w u, stAt st w = some (x.1, u, x.2) ∧ rk w ≤ rk v) ∧ ∀ used0, May l used0 → ∀ w, bal all (togs l used0) w = bal all used0 w + (ind (0 = w) - ind (v = w)) := by
    intro n
    induction n with
    | zero => intro v h; omega
    | succ n ih =>
      intro v h hv
      by_cases v0 : v = 0
      · subst v0
        exact ⟨[], .zero, ⟨.nil, fun x hx => (nomatch hx)⟩, fun x hx => (nomatch hx), fun used0 _ w => by show bal all used0 w = _; omega⟩
      · rcases hv with z | hs
        · exact absurd z v0
        obtain ⟨⟨m, u, b⟩, hx⟩ := Option.isSome_iff_exists.mp hs
        obtain ⟨r1, r2, r3, r4⟩ := hr v m u b hx
        obtain ⟨l, p, my, nod, q⟩ := ih u (by omega) r2
        have vl : v < st.length := by rw [S.len]; exact S.lt v (.inr hs)
        have fresh : m ∉ l.map (·.1) := fun z => by
          obtain ⟨⟨m', b'⟩, hy, e⟩ := List.mem_map.mp z
          simp only at e
          subst e
          obtain ⟨w, u', hw, hwr⟩ := nod _ hy
          simp only at hw
          obtain ⟨_, _, s3, s4⟩ := hr w _ u' b' hw
          have : w = v := by
            cases b with
            | true =>
              cases b' with
              | true =>
                have := E.inj (r3 rfl).1 (s3 rfl).1 rfl
                cases this
                rfl
              | false => exact absurd (s4 rfl).2 (r3 rfl).2
            | false =>
              cases b' with
              | true => exact absurd (r4 rfl).2 (s3 rfl).2
              | false =>
                have := E.inj (r4 rfl).1 (s4 rfl).1 rfl
                cases this
                rfl
          subst this
          omega
        refine ⟨(m, b) :: l, .step v0 vl hx p, ⟨?_, fun x hx' => ?_⟩, fun x hx' => ?_, fun used0 hm w => ?_⟩
        · rw [List.map_cons, List.nodup_cons]
          exact ⟨fresh, my.1⟩
        · rcases List.mem_cons.mp hx' with rfl | hx'
          · exact ⟨fun e => (r3 e).2, fun e => (r4 e).2⟩
          · exact my.2 x hx'
        · rcases List.mem_cons.mp hx' with rfl | hx'
          · exact ⟨v, u, hx, Nat.le_refl _⟩
          · obtain ⟨w, u', z1, z2⟩ := nod x hx'
            exact ⟨w, u', z1, by omega⟩
        · show bal all (togs l (tog used0 (m, b))) w = _
          rw [q _ hm.tail w]
          have st0 := hm.2 (m, b) (by simp)
          have : bal all (tog used0 (m, b)) w = bal all used0 w + (ind (u = w) - ind (v = w)) := by
            cases b with
            | true => exact bal_put E (r3 rfl).1 (st0.1 rfl) (mem_putI.mpr (.inr rfl)) (fun k hk => mem_tog_ne (x := (m, true)) hk) w
            | false =>
              have := bal_put (used := tog used0 (m, false)) (used' := used0) E (r4 rfl).1 (fun z => (mem_delI.mp z).2 rfl) (st0.2 rfl) (fun k hk => (mem_tog_ne (x := (m, false)) hk).symm) w
              omega
          rw [this]
          omega
  obtain ⟨l, h1, h2, h3, h4⟩ := key (rk v + 1) v (by omega) hv
  refine ⟨l, h1, h2, fun x hx => ?_, h4⟩
  obtain ⟨w, u, z, _⟩ := h3 x hx
  obtain ⟨_, _, s3, s4⟩ := hr w _ u _ z
  cases hb : x.2 with
  | true => exact ⟨_, (s3 hb).1, rfl⟩
  | false => exact ⟨_, (s4 hb).1, rfl⟩
theorem UOk.togs {all : List O3} : ∀ {l : List (Nat × Bool)} {used : List Int}, UOk all used → (∀ x ∈ l, ∃ e ∈ all, e.1 = x.1) → UOk all (togs l used)
  | [], _, U, _ => U
  | x :: l, used, U, h => (U.tog (h x (by simp))).togs fun y hy => h y (List.mem_cons_of_mem _ hy)
/-- so many ways' worth of pipes in use -/
def FOk (all : List O3) (used : List Int) (place : Nat) (r : Nat) : Prop := ∀ w, bal all used w = (r : Int) * (ind (0 = w) - ind (place = w))
theorem bal_nil (all : List O3) (w : Nat) : bal all [] w = 0 := by
  unfold bal
  rw [sumI_congr (f := flo [] w) (g := fun _ => 0) fun e _ => by unfold flo; rw [if_neg (by simp)]]
  exact sumI_zero all
theorem FOk.zero {all : List O3} {place : Nat} : FOk all [] place 0 := fun w => by rw [bal_nil]; simp
theorem FOk.more {all : List O3} {used used' : List Int} {place r : Nat} (F : FOk all used place r) (h : ∀ w, bal all used' w = bal all used w + (ind (0 = w) - ind (place = w))) : FOk all used' place (r + 1) := fun w => by
  rw [h w, F w]
  push_cast
  rw [Int.add_mul, Int.one_mul]

/-! ### narrow sets -/
/-- how many pipes enter a set -/
def cut (all : List O3) (S : List Nat) : Nat := (all.filter fun e => decide (e.2.1 ∉ S ∧ e.2.2 ∈ S)).length
theorem bal_sum {all : List O3} {used : List Int} {S : List Nat} (nd : S.Nodup) : sumI (bal all used) S = sumI (fun e => if (e.1 : Int) ∈ used then ind (e.2.1 ∈ S) - ind (e.2.2 ∈ S) else 0) all := by
  show sumI (fun w => sumI (flo used w) all) S = _
  rw [sumI_swap (fun w e => flo used w e) S all]
  refine sumI_congr fun e _ => ?_
  show sumI (fun w => flo used w e) S = _
  unfold flo
  split
  · have : sumI (fun w => ind (e.2.1 = w) - ind (e.2.2 = w)) S = sumI (fun w => ind (e.2.1 = w) + - ind (e.2.2 = w)) S := sumI_congr fun w _ => by omega
    rw [this, sumI_add, sumI_neg, sumI_ind nd, sumI_ind nd]
    omega
  · exact sumI_zero S
theorem FOk.sum {all : List O3} {used : List Int} {place r : Nat} (F : FOk all used place r) {S : List Nat} (nd : S.Nodup) (h0 : 0 ∉ S) (hp : place ∈ S) : sumI (bal all used) S = - (r : Int) := by
  have : sumI (bal all used) S = sumI (fun w => (r : Int) * ind (0 = w) + - ((r : Int) * ind (place = w))) S := sumI_congr fun w _ => by rw [F w, Int.mul_sub]; omega
  have mul : ∀ v, sumI (fun w => (r : Int) * ind (v = w)) S = (r : Int) * sumI (fun w => ind (v = w)) S := fun v => by
    clear nd h0 hp this
    induction S with
    | nil => show (0 : Int) = _; simp [sumI]
    | cons x S ih =>
      show (r : Int) * ind (v = x) + sumI _ S = (r : Int) * (ind (v = x) + sumI _ S)
      rw [ih, Int.mul_add]
  rw [this, sumI_add, sumI_neg, mul, mul, sumI_ind nd, sumI_ind nd, ind_f h0, ind_t hp]
  omega
theorem cut_sum (all : List O3) (S : List Nat) : (cut all S : Int) = sumI (fun e => ind (e.2.1 ∉ S ∧ e.2.2 ∈ S)) all := by
  unfold cut
  rw [← sumI_count]
  exact sumI_congr fun e _ => by unfold ind; simp
/-- no set is too narrow -/
theorem FOk.le_cut {all : List O3} {used : List Int} {place r : Nat} (F : FOk all used place r) {S : List Nat} (nd : S.Nodup) (h0 : 0 ∉ S) (hp : place ∈ S) : r ≤ cut all S := by
  have h1 := F.sum nd h0 hp
  rw [bal_sum nd] at h1
  have h2 : sumI (fun e => - ind (e.2.1 ∉ S ∧ e.2.2 ∈ S)) all ≤ sumI (fun (e : O3) => if (e.1 : Int) ∈ used then ind (e.2.1 ∈ S) - ind (e.2.2 ∈ S) else 0) all := sumI_le fun e _ => by
    unfold ind
    split <;> (repeat' split) <;> simp_all
  rw [sumI_neg, ← cut_sum] at h2
  omega
/-- the places not come to are as narrow as may be -/
theorem FOk.cut_eq {all : List O3} {used : List Int} {size place r : Nat} {st : Stps} (F : FOk all used place r) (S : SOk all used size st) {T : List Nat} (nd : T.Nodup) (hT : ∀ e ∈ all, (e.2.1 ∈ T ↔ ¬ rc st e.2.1) ∧ (e.2.2 ∈ T ↔ ¬ rc st e.2.2)) (h0 : 0 ∉ T) (hp : place ∈ T) : r = cut all T := by
  have h1 := F.sum nd h0 hp
  rw [bal_sum nd] at h1
  have h2 : sumI (fun e => - ind (e.2.1 ∉ T ∧ e.2.2 ∈ T)) all = sumI (fun (e : O3) => if (e.1 : Int) ∈ used then ind (e.2.1 ∈ T) - ind (e.2.2 ∈ T) else 0) all := sumI_congr fun e he => by
    have f := S.fwd e he
    have b := S.bwd e he
    obtain ⟨t1, t2⟩ := hT e he
    by_cases c1 : (e.1 : Int) ∈ used
    · rw [if_pos c1]
      by_cases c2 : rc st e.2.2
      · have := b c2 c1
        rw [ind_f (fun z => (t2.mp z.2) c2), ind_f (fun z => (t1.mp z) this), ind_f (fun z => (t2.mp z) c2)]
        rfl
      · by_cases c3 : rc st e.2.1
        · rw [ind_t ⟨fun z => t1.mp z c3, t2.mpr c2⟩, ind_f (fun z => (t1.mp z) c3), ind_t (t2.mpr c2)]
          rfl
        · rw [ind_f (fun z => z.1 (t1.mpr c3)), ind_t (t1.mpr c3), ind_t (t2.mpr c2)]
          rfl
    · rw [if_neg c1, ind_f]
      · rfl
      · intro z
        have c2 : rc st e.2.1 := Decidable.not_not.mp fun q => z.1 (t1.mpr q)
        exact t2.mp z.2 (f c2 c1)
  rw [sumI_neg, ← cut_sum] at h2
  omega
end Z

set_option maxRecDepth 100000
namespace Z
open PySem PySem.Spec PyProof.Rows L2

/-! ### one way more, again and again -/
open Classical in
noncomputable def oneMore (st : Stps) (used : List Int) (v : Nat) : List Int := if h : ∃ l, Pth st v l then togs (Classical.choose h) used else used
theorem oneMore_eq {st : Stps} {used : List Int} {v : Nat} {l : List (Nat × Bool)} (h : Pth st v l) : oneMore st used v = togs l used := by
  have hh : ∃ l, Pth st v l := ⟨l, h⟩
  unfold oneMore
  rw [dif_pos hh, (Classical.choose_spec hh).det h]
noncomputable def spSt (size : Nat) (all : List O3) (place : Nat) : Nat → List Int
  | 0 => []
  | k + 1 => oneMore (comeFrom size all (spSt size all place k)) (spSt size all place k) place
noncomputable def spSteps (size : Nat) (all : List O3) (place k : Nat) : Stps := comeFrom size all (spSt size all place k)
def blk (st : Stps) (place : Nat) : Prop := stAt st place = none
instance (st : Stps) (place : Nat) : Decidable (blk st place) := by unfold blk; infer_instance
noncomputable def spGo (size : Nat) (all : List O3) (place : Nat) : Nat → Nat → Nat
  | 0, g => g
  | l + 1, g => if blk (spSteps size all place g) place then g else spGo size all place l (g + 1)
noncomputable def spR (size : Nat) (all : List O3) (place many : Nat) : Nat := spGo size all place many 0
theorem spGo_spec {size : Nat} {all : List O3} {place : Nat} : ∀ (l g : Nat), g ≤ spGo size all place l g ∧ spGo size all place l g ≤ g + l ∧ (∀ i, g ≤ i → i < spGo size all place l g → ¬ blk (spSteps size all place i) place) ∧ (spGo size all place l g < g + l → blk (spSteps size all place (spGo size all place l g)) place)
  | 0, g => ⟨Nat.le_refl _, Nat.le_refl _, fun i h1 h2 => by have : i < g := h2; omega, fun h => by have : g < g + 0 := h; omega⟩
  | l + 1, g => by
    unfold spGo
    split
    · rename_i h
      exact ⟨Nat.le_refl _, by omega, fun i h1 h2 => by omega, fun _ => h⟩
    · rename_i h
      obtain ⟨q1, q2, q3, q4⟩ := spGo_spec (size := size) (all := all) (place := place) l (g + 1)
      refine ⟨by omega, by omega, fun i h1 h2 => ?_, fun z => q4 (by omega)⟩
      by_cases c : i = g
      · subst c; exact h
      · exact q3 i (by omega) h2
theorem spR_spec {size : Nat} {all : List O3} {place many : Nat} : spR size all place many ≤ many ∧ (∀ i, i < spR size all place many → ¬ blk (spSteps size all place i) place) ∧ (spR size all place many < many → blk (spSteps size all place (spR size all place many)) place) := by
  obtain ⟨q1, q2, q3, q4⟩ := spGo_spec (size := size) (all := all) (place := place) many 0
  exact ⟨by unfold spR; omega, fun i hi => q3 i (Nat.zero_le _) hi, fun h => q4 (by unfold spR at h; omega)⟩
/-- what holds of the pipes in use -/
structure SpOk (all : List O3) (place r : Nat) (used : List Int) : Prop where
  f : FOk all used place r
  u : UOk all used
theorem spSt_ok {size : Nat} {all : List O3} {place : Nat} (E : EdOk all size) : ∀ (k : Nat), (∀ i, i < k → ¬ blk (spSteps size all place i) place) → SpOk all place k (spSt size all place k)
  | 0, _ => ⟨FOk.zero, ⟨.nil, fun k hk => (nomatch hk)⟩⟩
  | k + 1, h => by
    obtain ⟨F, U⟩ := spSt_ok (place := place) E k fun i hi => h i (by omega)
    have nb := h k (by omega)
    have S := comeFrom_ok (used := spSt size all place k) E
    have hv : rc (comeFrom size all (spSt size all place k)) place := .inr (by
      unfold blk spSteps at nb
      cases q : stAt (comeFrom size all (spSt size all place k)) place with
      | none => exact absurd q nb
      | some x => rfl)
    obtain ⟨l, p1, p2, p3, p4⟩ := path_ok E S hv
    show SpOk all place (k + 1) (oneMore (comeFrom size all (spSt size all place k)) (spSt size all place k) place)
    rw [oneMore_eq p1]
    exact ⟨F.more (p4 _ p2), U.togs p3⟩
/-- the places that no step comes to -/
def byd (size : Nat) (st : Stps) : List Nat := (List.range' 1 (size - 1)).filter fun v => (stAt st v).isNone
theorem mem_byd {size v : Nat} {st : Stps} : v ∈ byd size st ↔ v ≠ 0 ∧ v < size ∧ stAt st v = none := by
  unfold byd
  rw [List.mem_filter, List.mem_range'_1]
  simp only [Option.isNone_iff_eq_none]
  exact ⟨fun h => ⟨by omega, by omega, h.2⟩, fun h => ⟨by omega, h.2.2⟩⟩
theorem byd_nd {size : Nat} {st : Stps} : (byd size st).Pairwise (· < ·) := List.Pairwise.filter _ (List.pairwise_lt_range' (pos := by decide))
theorem byd_not_rc {size v : Nat} {st : Stps} (hv : v < size) : v ∈ byd size st ↔ ¬ rc st v := by
  rw [mem_byd]
  unfold rc
  constructor
  · rintro ⟨h1, _, h3⟩ (z | z)
    · exact h1 z
    · rw [h3] at z; cases z
  · intro h
    refine ⟨fun z => h (.inl z), hv, ?_⟩
    cases q : stAt st v with
    | none => rfl
    | some x => exact absurd (.inr (by rw [q]; rfl)) h
structure GoodSet (size : Nat) (S : List Nat) : Prop where
  nd : S.Pairwise (· < ·)
  lt : ∀ v ∈ S, v < size
  no0 : 0 ∉ S
theorem GoodSet.nodup {size : Nat} {S : List Nat} (h : GoodSet size S) : S.Nodup := h.nd.imp fun q => Nat.ne_of_lt q
theorem byd_good {size : Nat} {st : Stps} : GoodSet size (byd size st) := ⟨byd_nd, fun v hv => (mem_byd.mp hv).2.1, fun z => (mem_byd.mp z).1 rfl⟩
/-- the count of ways: a set as narrow -/
theorem spread_cut {size : Nat} {all : List O3} {place r : Nat} (E : EdOk all size) (h0 : place ≠ 0) (hp : place < size) (hr : ∀ i, i < r → ¬ blk (spSteps size all place i) place) (hb : blk (spSteps size all place r) place) :
    place ∈ byd size (spSteps size all place r) ∧ cut all (byd size (spSteps size all place r)) = r := by
  have h1 := spSt_ok E r hr
  have S := comeFrom_ok (used := spSt size all place r) E
  have hm : place ∈ byd size (spSteps size all place r) := mem_byd.mpr ⟨h0, hp, hb⟩
  refine ⟨hm, (h1.f.cut_eq S (byd_good.nodup) (fun e he => ?_) byd_good.no0 hm).symm⟩
  exact ⟨byd_not_rc (E.lt e he).1, byd_not_rc (E.lt e he).2⟩
theorem spread_le {size : Nat} {all : List O3} {place r : Nat} (E : EdOk all size) (hr : ∀ i, i < r → ¬ blk (spSteps size all place i) place) {S : List Nat} (G : GoodSet size S) (hS : place ∈ S) : r ≤ cut all S :=
  (spSt_ok E r hr).f.le_cut G.nodup G.no0 hS
theorem cut_le {all : List O3} {S : List Nat} : cut all S ≤ all.length := List.length_filter_le _ _
/-- all pipes: never so many ways -/
theorem spread_len {size : Nat} {all : List O3} {place r : Nat} (E : EdOk all size) (h0 : place ≠ 0) (hp : place < size) (hr : ∀ i, i < r → ¬ blk (spSteps size all place i) place) : r ≤ all.length := by
  have G : GoodSet size [place] := ⟨by simp, fun v hv => by simp at hv; omega, by simp; omega⟩
  exact Nat.le_trans (spread_le E hr G (by simp)) cut_le
/-- the number of ways is as many as asked just where no set is too narrow -/
theorem spR_iff {size : Nat} {all : List O3} {place many : Nat} (E : EdOk all size) (h0 : place ≠ 0) (hp : place < size) : spR size all place many = many ↔ ∀ S, GoodSet size S → place ∈ S → many ≤ cut all S := by
  obtain ⟨q1, q2, q3⟩ := spR_spec (size := size) (all := all) (place := place) (many := many)
  constructor
  · intro e S G hS
    have := spread_le E q2 G hS
    omega
  · intro h
    refine Decidable.byContradiction fun c => ?_
    have hlt : spR size all place many < many := by omega
    obtain ⟨m1, m2⟩ := spread_cut E h0 hp q2 (q3 hlt)
    have := h _ byd_good m1
    omega
/-- the greatest number of ways -/
noncomputable def wid (size : Nat) (all : List O3) (place : Nat) : Nat := spR size all place (all.length + 1)
theorem wid_blk {size : Nat} {all : List O3} {place : Nat} (E : EdOk all size) (h0 : place ≠ 0) (hp : place < size) : blk (spSteps size all place (wid size all place)) place ∧ ∀ i, i < wid size all place → ¬ blk (spSteps size all place i) place := by
  obtain ⟨q1, q2, q3⟩ := spR_spec (size := size) (all := all) (place := place) (many := all.length + 1)
  have := spread_len E h0 hp q2
  exact ⟨q3 (by omega), q2⟩
theorem wid_cut {size : Nat} {all : List O3} {place : Nat} (E : EdOk all size) (h0 : place ≠ 0) (hp : place < size) : place ∈ byd size (spSteps size all place (wid size all place)) ∧ cut all (byd size (spSteps size all place (wid size all place))) = wid size all place :=
  spread_cut E h0 hp (wid_blk E h0 hp).2 (wid_blk E h0 hp).1
theorem wid_le {size : Nat} {all : List O3} {place : Nat} (E : EdOk all size) (h0 : place ≠ 0) (hp : place < size) {S : List Nat} (G : GoodSet size S) (hS : place ∈ S) : wid size all place ≤ cut all S := spread_le E (wid_blk E h0 hp).2 G hS
theorem spR_min {size : Nat} {all : List O3} {place many : Nat} (E : EdOk all size) (h0 : place ≠ 0) (hp : place < size) : spR size all place many = min many (wid size all place) := by
  obtain ⟨q1, q2, q3⟩ := spR_spec (size := size) (all := all) (place := place) (many := many)
  obtain ⟨b1, b2⟩ := wid_blk E h0 hp
  by_cases c : spR size all place many < many
  · have hb := q3 c
    have h1 : ¬ spR size all place many < wid size all place := fun z => b2 _ z hb
    have h2 : ¬ wid size all place < spR size all place many := fun z => q2 _ z b1
    omega
  · have h2 : ¬ wid size all place < spR size all place many := fun z => q2 _ z b1
    omega

/-! ### the ways themselves -/
def nextP (all : List O3) (left : List Int) (here : Nat) : Option O3 := all.find? fun e => decide (e.2.1 = here ∧ (e.1 : Int) ∈ left)
inductive Wk (all : List O3) (place : Nat) : List Int → Nat → List Nat → List Int → Prop
  | done {left : List Int} : Wk all place left place [] left
  | step {left left' : List Int} {here : Nat} {e : O3} {row : List Nat} : here ≠ place → nextP all left here = some e → Wk all place (delI left e.1) e.2.2 row left' → Wk all place left here (e.1 :: row) left'
theorem Wk.det {all : List O3} {place : Nat} {left : List Int} {here : Nat} {row : List Nat} {left' : List Int} (h : Wk all place left here row left') : ∀ {row2 left2}, Wk all place left here row2 left2 → row = row2 ∧ left' = left2 := by
  induction h with
  | done =>
    intro r2 l2 h2
    cases h2 with
    | done => exact ⟨rfl, rfl⟩
    | step h0 => exact absurd rfl h0
  | step h0 h1 h2 ih =>
    intro r2 l2 k
    cases k with
    | done => exact absurd rfl h0
    | step g0 g1 g2 =>
      rw [h1] at g1
      cases g1
      obtain ⟨a, b⟩ := ih g2
      exact ⟨by rw [a], b⟩
inductive Wks (all : List O3) (place : Nat) : Nat → List Int → List (List Nat) → Prop
  | nil {left : List Int} : Wks all place 0 left []
  | cons {n : Nat} {left left' : List Int} {row : List Nat} {rows : List (List Nat)} : Wk all place left 0 row left' → Wks all place n left' rows → Wks all place (n + 1) left (row :: rows)
theorem Wks.det {all : List O3} {place n : Nat} {left : List Int} {rows : List (List Nat)} (h : Wks all place n left rows) : ∀ {rows2}, Wks all place n left rows2 → rows = rows2 := by
  induction h with
  | nil => intro r2 h2; cases h2; rfl
  | cons h1 h2 ih =>
    intro r2 k
    cases k with
    | cons g1 g2 =>
      obtain ⟨a, b⟩ := h1.det g1
      subst a
      subst b
      rw [ih g2]
theorem pos_out {used : List Int} {v : Nat} : ∀ {all : List O3}, 0 < bal all used v → ∃ e ∈ all, e.2.1 = v ∧ (e.1 : Int) ∈ used
  | [], h => by have : (0 : Int) < 0 := h; omega
  | e :: all, h => by
    by_cases c : e.2.1 = v ∧ (e.1 : Int) ∈ used
    · exact ⟨e, by simp, c⟩
    · have h' : 0 < flo used v e + bal all used v := h
      have : flo used v e ≤ 0 := by
        unfold flo
        split
        · rename_i hu
          rw [ind_f (fun z => c ⟨z, hu⟩)]
          unfold ind
          split <;> omega
        · exact Int.le_refl _
      obtain ⟨x, h1, h2⟩ := pos_out (used := used) (v := v) (all := all) (by omega)
      exact ⟨x, List.mem_cons_of_mem _ h1, h2⟩
theorem nextP_some {all : List O3} {left : List Int} {here : Nat} (h : ∃ e ∈ all, e.2.1 = here ∧ (e.1 : Int) ∈ left) : ∃ e, nextP all left here = some e ∧ e ∈ all ∧ e.2.1 = here ∧ (e.1 : Int) ∈ left := by
  obtain ⟨e, h1, h2⟩ := h
  have : (nextP all left here).isSome = true := by
    unfold nextP
    rw [List.find?_isSome]
    exact ⟨e, h1, decide_eq_true h2⟩
  obtain ⟨x, hx⟩ := Option.isSome_iff_exists.mp this
  refine ⟨x, hx, List.mem_of_find?_eq_some hx, ?_⟩
  have := List.find?_some hx
  exact of_decide_eq_true this
theorem bal_del {all : List O3} {left : List Int} {size : Nat} {e : O3} (E : EdOk all size) (he : e ∈ all) (h : (e.1 : Int) ∈ left) (v : Nat) : bal all (delI left e.1) v = bal all left v - (ind (e.2.1 = v) - ind (e.2.2 = v)) := by
  have := bal_put (n := e.1) (s := e.2.1) (g := e.2.2) (used := delI left e.1) (used' := left) E he (fun z => (mem_delI.mp z).2 rfl) h (fun m hm => ⟨fun z => mem_delI.mpr ⟨z, hm⟩, fun z => (mem_delI.mp z).1⟩) v
  omega
theorem delI_len {left : List Int} {n : Int} (h : n ∈ left) : (delI left n).length < left.length := by
  unfold delI
  rw [List.length_filter_lt_length_iff_exists]
  exact ⟨n, h, by simp⟩
/-- a row of pipes, end to end -/
def lnk (all : List O3) : Nat → List Nat → Nat → Prop
  | u, [], v => u = v
  | u, k :: ks, v => ∃ e ∈ all, e.1 = k ∧ e.2.1 = u ∧ lnk all e.2.2 ks v
/-- what a walk tells -/
structure RowOk (all : List O3) (place : Nat) (left : List Int) (here : Nat) (row : List Nat) (left' : List Int) : Prop where
  wk : Wk all place left here row left'
  ln : lnk all here row place
  nd : row.Nodup
  inl : ∀ k ∈ row, (k : Int) ∈ left ∧ (k : Int) ∉ left'
  sub : ∀ k ∈ left', k ∈ left
theorem walk_ok {all : List O3} {size place r : Nat} (E : EdOk all size) : ∀ (n : Nat) (left : List Int) (here : Nat), left.length < n → (∀ w, bal all left w = (r : Int) * (ind (0 = w) - ind (place = w)) + (ind (here = w) - ind (place = w))) →
    ∃ row left', RowOk all place left here row left' ∧ FOk all left' place r
  | 0, left, here, h, _ => by omega
  | n + 1, left, here, h, hb => by
    by_cases c : here = place
    · subst c
      refine ⟨[], left, ⟨.done, rfl, .nil, fun k hk => (nomatch hk), fun k hk => hk⟩, fun w => ?_⟩
      rw [hb w]
      omega
    · have hpos : 0 < bal all left here := by
        rw [hb here, ind_t rfl, ind_f (show ¬ place = here from fun z => c z.symm)]
        unfold ind
        split <;> simp <;> omega
      obtain ⟨e, q1, q2, q3, q4⟩ := nextP_some (pos_out hpos)
      have hlen := delI_len q4
      obtain ⟨row, left', w, F⟩ := walk_ok (place := place) (r := r) E n (delI left e.1) e.2.2 (by omega) fun v => by
        rw [bal_del E q2 q4, hb v, q3]
        omega
      refine ⟨e.1 :: row, left', ⟨.step c q1 w.wk, ⟨e, q2, rfl, q3, w.ln⟩, ?_, fun k hk => ?_, fun k hk => (mem_delI.mp (w.sub k hk)).1⟩, F⟩
      · rw [List.nodup_cons]
        exact ⟨fun z => (mem_delI.mp (w.inl _ z).1).2 rfl, w.nd⟩
      · rcases List.mem_cons.mp hk with rfl | hk
        · exact ⟨q4, fun z => (mem_delI.mp (w.sub _ z)).2 rfl⟩
        · exact ⟨(mem_delI.mp (w.inl k hk).1).1, (w.inl k hk).2⟩
structure WksOk (all : List O3) (place : Nat) (left : List Int) (rows : List (List Nat)) : Prop where
  ln : ∀ row ∈ rows, lnk all 0 row place ∧ row.Nodup
  nd : rows.flatten.Nodup
  inl : ∀ k ∈ rows.flatten, (k : Int) ∈ left
theorem walks_ok {all : List O3} {size place : Nat} (E : EdOk all size) : ∀ (m : Nat) {r : Nat} {left : List Int}, m ≤ r → FOk all left place r → ∃ rows, Wks all place m left rows ∧ WksOk all place left rows ∧ rows.length = m
  | 0, r, left, _, _ => ⟨[], .nil, ⟨fun row h => (nomatch h), .nil, fun k h => (nomatch h)⟩, rfl⟩
  | m + 1, r, left, h, F => by
    obtain ⟨r, rfl⟩ : ∃ q, r = q + 1 := ⟨r - 1, by omega⟩
    obtain ⟨row, left', w, F'⟩ := walk_ok (place := place) (r := r) E (left.length + 1) left 0 (by omega) fun v => by
      rw [F v]
      push_cast
      rw [Int.add_mul, Int.one_mul]
    obtain ⟨rows, w1, w2, w3⟩ := walks_ok E m (r := r) (by omega) F'
    refine ⟨row :: rows, .cons w.wk w1, ⟨fun x hx => ?_, ?_, fun k hk => ?_⟩, by simp [w3]⟩
    · rcases List.mem_cons.mp hx with rfl | hx
      · exact ⟨w.ln, w.nd⟩
      · exact w2.ln x hx
    · rw [List.flatten_cons, List.nodup_append]
      refine ⟨w.nd, w2.nd, fun a ha b hb => ?_⟩
      intro z
      subst z
      exact (w.inl a ha).2 (w2.inl a hb)
    · rw [List.flatten_cons] at hk
      rcases List.mem_append.mp hk with q | q
      · exact (w.inl k q).1
      · exact w.sub k (w2.inl k q)
open Classical in
noncomputable def walkedOf (all : List O3) (place m : Nat) (left : List Int) : List (List Nat) := if h : ∃ rows, Wks all place m left rows then Classical.choose h else []
theorem walkedOf_ok {all : List O3} {size place m r : Nat} {left : List Int} (E : EdOk all size) (h : m ≤ r) (F : FOk all left place r) : Wks all place m left (walkedOf all place m left) ∧ WksOk all place left (walkedOf all place m left) ∧ (walkedOf all place m left).length = m := by
  obtain ⟨rows, w1, w2, w3⟩ := walks_ok E m h F
  have hh : ∃ rows, Wks all place m left rows := ⟨rows, w1⟩
  unfold walkedOf
  rw [dif_pos hh]
  have := (Classical.choose_spec hh).det w1
  rw [this]
  exact ⟨w1, w2, w3⟩
end Z

set_option maxRecDepth 100000
namespace Z
open PySem PySem.Spec PyProof.Rows L2

theorem if_to {t : VB} {T U : VT} {Q : Out → Prop} {Γ Γ' : En} {p : Prop} [Decidable p] (e : t Γ = some (decide p)) (h1 : p → ∀ Q : Out → Prop, Q (.nx Γ') → T Q Γ) (h2 : ¬ p → ∀ Q : Out → Prop, Q (.nx Γ') → U Q Γ) (hq : Q (.nx Γ')) : ifT t T U Q Γ :=
  if_d e (fun c => h1 c Q hq) fun c => h2 c Q hq
theorem fEq_nat (a b : Nat) : fEq (dInt a) (dInt b) = some (.bl (decide (a = b))) := by
  show some (D.bl (decide ((a : Int) = (b : Int)))) = _
  by_cases c : a = b
  · subst c; simp
  · have : ¬ (a : Int) = (b : Int) := by omega
    simp [c, this]
theorem eqE {Γ : En} {f h : VF} {a b : Nat} (h1 : f Γ = some (dInt a)) (h2 : h Γ = some (dInt b)) : v2 fEq f h Γ = some (.bl (decide (a = b))) := v2e h1 h2 (fEq_nat a b)
theorem neE {Γ : En} {f h : VF} {a b : Nat} (h1 : f Γ = some (dInt a)) (h2 : h Γ = some (dInt b)) : v2 fNe f h Γ = some (.bl (decide (a ≠ b))) := v2e h1 h2 (by unfold fNe; rw [fEq_nat]; show some (D.bl (!decide (a = b))) = _; simp)
theorem inME {Γ : En} {f : VF} {h : En → Option (List Int)} {n : Nat} {ks : List Int} (h1 : f Γ = some (dInt n)) (h2 : h Γ = some ks) : v2 (fInM false) f h Γ = some (.bl (decide ((n : Int) ∈ ks))) := v2e h1 h2 rfl
theorem notInME {Γ : En} {f : VF} {h : En → Option (List Int)} {n : Nat} {ks : List Int} (h1 : f Γ = some (dInt n)) (h2 : h Γ = some ks) : v2 (fInM true) f h Γ = some (.bl (decide ((n : Int) ∉ ks))) := v2e h1 h2 (by show some (D.bl (!decide ((n : Int) ∈ ks))) = _; simp)

/-! ### steps -/
def dSt : Stp → D
  | none => .non
  | some x => dP x
def dSts (st : Stps) : List D := st.map dSt
theorem dSts_len (st : Stps) : (dSts st).length = st.length := List.length_map ..
theorem dSts_set (st : Stps) (g : Nat) (x : Nat × Nat × Bool) : dSts (st.set g (some x)) = (dSts st).set g (dP x) := by
  unfold dSts
  rw [List.map_set]
  rfl
theorem dNs_snoc (l : List Nat) (g : Nat) : dNs (l ++ [g]) = dNs l ++ [dInt g] := by
  unfold dNs
  rw [List.map_append]
  rfl
theorem dNs_len (l : List Nat) : (dNs l).length = l.length := List.length_map ..
instance : Cd Stp where
  enc := dSt
  dec := fun d => match d with
    | .non => some none
    | d => (unP d).map some
  de := fun x => by
    cases x with
    | none => rfl
    | some x =>
      show (unP (dP x)).map some = _
      rw [show unP (dP x) = some x from Cd.de (α := P3) x]
      rfl
  ed := fun d x h => by
    split at h
    · cases h; rfl
    · obtain ⟨y, h1, h2⟩ := Option.map_eq_some_iff.mp h
      subst h2
      exact Cd.ed (α := P3) _ _ h1
theorem decs_dSts (st : Stps) : decs (dSts st) = some st := decs_enc st
theorem dSts_some {ds : List D} {st : Stps} (h : decs ds = some st) : ds = dSts st := decs_some h
theorem stAt_some {st : Stps} {v : Nat} (h : v < st.length) : st[v]? = some (stAt st v) := by unfold stAt; simp [h]
theorem atI_st {st : Stps} {v : Nat} (h : v < st.length) : atI (dSts st) (v : Int) = some (dSt (stAt st v)) := by
  refine atI_nat ?_
  unfold dSts
  rw [List.getElem?_map, stAt_some h]
  rfl
theorem isNon_dSt (x : Stp) : isNon (dSt x) = decide (x = none) := by cases x <;> rfl
theorem stNE {Γ : En} {f : VF} {x : Stp} (h : f Γ = some (dSt x)) : v2 fIsN f (vC .non) Γ = some (.bl (decide (x = none))) := v2e h rfl (by show some (D.bl (isNon (dSt x))) = _; rw [isNon_dSt])
theorem stSE {Γ : En} {f : VF} {x : Stp} (h : f Γ = some (dSt x)) : v2 fNotN f (vC .non) Γ = some (.bl (decide (x ≠ none))) := v2e h rfl (by show some (D.bl (!isNon (dSt x))) = _; rw [isNon_dSt]; simp)
open Classical in
noncomputable def F_come_from : FN
  | [.val (.int s), .val (.lst ds), .val (.dic ks)] => (decs ds : Option (List O3)).bind fun all => if 0 ≤ s ∧ s ≤ 1000 ∧ EdOk all s.toNat then some (.inl (.own .loc (dSts (comeFrom s.toNat all ks)))) else none
  | _ => none
theorem F_comeFrom {s : Nat} {all : List O3} {ks : List Int} (h : s ≤ 1000) (E : EdOk all s) : F_come_from [.val (.int (s : Int)), .val (.lst (dOs all)), .val (.dic ks)] = some (.inl (.own .loc (dSts (comeFrom s all ks)))) := by
  show (decs (dOs all)).bind _ = _
  rw [decs_dOs, Option.bind_some]
  exact ite_some ⟨Int.natCast_nonneg s, by omega, E⟩
/-- come_from: 0 size 1 pipes 2 used 3 steps 4 line 5 done 6 here 7 number 8 start 9 goal 10 place -/
def t_come_from : VT := (seqT (asgO 3 (vLc [10] (lRng1 (vVar 0)) (gN 10) bT (vC .non))) (seqT (asgO 4 (oLst (aCons (vC (.int 0)) aNil))) (seqT (asgV 5 (vC (.int 0))) (seqT (whileT (bV (v2 fLt (vVar 5) (v1 fLenL (lVar 4)))) (seqT (asgV 6 (v2 fIxL (lVar 4) (vVar 5))) (seqT (asgV 5 (v2 fAdd (vVar 5) (vC (.int 1)))) (seqT (forT (v1 dL (vVar 1)) (gT [7, 8, 9]) (seqT (ifT (bAnd (bV (v2 fEq (vVar 8) (vVar 6))) (bAnd (bV (v2 (fInM true) (vVar 7) (mVar 2))) (bAnd (bV (v2 fNe (vVar 9) (vC (.int 0)))) (bV (v2 fIsN (v2 fIxL (lVar 3) (vVar 9)) (vC .non)))))) (seqT (setT 3 (vVar 9) (vTup (aCons (vVar 7) (aCons (vVar 8) (aCons (vC (.bl true)) aNil))))) (seqT (appT 4 (vVar 9)) skipT)) skipT) (seqT (ifT (bAnd (bV (v2 fEq (vVar 9) (vVar 6))) (bAnd (bV (v2 (fInM false) (vVar 7) (mVar 2))) (bAnd (bV (v2 fNe (vVar 8) (vC (.int 0)))) (bV (v2 fIsN (v2 fIxL (lVar 3) (vVar 8)) (vC .non)))))) (seqT (setT 3 (vVar 8) (vTup (aCons (vVar 7) (aCons (vVar 9) (aCons (vC (.bl false)) aNil))))) (seqT (appT 4 (vVar 8)) skipT)) skipT) skipT))) skipT)))) (seqT (retS 3) skipT)))))
abbrev cfE (n : Nat) (all : List O3) (used : List Int) (x : Cst) (tl : List (Option Sl)) : En := some (.val (.int (n : Int))) :: some (.val (.lst (dOs all))) :: some (.val (.dic used)) :: some (.own .loc (dSts x.1)) :: some (.own .loc (dNs x.2)) :: tl
theorem v_come_from : ∀ ss r, ss.length = 3 → F_come_from ss = some r → t_come_from (postP r) (En0 ss 11) ∧ ∃ s, r = .inl s := by
  intro ss r hl h
  unfold F_come_from at h
  split at h
  · rename_i s ds ks
    obtain ⟨all, e1, h'⟩ := Option.bind_eq_some_iff.mp h
    clear h
    split at h'
    · rename_i hs
      have h'' := Option.some.inj h'
      clear h'
      subst h''
      cases dOs_some e1
      obtain ⟨s, rfl⟩ := Int.eq_ofNat_of_zero_le hs.1
      obtain ⟨_, h2, E⟩ := hs
      simp only [Int.toNat_natCast] at E ⊢
      refine ⟨?_, _, rfl⟩
      refine ⟨_, vlc_map (h := fun (_ : Nat) => D.non) (rng1e (i := (s : Int)) rfl (by omega)) (by simp; omega) (fun k hk => lcS1 rfl rfl rfl), ?_⟩
      refine ⟨_, rfl, ?_⟩
      refine ⟨_, rfl, ?_⟩
      refine ⟨fun m Γ => ∃ (x : Cst) (d : Nat) (v6 v7 v8 v9 v10 : Option Sl), COk all ks s x ∧ d ≤ x.2.length ∧ s + 1 ≤ m + d ∧ (cfGo ks all m d x).1 = comeFrom s all ks ∧
        Γ = cfE s all ks x [some (.val (dInt d)), v6, v7, v8, v9, v10], ⟨s + 1, cf0 s, 0, none, none, none, none, none, cf0_ok E, Nat.zero_le _, by omega, rfl, ?_⟩, ?_⟩
      · have e0 : ((List.range ((s : Int)).toNat).map fun (_ : Nat) => D.non) = dSts (cf0 s).1 := by
          rw [Int.toNat_natCast]
          unfold cf0 dSts
          simp only
          rw [List.map_replicate, List.map_const', List.length_range]
          rfl
        rw [e0]
        rfl
      rintro m Γ ⟨x, d, v6, v7, v8, v9, v10, C, hd, hm, q, rfl⟩
      refine ⟨decide ((d : Int) < (x.2.length : Int)), ?_, fun hb => ?_, fun hb => ?_⟩
      · exact bVe (v2e rfl (v1e (x := dNs x.2) (y := .int (x.2.length : Int)) rfl (by simp [fLenL, dNs])) rfl)
      · have hdl : d < x.2.length := by have := of_decide_eq_true hb; omega
        have hls := nodup_lt_len C.nd C.lt
        obtain ⟨h, hh⟩ : ∃ h, x.2[d]? = some h := ⟨_, List.getElem?_eq_getElem hdl⟩
        have hmem := List.mem_of_getElem? hh
        cases m with
        | zero => omega
        | succ m =>
          have q' : (cfGo ks all m (d + 1) (cfPass ks all h x)).1 = comeFrom s all ks := by
            rw [← q]
            conv => rhs; unfold cfGo
            rw [hh]
          refine ⟨dInt h, v2e (x := dNs x.2) (y := dInt d) rfl rfl (atI_nat (by unfold dNs; rw [List.getElem?_map, hh]; rfl)), ?_⟩
          refine ⟨dInt (d + 1), rfl, ?_⟩
          refine ⟨dOs all, rfl, ?_⟩
          refine loopT_inv (enc := dO3) (fun rest Γ => ∃ (y : Cst) (v7 v8 v9 : Option Sl), COk all ks s y ∧ h ∈ y.2 ∧ (∀ e ∈ rest, e ∈ all) ∧ rest.foldl (cfStep ks h) y = cfPass ks all h x ∧
            Γ = cfE s all ks y [some (.val (dInt (d + 1))), some (.val (dInt h)), v7, v8, v9, v10]) ?_ ?_ all _ ⟨x, v7, v8, v9, C, hmem, fun _ h => h, rfl, rfl⟩
          · rintro ⟨k, a, g⟩ rest Γ kk ⟨y, v7, v8, v9, Cy, hy, hr, qy, rfl⟩ hk
            refine ⟨_, rfl, ?_⟩
            have he := hr (k, a, g) (by simp)
            have hag : a < s ∧ g < s := E.lt (k, a, g) he
            obtain ⟨C2, hy2⟩ := cfStep_ok E Cy he hy
            have hls := nodup_lt_len Cy.nd Cy.lt
            have C1 : COk all ks s (cfStep1 ks h y (k, a, g)) := by
              unfold cfStep1
              split
              · rename_i c
                exact Cy.add c.2.2.1 hag.2 c.2.2.2 (c.1 ▸ hy) (fun _ => ⟨he, c.2.1⟩) (fun z => (nomatch z))
              · exact Cy
            have hl1 := nodup_lt_len C1.nd C1.lt
            refine if_to (Γ' := cfE s all ks (cfStep1 ks h y (k, a, g)) [some (.val (dInt (d + 1))), some (.val (dInt h)), some (.val (dInt k)), some (.val (dInt a)), some (.val (dInt g)), v10]) (p := a = h ∧ (k : Int) ∉ ks ∧ g ≠ 0 ∧ stAt y.1 g = none)
              (bAnd_d (bVe (eqE rfl rfl)) fun _ => bAnd_d (bVe (notInME rfl rfl)) fun _ => bAnd_d (bVe (neE (b := 0) rfl rfl)) fun _ => bVe (stNE (v2e rfl rfl (atI_st (v := g) (by rw [Cy.len]; exact hag.2))))) (fun c Q hq => ?_) (fun c Q hq => ?_) ?_
            · refine ⟨(by intro z; cases z), dP (k, a, true), (g : Int), g, rfl, rfl, ixN_nat (by rw [dSts_len, Cy.len]; exact hag.2), ?_⟩
              refine ⟨(by intro z; cases z), dInt g, rfl, by simp [dNs]; omega, ?_⟩
              have e : cfStep1 ks h y (k, a, g) = (y.1.set g (some (k, a, true)), y.2 ++ [g]) := by unfold cfStep1; rw [if_pos c]
              rw [e] at hq
              unfold cfE at hq
              simp only [dSts_set, dNs_snoc] at hq
              exact hq
            · have e : cfStep1 ks h y (k, a, g) = y := by unfold cfStep1; rw [if_neg c]
              rw [e] at hq
              exact hq
            · have qy' : rest.foldl (cfStep ks h) (cfStep2 ks h (cfStep1 ks h y (k, a, g)) (k, a, g)) = cfPass ks all h x := qy
              have C2' : COk all ks s (cfStep2 ks h (cfStep1 ks h y (k, a, g)) (k, a, g)) ∧ h ∈ (cfStep2 ks h (cfStep1 ks h y (k, a, g)) (k, a, g)).2 := ⟨C2, hy2⟩
              generalize cfStep1 ks h y (k, a, g) = z at *
              refine if_to (Γ' := cfE s all ks (cfStep2 ks h z (k, a, g)) [some (.val (dInt (d + 1))), some (.val (dInt h)), some (.val (dInt k)), some (.val (dInt a)), some (.val (dInt g)), v10]) (p := g = h ∧ (k : Int) ∈ ks ∧ a ≠ 0 ∧ stAt z.1 a = none)
                (bAnd_d (bVe (eqE rfl rfl)) fun _ => bAnd_d (bVe (inME rfl rfl)) fun _ => bAnd_d (bVe (neE (b := 0) rfl rfl)) fun _ => bVe (stNE (v2e rfl rfl (atI_st (v := a) (by rw [C1.len]; exact hag.1))))) (fun c Q hq => ?_) (fun c Q hq => ?_) ?_
              · refine ⟨(by intro z; cases z), dP (k, g, false), (a : Int), a, rfl, rfl, ixN_nat (by rw [dSts_len, C1.len]; exact hag.1), ?_⟩
                refine ⟨(by intro z; cases z), dInt a, rfl, by simp [dNs]; omega, ?_⟩
                have e : cfStep2 ks h z (k, a, g) = (z.1.set a (some (k, g, false)), z.2 ++ [a]) := by unfold cfStep2; rw [if_pos c]
                rw [e] at hq
                unfold cfE at hq
                simp only [dSts_set, dNs_snoc] at hq
                exact hq
              · have e : cfStep2 ks h z (k, a, g) = z := by unfold cfStep2; rw [if_neg c]
                rw [e] at hq
                exact hq
              · exact hk _ ⟨cfStep2 ks h z (k, a, g), some (.val (dInt k)), some (.val (dInt a)), some (.val (dInt g)), C2'.1, C2'.2, fun e h => hr e (List.mem_cons_of_mem _ h), qy', rfl⟩
          · rintro Γ ⟨y, v7, v8, v9, Cy, hy, _, qy, rfl⟩
            have qy : y = cfPass ks all h x := qy
            have more : x.2.length ≤ y.2.length := by
              obtain ⟨_, ⟨mo, em⟩, _⟩ := cfFold_ok (here := h) E (es := all) (fun _ q => q) C hmem
              rw [qy]
              unfold cfPass
              rw [em]
              simp
            exact ⟨m, by omega, y, d + 1, _, v7, v8, v9, v10, Cy, by omega, by omega, by rw [qy]; exact q', rfl⟩
      · have hdl : x.2.length ≤ d := by have := of_decide_eq_false hb; omega
        have q' : x.1 = comeFrom s all ks := by
          rw [← q]
          cases m with
          | zero => rfl
          | succ m =>
            unfold cfGo
            rw [List.getElem?_eq_none_iff.mpr hdl]
        refine ⟨_, rfl, rfl, ?_⟩
        show (Sum.inl (Sl.own .loc (dSts (comeFrom s all ks))) : Rs) = _
        rw [← q']
    · cases h'
  · cases h
end Z

set_option maxRecDepth 100000
namespace Z
open PySem PySem.Spec PyProof.Rows L2

theorem ixS0 {Γ : En} {f : VF} {n u : Nat} {b : Bool} (h : f Γ = some (dP (n, u, b))) : v2 fIx f (vC (.int 0)) Γ = some (dInt n) := v2e h rfl rfl
theorem ixS1 {Γ : En} {f : VF} {n u : Nat} {b : Bool} (h : f Γ = some (dP (n, u, b))) : v2 fIx f (vC (.int 1)) Γ = some (dInt u) := v2e h rfl rfl
theorem ixS2 {Γ : En} {f : VF} {n u : Nat} {b : Bool} (h : f Γ = some (dP (n, u, b))) : v2 fIx f (vC (.int 2)) Γ = some (.bl b) := v2e h rfl rfl
def MayPth (st : Stps) (ks : List Int) (v : Nat) : Prop := ∃ l, Pth st v l ∧ May l ks ∧ ks.length + l.length ≤ 100000
open Classical in
noncomputable def F_one_more : FN
  | [.val (.lst ds), .val (.dic ks), .val (.int p)] => (decs ds : Option Stps).bind fun st => if 0 ≤ p ∧ MayPth st ks p.toNat then some (.inl (.odic .loc (oneMore st ks p.toNat))) else none
  | _ => none
theorem F_oneMore {st : Stps} {ks : List Int} {v : Nat} (h : MayPth st ks v) : F_one_more [.val (.lst (dSts st)), .val (.dic ks), .val (.int (v : Int))] = some (.inl (.odic .loc (oneMore st ks v))) := by
  show (decs (dSts st)).bind _ = _
  rw [decs_dSts, Option.bind_some]
  exact ite_some ⟨Int.natCast_nonneg v, h⟩
/-- one_more: 0 steps 1 used 2 place 3 after 4 step -/
def t_one_more : VT := (seqT (asgO 3 (v1 fDict (mVar 1))) (seqT (whileT (bV (v2 fNe (vVar 2) (vC (.int 0)))) (seqT (asgV 4 (v2 fIx (vVar 0) (vVar 2))) (seqT (ifT (bV (v2 fIx (vVar 4) (vC (.int 2)))) (seqT (dputT 3 (v2 fIx (vVar 4) (vC (.int 0)))) skipT) (seqT (dpopT 3 (v2 fIx (vVar 4) (vC (.int 0)))) skipT)) (seqT (asgV 2 (v2 fIx (vVar 4) (vC (.int 1)))) skipT)))) (seqT (retS 3) skipT)))
theorem tog_len (used : List Int) (x : Nat × Bool) : (tog used x).length ≤ used.length + 1 := by
  unfold tog putI delI
  split
  · split <;> simp
  · exact Nat.le_trans (List.length_filter_le _ _) (by omega)
theorem v_one_more : ∀ ss r, ss.length = 3 → F_one_more ss = some r → t_one_more (postP r) (En0 ss 5) ∧ ∃ s, r = .inl s := by
  intro ss r hl h
  unfold F_one_more at h
  split at h
  · rename_i ds ks p
    obtain ⟨st, e1, h'⟩ := Option.bind_eq_some_iff.mp h
    clear h
    split at h'
    · rename_i hs
      have h'' := Option.some.inj h'
      clear h'
      subst h''
      cases dSts_some e1
      obtain ⟨p0, hs⟩ := hs
      obtain ⟨v, rfl⟩ := Int.eq_ofNat_of_zero_le p0
      rw [Int.toNat_natCast] at hs ⊢
      obtain ⟨l, pth, may, hlen⟩ := hs
      rw [oneMore_eq pth]
      refine ⟨?_, _, rfl⟩
      refine ⟨_, rfl, ?_⟩
      refine ⟨fun m Γ => ∃ (u : Nat) (after : List Int) (l' : List (Nat × Bool)) (v4 : Option Sl), Pth st u l' ∧ May l' after ∧ togs l' after = togs l ks ∧ after.length + l'.length ≤ 100000 ∧ m = l'.length ∧
        Γ = [some (.val (.lst (dSts st))), some (.val (.dic ks)), some (.val (dInt u)), some (.odic .loc after), v4], ⟨l.length, v, ks, l, none, pth, may, rfl, hlen, rfl, rfl⟩, ?_⟩
      rintro m Γ ⟨u, after, l', v4, q1, q2, q3, q4, q5, rfl⟩
      refine ⟨decide (u ≠ 0), bVe (neE (b := 0) rfl rfl), fun hb => ?_, fun hb => ?_⟩
      · have hu := of_decide_eq_true hb
        cases q1 with
        | zero => exact absurd rfl hu
        | step g0 g1 g2 g3 =>
          rename_i n w b l2
          simp only [List.length_cons] at q4 q5
          have may2 := q2.tail
          have st0 := q2.2 (n, b) (by simp)
          have tl := tog_len after (n, b)
          refine ⟨dP (n, w, b), v2e rfl rfl (by
            have := atI_st g1
            rw [g2] at this
            exact this), ?_⟩
          refine if_to (Γ' := [some (.val (.lst (dSts st))), some (.val (.dic ks)), some (.val (dInt u)), some (.odic .loc (tog after (n, b))), some (.val (dP (n, w, b)))]) (p := b = true) (bVe (by
            have := ixS2 (Γ := [some (.val (.lst (dSts st))), some (.val (.dic ks)), some (.val (dInt u)), some (.odic .loc after), some (.val (dP (n, w, b)))]) (f := vVar 4) (n := n) (u := w) (b := b) rfl
            rw [show decide (b = true) = b by simp]
            exact this)) (fun c Q hq => ?_) (fun c Q hq => ?_) ?_
          · subst c
            exact ⟨(by intro z; cases z), (n : Int), ixS0 (n := n) (u := w) (b := true) rfl, by omega, hq⟩
          · have c : b = false := by simpa using c
            subst c
            exact ⟨(by intro z; cases z), (n : Int), ixS0 (n := n) (u := w) (b := false) rfl, st0.2 rfl, hq⟩
          · refine ⟨dInt w, ixS1 (n := n) (u := w) (b := b) rfl, ?_⟩
            exact ⟨l2.length, by omega, w, tog after (n, b), l2, _, g3, may2, q3, by omega, rfl, rfl⟩
      · have hu : u = 0 := by simpa using of_decide_eq_false hb
        subst hu
        cases q1 with
        | zero =>
          refine ⟨_, rfl, rfl, ?_⟩
          show (Sum.inl (Sl.odic .loc (togs l ks)) : Rs) = _
          rw [← q3]
          rfl
        | step g0 => exact absurd rfl g0
    · cases h'
  · cases h
theorem spSt_may {size : Nat} {all : List O3} {place : Nat} (E : EdOk all size) (hl : all.length ≤ 1000) {k : Nat} (h : ∀ i, i ≤ k → ¬ blk (spSteps size all place i) place) : MayPth (spSteps size all place k) (spSt size all place k) place := by
  obtain ⟨F, U⟩ := spSt_ok (place := place) E k fun i hi => h i (by omega)
  have nb := h k (by omega)
  have S := comeFrom_ok (used := spSt size all place k) E
  have hv : rc (comeFrom size all (spSt size all place k)) place := .inr (by
    unfold blk spSteps at nb
    cases q : stAt (comeFrom size all (spSt size all place k)) place with
    | none => exact absurd q nb
    | some x => rfl)
  obtain ⟨l, p1, p2, p3, p4⟩ := path_ok E S hv
  refine ⟨l, p1, p2, ?_⟩
  have h1 := U.len
  have h2 : (l.map (·.1)).length ≤ (all.map (·.1)).length := p2.1.length_le_of_subset fun n hn => by
    obtain ⟨x, hx, e⟩ := List.mem_map.mp hn
    obtain ⟨y, hy, e2⟩ := p3 x hx
    exact List.mem_map.mpr ⟨y, hy, by rw [e2, e]⟩
  simp only [List.length_map] at h2
  omega
noncomputable def spD (size : Nat) (all : List O3) (place r : Nat) : D := .tup [.int (r : Int), .dic (spSt size all place r), .lst (dSts (spSteps size all place r))]
open Classical in
noncomputable def F_spread : FN
  | [.val (.int s), .val (.lst ds), .val (.int p), .val (.int m)] => (decs ds : Option (List O3)).bind fun all => if 0 ≤ s ∧ s ≤ 1000 ∧ EdOk all s.toNat ∧ all.length ≤ 1000 ∧ 0 ≤ p ∧ p < s ∧ 0 ≤ m then
      some (.inl (.val (spD s.toNat all p.toNat (spR s.toNat all p.toNat m.toNat)))) else none
  | _ => none
theorem F_spreadE {s p m : Nat} {all : List O3} (h : s ≤ 1000) (E : EdOk all s) (hl : all.length ≤ 1000) (hp : p < s) : F_spread [.val (.int (s : Int)), .val (.lst (dOs all)), .val (.int (p : Int)), .val (.int (m : Int))] = some (.inl (.val (spD s all p (spR s all p m)))) := by
  show (decs (dOs all)).bind _ = _
  rw [decs_dOs, Option.bind_some]
  exact ite_some ⟨Int.natCast_nonneg s, by omega, E, hl, Int.natCast_nonneg p, by omega, Int.natCast_nonneg m⟩
/-- spread: 0 size 1 pipes 2 place 3 many 4 used 5 steps 6 gone -/
def t_spread : VT := (seqT (asgV 4 (v1 slD oDic0)) (seqT (asgV 5 (v1 slD (v1 inlO (xCall 3 F_come_from (rV (vVar 0) (rV (vVar 1) (rV (vVar 4) rNil))))))) (seqT (asgV 6 (vC (.int 0))) (seqT (whileT (bAnd (bV (v2 fLt (vVar 6) (vVar 3))) (bV (v2 fNotN (v2 fIx (vVar 5) (vVar 2)) (vC .non)))) (seqT (asgV 4 (v1 slD (v1 inlO (xCall 3 F_one_more (rV (vVar 5) (rV (vVar 4) (rV (vVar 2) rNil))))))) (seqT (asgV 5 (v1 slD (v1 inlO (xCall 3 F_come_from (rV (vVar 0) (rV (vVar 1) (rV (vVar 4) rNil))))))) (seqT (asgV 6 (v2 fAdd (vVar 6) (vC (.int 1)))) skipT)))) (seqT (retV (vTup (aCons (vVar 6) (aCons (vVar 4) (aCons (vVar 5) aNil))))) skipT)))))
theorem v_spread : ∀ ss r, ss.length = 4 → F_spread ss = some r → t_spread (postP r) (En0 ss 7) ∧ ∃ s, r = .inl s := by
  intro ss r hl h
  unfold F_spread at h
  split at h
  · rename_i s ds p mm
    obtain ⟨all, e1, h'⟩ := Option.bind_eq_some_iff.mp h
    clear h
    split at h'
    · rename_i hs
      have h'' := Option.some.inj h'
      clear h'
      subst h''
      cases dOs_some e1
      obtain ⟨h1, h2, E, h3, h4, h5, h6⟩ := hs
      obtain ⟨s, rfl⟩ := Int.eq_ofNat_of_zero_le h1
      obtain ⟨p, rfl⟩ := Int.eq_ofNat_of_zero_le h4
      obtain ⟨mm, rfl⟩ := Int.eq_ofNat_of_zero_le h6
      simp only [Int.toNat_natCast] at E ⊢
      refine ⟨?_, _, rfl⟩
      have hps : p < s := by omega
      have slen : ∀ k, (spSteps s all p k).length = s := fun k => (comeFrom_ok (used := spSt s all p k) E).len
      refine ⟨_, rfl, ?_⟩
      refine ⟨.lst (dSts (spSteps s all p 0)), v1e (v1e (xc rfl ⟨rfl, rfl⟩ rfl (F_comeFrom (by omega) E)) rfl) rfl, ?_⟩
      refine ⟨_, rfl, ?_⟩
      refine ⟨fun m Γ => ∃ (g : Nat), m + g = mm ∧ spGo s all p m g = spR s all p mm ∧ (∀ i, i < g → ¬ blk (spSteps s all p i) p) ∧
        Γ = [some (.val (.int (s : Int))), some (.val (.lst (dOs all))), some (.val (dInt p)), some (.val (.int (mm : Int))), some (.val (.dic (spSt s all p g))), some (.val (.lst (dSts (spSteps s all p g)))), some (.val (dInt g))], ⟨mm, 0, rfl, rfl, fun i hi => by omega, rfl⟩, ?_⟩
      rintro m Γ ⟨g, q1, q2, q3, rfl⟩
      refine ⟨decide (g < mm ∧ stAt (spSteps s all p g) p ≠ none), bAnd_d (bVe (v2e rfl rfl (by show some (D.bl (decide ((g : Int) < (mm : Int)))) = _; simp))) fun _ => bVe (stSE (v2e rfl rfl (atI_st (v := p) (by rw [slen]; exact hps)))), fun hb => ?_, fun hb => ?_⟩
      · obtain ⟨c1, c2⟩ := of_decide_eq_true hb
        have q3' : ∀ i, i ≤ g → ¬ blk (spSteps s all p i) p := fun i hi => by
          by_cases z : i = g
          · subst z; exact c2
          · exact q3 i (by omega)
        refine ⟨.dic (spSt s all p (g + 1)), v1e (v1e (xc rfl ⟨rfl, rfl⟩ rfl (F_oneMore (spSt_may E h3 q3'))) rfl) rfl, ?_⟩
        refine ⟨.lst (dSts (spSteps s all p (g + 1))), v1e (v1e (xc rfl ⟨rfl, rfl⟩ rfl (F_comeFrom (by omega) E)) rfl) rfl, ?_⟩
        refine ⟨dInt (g + 1), rfl, ?_⟩
        cases m with
        | zero => omega
        | succ m =>
          refine ⟨m, by omega, g + 1, by omega, ?_, fun i hi => q3' i (by omega), rfl⟩
          rw [← q2]
          conv => rhs; unfold spGo
          rw [if_neg (show ¬ blk (spSteps s all p g) p from c2)]
      · have hb := of_decide_eq_false hb
        have hr : spR s all p mm = g := by
          rw [← q2]
          cases m with
          | zero => rfl
          | succ m =>
            unfold spGo
            rw [if_pos]
            exact Decidable.byContradiction fun z => hb ⟨by omega, z⟩
        rw [hr]
        exact ⟨_, rfl, rfl⟩
    · cases h'
  · cases h

/-! ### walks along what is in use -/
def mD : Sl → Option (List Int)
  | .val (.dic ks) => some ks
  | .odic .ro ks => some ks
  | _ => none
def nxD : Option O3 → D
  | some e => .tup [.int (e.1 : Int), .int (e.2.2 : Int)]
  | none => .non
def F_next_pipe : FN
  | [.val (.lst ds), x, .val (.int h)] => (decs ds : Option (List O3)).bind fun all => (mD x).bind fun ks => if 0 ≤ h then some (.inl (.val (nxD (nextP all ks h.toNat)))) else none
  | _ => none
theorem F_nextP {all : List O3} {x : Sl} {ks : List Int} {h : Nat} (hx : mD x = some ks) : F_next_pipe [.val (.lst (dOs all)), x, .val (.int (h : Int))] = some (.inl (.val (nxD (nextP all ks h)))) := by
  show (decs (dOs all)).bind _ = _
  rw [decs_dOs, Option.bind_some, hx, Option.bind_some]
  exact ite_some (Int.natCast_nonneg h)
theorem mVar_of {x : Sl} {ks : List Int} (h : mD x = some ks) (a : Option Sl) (Γ : En) : mVar 1 (a :: some x :: Γ) = some ks := by
  unfold mD at h
  split at h
  · cases h; rfl
  · cases h; rfl
  · cases h
theorem nextP_cons (e : O3) (all : List O3) (ks : List Int) (h : Nat) : nextP (e :: all) ks h = if e.2.1 = h ∧ (e.1 : Int) ∈ ks then some e else nextP all ks h := by
  unfold nextP
  rw [List.find?_cons]
  by_cases c : e.2.1 = h ∧ (e.1 : Int) ∈ ks
  · rw [if_pos c, decide_eq_true c]
  · rw [if_neg c, decide_eq_false c]
theorem nextP_spec {all : List O3} {ks : List Int} {h : Nat} {e : O3} (q : nextP all ks h = some e) : e.2.1 = h ∧ (e.1 : Int) ∈ ks := by
  unfold nextP at q
  have := List.find?_some q
  exact of_decide_eq_true this
/-- next_pipe: 0 pipes 1 used 2 here 3 number 4 start 5 goal -/
def t_next_pipe : VT := (seqT (forT (v1 dL (vVar 0)) (gT [3, 4, 5]) (seqT (ifT (bAnd (bV (v2 fEq (vVar 4) (vVar 2))) (bV (v2 (fInM false) (vVar 3) (mVar 1)))) (seqT (retV (vTup (aCons (vVar 3) (aCons (vVar 5) aNil)))) skipT) skipT) skipT)) (seqT (retV (vC .non)) skipT))
theorem v_next_pipe : ∀ ss r, ss.length = 3 → F_next_pipe ss = some r → t_next_pipe (postP r) (En0 ss 6) ∧ ∃ s, r = .inl s := by
  intro ss r hl h
  unfold F_next_pipe at h
  split at h
  · rename_i ds x hh
    obtain ⟨all, e1, h'⟩ := Option.bind_eq_some_iff.mp h
    obtain ⟨ks, e2, h2⟩ := Option.bind_eq_some_iff.mp h'
    clear h h'
    split at h2
    · rename_i hs
      have h'' := Option.some.inj h2
      clear h2
      subst h''
      cases dOs_some e1
      obtain ⟨hh, rfl⟩ := Int.eq_ofNat_of_zero_le hs
      rw [Int.toNat_natCast]
      refine ⟨?_, _, rfl⟩
      refine ⟨dOs all, rfl, ?_⟩
      refine loopT_inv (enc := dO3) (fun rest Γ => ∃ (v3 v4 v5 : Option Sl), nextP rest ks hh = nextP all ks hh ∧ Γ = [some (.val (.lst (dOs all))), some x, some (.val (dInt hh)), v3, v4, v5]) ?_ ?_ all _ ⟨none, none, none, rfl, rfl⟩
      · rintro ⟨k, a, g⟩ rest Γ kk ⟨v3, v4, v5, q, rfl⟩ hk
        refine ⟨_, rfl, ?_⟩
        refine if_d (p := a = hh ∧ (k : Int) ∈ ks) (bAnd_d (bVe (eqE rfl rfl)) fun _ => bVe (inME rfl (mVar_of e2 _ _))) (fun c => ?_) (fun c => ?_)
        · refine ⟨_, rfl, ?_⟩
          show (Sum.inl (Sl.val (nxD (nextP all ks hh))) : Rs) = _
          rw [← q]
          rw [nextP_cons, if_pos c]
          rfl
        · refine hk _ ⟨_, _, _, ?_, rfl⟩
          rw [← q]
          rw [nextP_cons, if_neg c]
      · rintro Γ ⟨v3, v4, v5, q, rfl⟩
        refine ⟨_, rfl, ?_⟩
        show (Sum.inl (Sl.val (nxD (nextP all ks hh))) : Rs) = _
        rw [← q]
        rfl
    · cases h2
  · cases h
theorem Wk.len {all : List O3} {place : Nat} {left : List Int} {here : Nat} {row : List Nat} {left' : List Int} (h : Wk all place left here row left') : row.length + left'.length ≤ left.length := by
  induction h with
  | done => simp
  | @step left left' here e row h0 h1 h2 ih =>
    have hm := (nextP_spec h1).2
    have := delI_len hm
    simp only [List.length_cons]
    omega
def dRows (rows : List (List Nat)) : List D := rows.map fun r => .lst (dNs r)
open Classical in
noncomputable def F_walked : FN
  | [.val (.lst ds), .val (.dic ks), .val (.int p), .val (.int m)] => (decs ds : Option (List O3)).bind fun all => if 0 ≤ p ∧ 0 ≤ m ∧ m ≤ 10000 ∧ ks.length ≤ 10000 ∧ ∃ rows, Wks all p.toNat m.toNat ks rows then
      some (.inl (.own .loc (dRows (walkedOf all p.toNat m.toNat ks)))) else none
  | _ => none
theorem F_walkedE {all : List O3} {ks : List Int} {p m : Nat} (h1 : m ≤ 10000) (h2 : ks.length ≤ 10000) (h3 : ∃ rows, Wks all p m ks rows) : F_walked [.val (.lst (dOs all)), .val (.dic ks), .val (.int (p : Int)), .val (.int (m : Int))] = some (.inl (.own .loc (dRows (walkedOf all p m ks)))) := by
  show (decs (dOs all)).bind _ = _
  rw [decs_dOs, Option.bind_some]
  exact ite_some ⟨Int.natCast_nonneg p, Int.natCast_nonneg m, by omega, h2, h3⟩
/-- walked: 0 pipes 1 used 2 place 3 many 4 left 5 found 6 turn 7 row 8 here 9 step -/
def t_walked : VT := (seqT (asgO 4 (v1 fDict (mVar 1))) (seqT (asgO 5 (oLst aNil)) (seqT (forT (lRng1 (vVar 3)) (gN 6) (seqT (asgO 7 (oLst aNil)) (seqT (asgV 8 (vC (.int 0))) (seqT (whileT (bV (v2 fNe (vVar 8) (vVar 2))) (seqT (asgV 9 (v1 slD (v1 inlO (xCall 3 F_next_pipe (rV (vVar 0) (rS 4 (rV (vVar 8) rNil))))))) (seqT (appT 7 (v2 fIx (vVar 9) (vC (.int 0)))) (seqT (dpopT 4 (v2 fIx (vVar 9) (vC (.int 0)))) (seqT (asgV 8 (v2 fIx (vVar 9) (vC (.int 1)))) skipT))))) (seqT (frzT 7 (appT 5 (vVar 7))) skipT))))) (seqT (retS 5) skipT))))
theorem v_walked : ∀ ss r, ss.length = 4 → F_walked ss = some r → t_walked (postP r) (En0 ss 10) ∧ ∃ s, r = .inl s := by
  intro ss r hl h
  unfold F_walked at h
  split at h
  · rename_i ds ks p mm
    obtain ⟨all, e1, h'⟩ := Option.bind_eq_some_iff.mp h
    clear h
    split at h'
    · rename_i hs
      have h'' := Option.some.inj h'
      clear h'
      subst h''
      cases dOs_some e1
      obtain ⟨h1, h2, h3, h4, h5⟩ := hs
      obtain ⟨p, rfl⟩ := Int.eq_ofNat_of_zero_le h1
      obtain ⟨mm, rfl⟩ := Int.eq_ofNat_of_zero_le h2
      simp only [Int.toNat_natCast] at h5 ⊢
      have hW : Wks all p mm ks (walkedOf all p mm ks) := by
        unfold walkedOf
        rw [dif_pos h5]
        exact Classical.choose_spec h5
      generalize walkedOf all p mm ks = R at *
      refine ⟨?_, _, rfl⟩
      refine ⟨_, rfl, ?_⟩
      refine ⟨_, rfl, ?_⟩
      refine ⟨_, rng1e (i := (mm : Int)) rfl (by omega), ?_⟩
      rw [Int.toNat_natCast]
      refine loopT_inv (enc := dInt) (fun rest Γ => ∃ (left : List Int) (done todo : List (List Nat)) (v6 v7 v8 v9 : Option Sl), Wks all p rest.length left todo ∧ done ++ todo = R ∧ left.length ≤ 10000 ∧ done.length + rest.length ≤ mm ∧
        Γ = [some (.val (.lst (dOs all))), some (.val (.dic ks)), some (.val (dInt p)), some (.val (.int (mm : Int))), some (.odic .loc left), some (.own .loc (dRows done)), v6, v7, v8, v9]) ?_ ?_ _ _ ⟨ks, [], R, none, none, none, none, by simpa using hW, rfl, h4, by simp, rfl⟩
      · rintro t rest Γ kk ⟨left, done, todo, v6, v7, v8, v9, w, hd, hl4, hl5, rfl⟩ hk
        refine ⟨_, rfl, ?_⟩
        cases w with
        | @cons n left left' row rows w1 w2 =>
          simp only [List.length_cons] at hl5
          refine ⟨_, rfl, ?_⟩
          refine ⟨_, rfl, ?_⟩
          refine ⟨fun m Γ => ∃ (l : List Int) (here : Nat) (rd rt : List Nat) (v9 : Option Sl), Wk all p l here rt left' ∧ rd ++ rt = row ∧ rd.length + l.length ≤ 10000 ∧ m = rt.length ∧
            Γ = [some (.val (.lst (dOs all))), some (.val (.dic ks)), some (.val (dInt p)), some (.val (.int (mm : Int))), some (.odic .loc l), some (.own .loc (dRows done)), some (.val (dInt t)), some (.own .loc (dNs rd)), some (.val (dInt here)), v9], ⟨row.length, left, 0, [], row, v9, w1, rfl, by simpa using hl4, rfl, rfl⟩, ?_⟩
          rintro m Γ ⟨l, here, rd, rt, v9', q1, q2, q3, q4, rfl⟩
          refine ⟨decide (here ≠ p), bVe (neE rfl rfl), fun hb => ?_, fun hb => ?_⟩
          · have hne := of_decide_eq_true hb
            cases q1 with
            | done => exact absurd rfl hne
            | @step _ _ _ e rt g0 g1 g2 =>
              have hm := (nextP_spec g1).2
              have hdl := delI_len hm
              simp only [List.length_cons] at q4
              refine ⟨.tup [.int (e.1 : Int), .int (e.2.2 : Int)], v1e (v1e (xc rfl ⟨rfl, rfl⟩ rfl (F_nextP rfl)) rfl) (by rw [g1]; rfl), ?_⟩
              refine ⟨(by intro z; cases z), dInt e.1, rfl, by rw [dNs_len]; omega, ?_⟩
              refine ⟨(by intro z; cases z), (e.1 : Int), rfl, hm, ?_⟩
              refine ⟨dInt e.2.2, rfl, ?_⟩
              refine ⟨rt.length, by omega, delI l e.1, e.2.2, rd ++ [e.1], rt, some (.val (.tup [.int (e.1 : Int), .int (e.2.2 : Int)])), g2, by rw [← q2]; simp, by simp; omega, rfl, ?_⟩
              rw [dNs_snoc]
              rfl
          · have he : here = p := by simpa using of_decide_eq_false hb
            subst he
            cases q1 with
            | done =>
              rw [List.append_nil] at q2
              subst q2
              refine ⟨(by intro z; cases z), .lst (dNs rd), rfl, by unfold dRows; rw [List.length_map]; omega, ?_⟩
              refine hk _ ⟨left', done ++ [rd], rows, some (.val (dInt t)), some (.val (.lst (dNs rd))), some (.val (dInt here)), v9', w2, by rw [← hd]; simp, by omega, by simp; omega, ?_⟩
              unfold dRows
              rw [List.map_append]
              rfl
            | step g0 => exact absurd rfl g0
      · rintro Γ ⟨left, done, todo, v6, v7, v8, v9, w, hd, hl4, hl5, rfl⟩
        cases w with
        | nil =>
          rw [List.append_nil] at hd
          subst hd
          exact ⟨_, rfl, rfl, rfl⟩
    · cases h'
  · cases h
def F_beyond : FN
  | [.val (.int s), .val (.lst ds)] => (decs ds : Option Stps).bind fun st => if 1 ≤ s ∧ s ≤ 1000 ∧ (st.length : Int) = s then some (.inl (.own .loc (dNs (byd s.toNat st)))) else none
  | _ => none
theorem F_byd {s : Nat} {st : Stps} (h1 : 1 ≤ s) (h2 : s ≤ 1000) (h3 : st.length = s) : F_beyond [.val (.int (s : Int)), .val (.lst (dSts st))] = some (.inl (.own .loc (dNs (byd s st)))) := by
  show (decs (dSts st)).bind _ = _
  rw [decs_dSts, Option.bind_some]
  exact ite_some (show 1 ≤ (s : Int) ∧ (s : Int) ≤ 1000 ∧ (st.length : Int) = (s : Int) by omega)
/-- beyond: 0 size 1 steps 2 place -/
def t_beyond : VT := (seqT (retO (vLc [2] (lRng2 (vC (.int 1)) (vVar 0)) (gN 2) (bV (v2 fIsN (v2 fIx (vVar 1) (vVar 2)) (vC .non))) (vVar 2))) skipT)
theorem v_beyond : ∀ ss r, ss.length = 2 → F_beyond ss = some r → t_beyond (postP r) (En0 ss 3) ∧ ∃ s, r = .inl s := by
  intro ss r hl h
  unfold F_beyond at h
  split at h
  · rename_i s ds
    obtain ⟨st, e1, h'⟩ := Option.bind_eq_some_iff.mp h
    clear h
    split at h'
    · rename_i hs
      have h'' := Option.some.inj h'
      clear h'
      subst h''
      cases dSts_some e1
      obtain ⟨s, rfl⟩ := Int.eq_ofNat_of_zero_le (show 0 ≤ s by omega)
      rw [Int.toNat_natCast]
      refine ⟨⟨.own .loc (dNs (byd s st)), ?_, rfl⟩, _, rfl⟩
      refine vlc_filter (enc := dInt) (xs := List.range' 1 (s - 1)) (p := fun v => (stAt st v).isNone) (h := dInt) (rng2e (i := 1) (j := s) rfl rfl (by omega) (by omega)) (by simp; omega) fun v hv => ?_
      have hv : v < st.length := by
        rw [List.mem_range'_1] at hv
        omega
      refine lcS (b := (stAt st v).isNone) rfl (bVe ?_) fun _ => rfl
      have := stNE (Γ := [some (.val (.int (s : Int))), some (.val (.lst (dSts st))), some (.val (dInt v))]) (f := v2 fIx (vVar 1) (vVar 2)) (v2e rfl rfl (atI_st hv))
      rw [show decide (stAt st v = none) = (stAt st v).isNone by cases stAt st v <;> rfl] at this
      exact this
    · cases h'
  · cases h
end Z

set_option maxRecDepth 100000
namespace Z
open PySem PySem.Spec PyProof.Rows L2

theorem edOk_open {n : Nat} {ps : List P3} (h : okNet n ps) : EdOk (openOf ps) n := by
  refine ⟨h.1, ?_, openOf_lt h.pip⟩
  unfold openOf
  rw [List.map_map, show ((fun (x : O3) => x.1) ∘ opOf ps) = id from rfl, List.map_id]
  unfold lawOpen
  exact List.Pairwise.filter _ (List.pairwise_lt_range.imp fun h => Nat.ne_of_lt h)
theorem open_60 {n : Nat} {ps : List P3} (h : okNet n ps) : (openOf ps).length ≤ 60 := Nat.le_trans (openOf_len ps) h.2.2.2
/-- what is told of ways -/
noncomputable def spN (n : Nat) (ps : List P3) (p m : Nat) : Nat := spR n (openOf ps) p m
noncomputable def setOf (n : Nat) (ps : List P3) (p r : Nat) : List Nat := byd n (spSteps n (openOf ps) p r)
noncomputable def rowsOf (n : Nat) (ps : List P3) (p m r : Nat) : List (List Nat) := walkedOf (openOf ps) p m (spSt n (openOf ps) p r)
noncomputable def waysD (n : Nat) (ps : List P3) (p m : Nat) : D := if spN n ps p m < m then .tup [.str "narrow", .lst (dNs (setOf n ps p (spN n ps p m)))] else .tup [.str "ways", .lst (dRows (rowsOf n ps p m (spN n ps p m)))]
noncomputable def F_ways : FN
  | [.net _ s ds, .val (.int p), .val (.int m)] => (unNet s ds).bind fun x => if p < 0 ∨ (x.1 : Int) ≤ p then some (.inr .place) else if p ≠ 0 ∧ 0 ≤ m ∧ m ≤ 1000 then some (.inl (.val (waysD x.1 x.2 p.toNat m.toNat))) else none
  | _ => none
theorem F_ways_no {md : Md} {s : Nat} {ps : List P3} {p m : Int} (h : okNet s ps) (hp : p < 0 ∨ (s : Int) ≤ p) : F_ways [.net md (s : Int) (dPs ps), .val (.int p), .val (.int m)] = some (.inr .place) := by
  show (unNet _ _).bind _ = _
  rw [unNet_of h, Option.bind_some, if_pos hp]
theorem F_ways_yes {md : Md} {s p m : Nat} {ps : List P3} (h : okNet s ps) (h0 : p ≠ 0) (hp : p < s) (hm : m ≤ 1000) : F_ways [.net md (s : Int) (dPs ps), .val (.int (p : Int)), .val (.int (m : Int))] = some (.inl (.val (waysD s ps p m))) := by
  show (unNet _ _).bind _ = _
  rw [unNet_of h, Option.bind_some, if_neg (by omega), Int.toNat_natCast, Int.toNat_natCast]
  exact ite_some (show (p : Int) ≠ 0 ∧ 0 ≤ (m : Int) ∧ (m : Int) ≤ 1000 by omega)
theorem spSt_good {n : Nat} {ps : List P3} {p m : Nat} (hn : okNet n ps) : SpOk (openOf ps) p (spN n ps p m) (spSt n (openOf ps) p (spN n ps p m)) := spSt_ok (edOk_open hn) _ spR_spec.2.1
theorem spSteps_len {n : Nat} {ps : List P3} {p k : Nat} (hn : okNet n ps) : (spSteps n (openOf ps) p k).length = n := (comeFrom_ok (used := spSt n (openOf ps) p k) (edOk_open hn)).len
theorem spSt_len {n : Nat} {ps : List P3} {p m : Nat} (hn : okNet n ps) : (spSt n (openOf ps) p (spN n ps p m)).length ≤ 60 := Nat.le_trans (spSt_good hn).u.len (open_60 hn)
theorem F_walkedO {n : Nat} {ps : List P3} {p m mm : Nat} (hn : okNet n ps) (h : m ≤ spN n ps p mm) (hm : m ≤ 10000) : F_walked [.val (.lst (dOs (openOf ps))), .val (.dic (spSt n (openOf ps) p (spN n ps p mm))), .val (.int (p : Int)), .val (.int (m : Int))] = some (.inl (.own .loc (dRows (rowsOf n ps p m (spN n ps p mm))))) := by
  have := walkedOf_ok (m := m) (edOk_open hn) h (spSt_good hn).f
  have h60 := spSt_len (p := p) (m := mm) hn
  exact F_walkedE hm (by omega) ⟨_, this.1⟩
/-- ways: 0 net 1 place 2 many 3 pipes 4 found -/
def t_ways : VT := (seqT (exprX (xMeth 2 F_see_place 0 (rV (vVar 1) rNil))) (seqT (asgV 3 (v1 slD (v1 inlO (xCall 1 F_open_pipes (rS 0 rNil))))) (seqT (asgV 4 (v1 slD (v1 inlO (xCall 4 F_spread (rV (v1 slD (v1 inlO (xMeth 1 F_size 0 rNil))) (rV (vVar 3) (rV (vVar 1) (rV (vVar 2) rNil)))))))) (seqT (ifT (bV (v2 fLt (v2 fIx (vVar 4) (vC (.int 0))) (vVar 2))) (seqT (retV (vTup (aCons (vC (.str "narrow")) (aCons (v1 slD (v1 inlO (xCall 2 F_beyond (rV (v1 slD (v1 inlO (xMeth 1 F_size 0 rNil))) (rV (v2 fIx (vVar 4) (vC (.int 2))) rNil))))) aNil)))) skipT) skipT) (seqT (retV (vTup (aCons (vC (.str "ways")) (aCons (v1 slD (v1 inlO (xCall 4 F_walked (rV (vVar 3) (rV (v2 fIx (vVar 4) (vC (.int 1))) (rV (vVar 1) (rV (vVar 2) rNil))))))) aNil)))) skipT)))))
theorem v_ways : ∀ ss r, ss.length = 3 → F_ways ss = some r → t_ways (postP r) (En0 ss 5) := by
  intro ss r hl h
  unfold F_ways at h
  split at h
  · rename_i md s ds p m
    obtain ⟨x, e1, h'⟩ := Option.bind_eq_some_iff.mp h
    clear h
    obtain ⟨rfl, rfl, hn⟩ := unNet_some e1
    obtain ⟨n, ps⟩ := x
    clear e1
    simp only at hn h' ⊢
    refine ⟨_, xm rfl (xc rfl ⟨rfl, rfl⟩ rfl rfl), ?_⟩
    by_cases c : p < 0 ∨ (n : Int) ≤ p
    · rw [if_pos c] at h'
      cases h'
      rw [if_pos c]
      exact rfl
    rw [if_neg c] at h'
    rw [if_neg c]
    split at h'
    · rename_i hc
      cases h'
      obtain ⟨p, rfl⟩ := Int.eq_ofNat_of_zero_le (show 0 ≤ p by omega)
      obtain ⟨m, rfl⟩ := Int.eq_ofNat_of_zero_le hc.2.1
      have hp : p < n := by omega
      have hn1 := hn.2.1
      have h60 := open_60 hn
      simp only [Int.toNat_natCast]
      refine ⟨_, v1e (v1e (opens_e hn rfl) rfl) rfl, ?_⟩
      refine ⟨_, v1e (v1e (xc rfl ⟨rfl, rfl⟩ rfl (F_spreadE (s := n) (p := p) (m := m) (by omega) (edOk_open hn) (by omega) hp)) rfl) rfl, ?_⟩
      refine if_d (p := spN n ps p m < m) (bVe (v2e (x := dInt (spN n ps p m)) (y := .int (m : Int)) rfl rfl (by show some (D.bl (decide ((spN n ps p m : Int) < (m : Int)))) = _; simp))) (fun d => ?_) (fun d => ?_)
      · refine ⟨waysD n ps p m, ?_, rfl⟩
        unfold waysD
        rw [if_pos d]
        unfold vTup aCons aNil
        have hb : v1 slD (v1 inlO (xCall 2 F_beyond (rV (v1 slD (v1 inlO (xMeth 1 F_size 0 rNil))) (rV (v2 fIx (vVar 4) (vC (.int 2))) rNil)))) [some (Sl.net md (n : Int) (dPs ps)), some (.val (.int (p : Int))), some (.val (.int (m : Int))), some (.val (.lst (dOs (openOf ps)))), some (.val (spD n (openOf ps) p (spR n (openOf ps) p m)))] = some (.lst (dNs (setOf n ps p (spN n ps p m)))) :=
          v1e (v1e (xc rfl ⟨rfl, rfl⟩ rfl (F_byd hn.1 (by omega) (spSteps_len hn))) rfl) rfl
        rw [show (vC (.str "narrow")) _ = some (D.str "narrow") from rfl, Option.bind_some]
        show ((Option.bind (v1 slD (v1 inlO (xCall 2 F_beyond (rV (v1 slD (v1 inlO (xMeth 1 F_size 0 rNil))) (rV (v2 fIx (vVar 4) (vC (.int 2))) rNil)))) [some (Sl.net md (n : Int) (dPs ps)), some (.val (.int (p : Int))), some (.val (.int (m : Int))), some (.val (.lst (dOs (openOf ps)))), some (.val (spD n (openOf ps) p (spR n (openOf ps) p m)))]) _).bind _).bind _ = _
        rw [hb]
        rfl
      · have hr : spN n ps p m = m := by
          have : spN n ps p m ≤ m := spR_spec.1
          omega
        refine ⟨waysD n ps p m, ?_, rfl⟩
        unfold waysD
        rw [if_neg d]
        unfold vTup aCons aNil
        have hb : v1 slD (v1 inlO (xCall 4 F_walked (rV (vVar 3) (rV (v2 fIx (vVar 4) (vC (.int 1))) (rV (vVar 1) (rV (vVar 2) rNil)))))) [some (Sl.net md (n : Int) (dPs ps)), some (.val (.int (p : Int))), some (.val (.int (m : Int))), some (.val (.lst (dOs (openOf ps)))), some (.val (spD n (openOf ps) p (spR n (openOf ps) p m)))] = some (.lst (dRows (rowsOf n ps p m (spN n ps p m)))) :=
          v1e (v1e (xc rfl ⟨rfl, rfl⟩ rfl (F_walkedO hn (by omega) (by omega))) rfl) rfl
        rw [show (vC (.str "ways")) _ = some (D.str "ways") from rfl, Option.bind_some]
        show ((Option.bind (v1 slD (v1 inlO (xCall 4 F_walked (rV (vVar 3) (rV (v2 fIx (vVar 4) (vC (.int 1))) (rV (vVar 1) (rV (vVar 2) rNil)))))) [some (Sl.net md (n : Int) (dPs ps)), some (.val (.int (p : Int))), some (.val (.int (m : Int))), some (.val (.lst (dOs (openOf ps)))), some (.val (spD n (openOf ps) p (spR n (openOf ps) p m)))]) _).bind _).bind _ = _
        rw [hb]
        rfl
    · cases h'
  · cases h
/-- the greatest number of ways -/
noncomputable def widN (n : Nat) (ps : List P3) (p : Nat) : Nat := spN n ps p ((openOf ps).length + 1)
noncomputable def widD (n : Nat) (ps : List P3) (p : Nat) : D := .tup [.int (widN n ps p : Int), .lst (dRows (rowsOf n ps p (widN n ps p) (widN n ps p))), .lst (dNs (setOf n ps p (widN n ps p)))]
noncomputable def F_widest : FN
  | [.net _ s ds, .val (.int p)] => (unNet s ds).bind fun x => if p < 0 ∨ (x.1 : Int) ≤ p then some (.inr .place) else if p ≠ 0 then some (.inl (.val (widD x.1 x.2 p.toNat))) else none
  | _ => none
theorem F_widest_no {md : Md} {s : Nat} {ps : List P3} {p : Int} (h : okNet s ps) (hp : p < 0 ∨ (s : Int) ≤ p) : F_widest [.net md (s : Int) (dPs ps), .val (.int p)] = some (.inr .place) := by
  show (unNet _ _).bind _ = _
  rw [unNet_of h, Option.bind_some, if_pos hp]
theorem F_widest_yes {md : Md} {s p : Nat} {ps : List P3} (h : okNet s ps) (h0 : p ≠ 0) (hp : p < s) : F_widest [.net md (s : Int) (dPs ps), .val (.int (p : Int))] = some (.inl (.val (widD s ps p))) := by
  show (unNet _ _).bind _ = _
  rw [unNet_of h, Option.bind_some, if_neg (by omega), Int.toNat_natCast]
  exact ite_some (show (p : Int) ≠ 0 by omega)
theorem widN_le {n : Nat} {ps : List P3} {p : Nat} (hn : okNet n ps) : widN n ps p ≤ 61 := by
  have : widN n ps p ≤ (openOf ps).length + 1 := spR_spec.1
  have := open_60 hn
  omega
/-- widest: 0 net 1 place 2 pipes 3 found -/
def t_widest : VT := (seqT (exprX (xMeth 2 F_see_place 0 (rV (vVar 1) rNil))) (seqT (asgV 2 (v1 slD (v1 inlO (xCall 1 F_open_pipes (rS 0 rNil))))) (seqT (asgV 3 (v1 slD (v1 inlO (xCall 4 F_spread (rV (v1 slD (v1 inlO (xMeth 1 F_size 0 rNil))) (rV (vVar 2) (rV (vVar 1) (rV (v2 fAdd (v1 fLenL (lVar 2)) (vC (.int 1))) rNil)))))))) (seqT (retV (vTup (aCons (v2 fIx (vVar 3) (vC (.int 0))) (aCons (v1 slD (v1 inlO (xCall 4 F_walked (rV (vVar 2) (rV (v2 fIx (vVar 3) (vC (.int 1))) (rV (vVar 1) (rV (v2 fIx (vVar 3) (vC (.int 0))) rNil))))))) (aCons (v1 slD (v1 inlO (xCall 2 F_beyond (rV (v1 slD (v1 inlO (xMeth 1 F_size 0 rNil))) (rV (v2 fIx (vVar 3) (vC (.int 2))) rNil))))) aNil))))) skipT))))
theorem v_widest : ∀ ss r, ss.length = 2 → F_widest ss = some r → t_widest (postP r) (En0 ss 4) := by
  intro ss r hl h
  unfold F_widest at h
  split at h
  · rename_i md s ds p
    obtain ⟨x, e1, h'⟩ := Option.bind_eq_some_iff.mp h
    clear h
    obtain ⟨rfl, rfl, hn⟩ := unNet_some e1
    obtain ⟨n, ps⟩ := x
    clear e1
    simp only at hn h' ⊢
    refine ⟨_, xm rfl (xc rfl ⟨rfl, rfl⟩ rfl rfl), ?_⟩
    by_cases c : p < 0 ∨ (n : Int) ≤ p
    · rw [if_pos c] at h'
      cases h'
      rw [if_pos c]
      exact rfl
    rw [if_neg c] at h'
    rw [if_neg c]
    split at h'
    · rename_i hc
      cases h'
      obtain ⟨p, rfl⟩ := Int.eq_ofNat_of_zero_le (show 0 ≤ p by omega)
      have hp : p < n := by omega
      have hn1 := hn.2.1
      have h60 := open_60 hn
      have h61 := widN_le (p := p) hn
      simp only [Int.toNat_natCast]
      refine ⟨_, v1e (v1e (opens_e hn rfl) rfl) rfl, ?_⟩
      refine ⟨spD n (openOf ps) p (widN n ps p), v1e (v1e (xc (rVe rfl (rVe rfl (rVe rfl (rVe (v2e (z := .int (((openOf ps).length + 1 : Nat) : Int)) (v1e (x := dOs (openOf ps)) (y := .int ((openOf ps).length : Int)) rfl (by simp [fLenL])) (y := .int 1) rfl rfl) rfl)))) ⟨rfl, rfl⟩ rfl (F_spreadE (s := n) (p := p) (m := (openOf ps).length + 1) (by omega) (edOk_open hn) (by omega) hp)) rfl) rfl, ?_⟩
      refine ⟨widD n ps p, ?_, rfl⟩
      have hw : v1 slD (v1 inlO (xCall 4 F_walked (rV (vVar 2) (rV (v2 fIx (vVar 3) (vC (.int 1))) (rV (vVar 1) (rV (v2 fIx (vVar 3) (vC (.int 0))) rNil)))))) [some (Sl.net md (n : Int) (dPs ps)), some (.val (.int (p : Int))), some (.val (.lst (dOs (openOf ps)))), some (.val (spD n (openOf ps) p (widN n ps p)))] = some (.lst (dRows (rowsOf n ps p (widN n ps p) (widN n ps p)))) :=
        v1e (v1e (xc rfl ⟨rfl, rfl⟩ rfl (F_walkedO (mm := (openOf ps).length + 1) hn (Nat.le_refl _) (by omega))) rfl) rfl
      have hb : v1 slD (v1 inlO (xCall 2 F_beyond (rV (v1 slD (v1 inlO (xMeth 1 F_size 0 rNil))) (rV (v2 fIx (vVar 3) (vC (.int 2))) rNil)))) [some (Sl.net md (n : Int) (dPs ps)), some (.val (.int (p : Int))), some (.val (.lst (dOs (openOf ps)))), some (.val (spD n (openOf ps) p (widN n ps p)))] = some (.lst (dNs (setOf n ps p (widN n ps p)))) :=
        v1e (v1e (xc rfl ⟨rfl, rfl⟩ rfl (F_byd hn.1 (by omega) (spSteps_len hn))) rfl) rfl
      unfold vTup
      rw [show (aCons (v2 fIx (vVar 3) (vC (.int 0))) (aCons (v1 slD (v1 inlO (xCall 4 F_walked (rV (vVar 2) (rV (v2 fIx (vVar 3) (vC (.int 1))) (rV (vVar 1) (rV (v2 fIx (vVar 3) (vC (.int 0))) rNil))))))) (aCons (v1 slD (v1 inlO (xCall 2 F_beyond (rV (v1 slD (v1 inlO (xMeth 1 F_size 0 rNil))) (rV (v2 fIx (vVar 3) (vC (.int 2))) rNil))))) aNil))) _ = some [.int (widN n ps p : Int), .lst (dRows (rowsOf n ps p (widN n ps p) (widN n ps p))), .lst (dNs (setOf n ps p (widN n ps p)))] from by
        unfold aCons
        refine Option.bind_eq_some_iff.mpr ⟨_, rfl, ?_⟩
        refine Option.bind_eq_some_iff.mpr ⟨_, Option.bind_eq_some_iff.mpr ⟨_, hw, Option.bind_eq_some_iff.mpr ⟨_, Option.bind_eq_some_iff.mpr ⟨_, hb, rfl⟩, rfl⟩⟩, rfl⟩]
      rfl
    · cases h'
  · cases h

/-! ### what the laws ask of it -/
theorem lnk_chain {ps : List P3} {v : Nat} : ∀ {row : List Nat} {u : Nat}, lnk (openOf ps) u row v → chain ps u row = some v ∧ ∀ k ∈ row, k < ps.length
  | [], u, h => ⟨congrArg some h, fun k hk => (nomatch hk)⟩
  | k :: ks, u, h => by
    obtain ⟨e, he, e1, e2, e3⟩ := h
    obtain ⟨k', h1, h2, rfl⟩ := openOf_mem.mp he
    simp only at e1 e2 e3
    subst e1
    obtain ⟨q1, q2⟩ := lnk_chain e3
    refine ⟨?_, fun a ha => ?_⟩
    · unfold chain
      rw [if_pos ⟨h2, e2⟩]
      exact q1
    · rcases List.mem_cons.mp ha with rfl | ha
      · exact h1
      · exact q2 a ha
structure RowsOk (ps : List P3) (p m : Nat) (rows : List (List Nat)) : Prop where
  len : rows.length = m
  way : ∀ row ∈ rows, IsWay ps p row
  nd : rows.flatten.Nodup
theorem rows_ok {n : Nat} {ps : List P3} {p m mm : Nat} (hn : okNet n ps) (h : m ≤ spN n ps p mm) : RowsOk ps p m (rowsOf n ps p m (spN n ps p mm)) := by
  obtain ⟨_, w, l⟩ := walkedOf_ok (m := m) (edOk_open hn) h (spSt_good (p := p) (m := mm) hn).f
  refine ⟨l, fun row hr => ?_, w.nd⟩
  obtain ⟨a, b⟩ := w.ln row hr
  obtain ⟨c, d⟩ := lnk_chain a
  exact ⟨c, b, d⟩
theorem RowsOk.flat {ps : List P3} {p m : Nat} {rows : List (List Nat)} (h : RowsOk ps p m rows) : rows.flatten.length ≤ ps.length := nodup_lt_len h.nd fun k hk => by
  obtain ⟨row, h1, h2⟩ := List.mem_flatten.mp hk
  exact (h.way row h1).lt k h2
theorem into_cut (ps : List P3) (S : List Nat) : (lawInto ps S).length = cut (openOf ps) S := by
  have := congrArg List.length (lawInto_o ps S)
  rw [List.length_map, dNs_len] at this
  exact this.symm
instance : Cd (List Nat) where
  enc := fun l => .lst (dNs l)
  dec := fun d => match d with
    | .lst ds => decs ds
    | _ => none
  de := fun x => decs_dNs x
  ed := fun d x h => by
    split at h
    · rw [dNs_some h]
    · cases h
theorem decs_dRows (rows : List (List Nat)) : decs (dRows rows) = some rows := decs_enc rows
theorem dRows_some {ds : List D} {rows : List (List Nat)} (h : decs ds = some rows) : ds = dRows rows := decs_some h
def F_law_narrow : FN
  | [.val (.lst es), .val (.int s), .val (.lst ds), .val (.int m)] => (decs es : Option (List Nat)).bind fun S => (decs ds : Option (List P3)).bind fun ps =>
      if (∀ v ∈ S, (v : Int) < s) ∧ S.Pairwise (· < ·) ∧ S ≠ [] ∧ 0 ∉ S ∧ S.length ≤ 4000 ∧ ps.length ≤ 900 then some (.inl (.val (.bl (decide (((lawInto ps S).length : Int) < m))))) else none
  | _ => none
theorem F_lawNarrow {S : List Nat} {s : Nat} {ps : List P3} {m : Int} (G : GoodSet s S) (h1 : S ≠ []) (h2 : S.length ≤ 4000) (h3 : ps.length ≤ 900) : F_law_narrow [.val (.lst (dNs S)), .val (.int (s : Int)), .val (.lst (dPs ps)), .val (.int m)] = some (.inl (.val (.bl (decide (((lawInto ps S).length : Int) < m))))) := by
  show (decs (dNs S)).bind _ = _
  rw [decs_dNs, Option.bind_some, decs_dPs, Option.bind_some]
  exact ite_some ⟨fun v hv => by have := G.lt v hv; omega, G.nd, h1, G.no0, h2, h3⟩
/-- _law_narrow: 0 found 1 size 2 pipes 3 many -/
def t_law_narrow : VT := (seqT (ifT (bOr (bNot (bV (v1 slD (v1 inlO (xCall 2 F_law_rising (rV (vVar 0) (rV (vVar 1) rNil))))))) (bOr (bV (v2 fEq (v1 fLenL (lVar 0)) (vC (.int 0)))) (bV (v2 (fIn false) (vC (.int 0)) (lVar 0))))) (seqT (retV (vC (.bl false))) skipT) skipT) (seqT (retV (v2 fLt (v1 fLenL (v1 slL (v1 inlO (xCall 2 F_law_into (rV (vVar 2) (rV (vVar 0) rNil)))))) (vVar 3))) skipT))
theorem lenNs {i : Nat} {Γ : En} {ns : List Nat} (h : lVar i Γ = some (dNs ns)) : v1 fLenL (lVar i) Γ = some (dInt ns.length) := v1e h (by show some (D.int ((dNs ns).length : Int)) = _; rw [dNs_len]; rfl)
theorem v_law_narrow : ∀ ss r, ss.length = 4 → F_law_narrow ss = some r → t_law_narrow (postP r) (En0 ss 4) ∧ ∃ s, r = .inl s := by
  intro ss r hl h
  unfold F_law_narrow at h
  split at h
  · rename_i es s ds m
    obtain ⟨S, e1, h1⟩ := Option.bind_eq_some_iff.mp h
    obtain ⟨ps, e2, h2⟩ := Option.bind_eq_some_iff.mp h1
    clear h h1
    split at h2
    · rename_i hc
      have h4 := Option.some.inj h2
      clear h2
      subst h4
      cases dNs_some e1
      cases dPs_some e2
      obtain ⟨c1, c2, c3, c4, c5, c6⟩ := hc
      refine ⟨?_, _, rfl⟩
      have hri : F_law_rising [.val (.lst (dNs S)), .val (.int s)] = some (.inl (.val (.bl true))) := by
        show (decs (dNs S)).bind _ = _
        rw [decs_dNs, Option.bind_some]
        exact ite_some ⟨c1, c2, c5⟩
      refine if_f (dec_f (p := (¬ True) ∨ (S.length = 0 ∨ 0 ∈ S)) (fun z => ?_) (bOr_d (bNot_d (bVe (v1e (v1e (xc rfl ⟨rfl, rfl⟩ rfl hri) rfl) rfl))) fun _ => bOr_d (bVe (eqE (b := 0) (lenNs rfl) rfl)) fun _ => bVe (inE (n := 0) rfl rfl))) ?_
      · rcases z with z | z | z
        · exact z trivial
        · exact c3 (List.length_eq_zero_iff.mp z)
        · exact c4 z
      · refine ⟨_, v2e (v1e (x := dNs (lawInto ps S)) (y := dInt (lawInto ps S).length) (v1e (v1e (xc rfl ⟨rfl, rfl⟩ rfl (F_into (ps := ps) (ns := S) (by omega))) rfl) rfl) (by show some (D.int ((dNs (lawInto ps S)).length : Int)) = _; rw [dNs_len]; rfl)) rfl rfl, rfl⟩
    · cases h2
  · cases h
def F_law_ways_apart : FN
  | [.val (.lst fs), .val (.lst ds), .val (.int p), .val (.int m)] => (decs fs : Option (List (List Nat))).bind fun rows => (decs ds : Option (List P3)).bind fun ps =>
      if (rows.length : Int) = m ∧ 0 ≤ p ∧ (∀ row ∈ rows, chain ps 0 row = some p.toNat ∧ row.Nodup ∧ ∀ k ∈ row, k < ps.length) ∧ rows.flatten.Nodup ∧ ps.length ≤ 4000 then some (.inl (.val (.bl true))) else none
  | _ => none
theorem F_waysApart {rows : List (List Nat)} {ps : List P3} {p m : Nat} (R : RowsOk ps p m rows) (h : ps.length ≤ 4000) : F_law_ways_apart [.val (.lst (dRows rows)), .val (.lst (dPs ps)), .val (.int (p : Int)), .val (.int (m : Int))] = some (.inl (.val (.bl true))) := by
  show (decs (dRows rows)).bind _ = _
  rw [decs_dRows, Option.bind_some, decs_dPs, Option.bind_some]
  exact ite_some ⟨by rw [R.len], Int.natCast_nonneg p, fun row hr => ⟨(R.way row hr).ch, (R.way row hr).nd, (R.way row hr).lt⟩, R.nd, h⟩
/-- _law_ways_apart: 0 found 1 pipes 2 place 3 many 4 used 5 one -/
def t_law_ways_apart : VT := (seqT (ifT (bOr (bNot (bV (v1 (fIsi "list") (vVar 0)))) (bV (v2 fNe (v1 fLenL (lVar 0)) (vVar 3)))) (seqT (retV (vC (.bl false))) skipT) skipT) (seqT (asgV 4 (v1 slD (oLst aNil))) (seqT (forT (v1 dL (vVar 0)) (gN 5) (seqT (ifT (bNot (bV (v1 slD (v1 inlO (xCall 3 F_law_is_way (rV (vVar 5) (rV (vVar 1) (rV (vVar 2) rNil)))))))) (seqT (retV (vC (.bl false))) skipT) skipT) (seqT (asgV 4 (v1 slD (v2 fCat (lVar 4) (lVar 5)))) skipT))) (seqT (retV (v2 fEq (v1 fLenSet (lVar 4)) (v1 fLenL (lVar 4)))) skipT))))
theorem v_law_ways_apart : ∀ ss r, ss.length = 4 → F_law_ways_apart ss = some r → t_law_ways_apart (postP r) (En0 ss 6) ∧ ∃ s, r = .inl s := by
  intro ss r hl h
  unfold F_law_ways_apart at h
  split at h
  · rename_i fs ds p m
    obtain ⟨rows, e1, h1⟩ := Option.bind_eq_some_iff.mp h
    obtain ⟨ps, e2, h2⟩ := Option.bind_eq_some_iff.mp h1
    clear h h1
    split at h2
    · rename_i hc
      have h4 := Option.some.inj h2
      clear h2
      subst h4
      cases dRows_some e1
      cases dPs_some e2
      obtain ⟨c1, c2, c3, c4, c5⟩ := hc
      obtain ⟨p, rfl⟩ := Int.eq_ofNat_of_zero_le c2
      rw [Int.toNat_natCast] at c3
      have hway : ∀ row ∈ rows, IsWay ps p row := fun row hr => ⟨(c3 row hr).1, (c3 row hr).2.1, (c3 row hr).2.2⟩
      have hfl : rows.flatten.length ≤ ps.length := RowsOk.flat (m := rows.length) ⟨rfl, hway, c4⟩
      refine ⟨?_, _, rfl⟩
      refine if_f (dec_f (p := (¬ True) ∨ False) (by simp) (bOr_d (bNot_d (bVe (v1e rfl isi_list))) fun _ => bVe ?_)) ?_
      · refine v2e (x := dInt rows.length) (y := .int m) (v1e (x := dRows rows) rfl (by show some (D.int ((dRows rows).length : Int)) = _; unfold dRows; rw [List.length_map]; rfl)) rfl ?_
        rw [← c1]
        simp [fNe, fEq, notD, dInt]
      refine ⟨_, rfl, ?_⟩
      refine ⟨dRows rows, rfl, ?_⟩
      refine loopT_inv (enc := fun r => D.lst (dNs r)) (fun rest Γ => ∃ (done : List Nat) (v5 : Option Sl), (∀ row ∈ rest, row ∈ rows) ∧ done ++ rest.flatten = rows.flatten ∧ Γ = [some (.val (.lst (dRows rows))), some (.val (.lst (dPs ps))), some (.val (.int (p : Int))), some (.val (.int m)), some (.val (.lst (dNs done))), v5]) ?_ ?_ rows _ ⟨[], none, fun _ h => h, rfl, rfl⟩
      · rintro row rest Γ kk ⟨done, v5, hr, hd, rfl⟩ hk
        refine ⟨_, rfl, ?_⟩
        refine if_f (dec_f (p := ¬ True) (by simp) (bNot_d (bVe (v1e (v1e (xc rfl ⟨rfl, rfl⟩ rfl (F_isWay (hway row (hr row (by simp))) c5)) rfl) rfl)))) ?_
        rw [List.flatten_cons] at hd
        have hlen : done.length + row.length ≤ ps.length := by
          have := congrArg List.length hd
          simp only [List.length_append] at this
          omega
        refine ⟨.lst (dNs (done ++ row)), v1e (v2e (x := dNs done) (y := dNs row) (z := .own .loc (dNs (done ++ row))) rfl rfl ?_) rfl, ?_⟩
        · unfold fCat
          rw [if_pos (decide_eq_true (by rw [dNs_len, dNs_len]; omega))]
          unfold dNs
          rw [List.map_append]
        · exact hk _ ⟨done ++ row, _, fun a ha => hr a (List.mem_cons_of_mem _ ha), by rw [← hd]; simp, rfl⟩
      · rintro Γ ⟨done, v5, _, hd, rfl⟩
        have hd : done = rows.flatten := by simpa using hd
        subst hd
        refine ⟨.bl true, v2e (v1e (x := dNs rows.flatten) rfl (fLenSet_ns c4 (by omega))) (lenNs rfl) ?_, rfl⟩
        simp [fEq, dInt]
    · cases h2
  · cases h
end Z

set_option maxRecDepth 100000
namespace Z
open PySem PySem.Spec PyProof.Rows L2

/-! ### the sixth law -/
theorem spN_min {n p m : Nat} {ps : List P3} (hn : okNet n ps) (h0 : p ≠ 0) (hp : p < n) : spN n ps p m = min m (widN n ps p) := spR_min (edOk_open hn) h0 hp
theorem set_good {n p r : Nat} {ps : List P3} : GoodSet n (setOf n ps p r) := byd_good
theorem good_len {n : Nat} {S : List Nat} (h : GoodSet n S) : S.length ≤ n := nodup_lt_len h.nodup h.lt
theorem set_cut {n p m : Nat} {ps : List P3} (hn : okNet n ps) (h0 : p ≠ 0) (hp : p < n) (h : spN n ps p m < m) : p ∈ setOf n ps p (spN n ps p m) ∧ (lawInto ps (setOf n ps p (spN n ps p m))).length = spN n ps p m := by
  obtain ⟨q1, q2, q3⟩ := spR_spec (size := n) (all := openOf ps) (place := p) (many := m)
  obtain ⟨a, b⟩ := spread_cut (edOk_open hn) h0 hp q2 (q3 h)
  exact ⟨a, by rw [into_cut]; exact b⟩
theorem str_nn : decide (("narrow" : Str) = "narrow") = true := by decide +kernel
theorem str_ww : decide (("ways" : Str) = "ways") = true := by decide +kernel
theorem str_wn : decide (("ways" : Str) = "narrow") = false := by decide +kernel
theorem str_nw : decide (("narrow" : Str) = "ways") = false := by decide +kernel
theorem fEq_nn : fEq (.str "narrow") (.str "narrow") = some (.bl true) := congrArg (fun b => some (D.bl b)) str_nn
theorem fEq_ww : fEq (.str "ways") (.str "ways") = some (.bl true) := congrArg (fun b => some (D.bl b)) str_ww
theorem fEq_wn : fEq (.str "ways") (.str "narrow") = some (.bl false) := congrArg (fun b => some (D.bl b)) str_wn
theorem fEq_nw : fEq (.str "narrow") (.str "ways") = some (.bl false) := congrArg (fun b => some (D.bl b)) str_nw
def F_law_no_place_k06 : FN
  | [.net _ s ds, .val (.int p), .val (.int _)] => (unNet s ds).bind fun x => if p < 0 ∨ (x.1 : Int) ≤ p then some (.inl (.val (.bl true))) else none
  | _ => none
theorem F_noPlace06 {md : Md} {s : Nat} {ps : List P3} {p m : Int} (h : okNet s ps) (hp : p < 0 ∨ (s : Int) ≤ p) : F_law_no_place_k06 [.net md (s : Int) (dPs ps), .val (.int p), .val (.int m)] = some (.inl (.val (.bl true))) := by
  show (unNet _ _).bind _ = _
  rw [unNet_of h]
  exact ite_some hp
/-- _law_no_place: 0 net 1 place 2 many 3 refused -/
def t_law_no_place_k06 : VT := (seqT (asgV 3 (vC (.bl false))) (seqT (tryT (ctL [.place]) (seqT (exprX (xCall 3 F_ways (rS 0 (rV (vVar 1) (rV (vVar 2) rNil))))) skipT) (seqT (asgV 3 (vC (.bl true))) skipT)) (seqT (retV (vVar 3)) skipT)))
theorem v_law_no_place_k06 : ∀ ss r, ss.length = 3 → F_law_no_place_k06 ss = some r → t_law_no_place_k06 (postP r) (En0 ss 4) ∧ ∃ s, r = .inl s := by
  intro ss r hl h
  unfold F_law_no_place_k06 at h
  split at h
  · rename_i md s ds p m
    obtain ⟨x, e1, h1⟩ := Option.bind_eq_some_iff.mp h
    clear h
    split at h1
    · rename_i hc
      have h2 := Option.some.inj h1
      clear h1
      subst h2
      obtain ⟨rfl, rfl, hn⟩ := unNet_some e1
      refine ⟨?_, _, rfl⟩
      refine ⟨_, rfl, ?_⟩
      refine ⟨.inr .place, xc rfl ⟨rfl, rfl⟩ rfl (F_ways_no hn hc), ?_⟩
      exact ⟨_, rfl, _, rfl, rfl⟩
    · cases h1
  · cases h
def F_law_right_k06 : FN
  | [.net _ s ds, .val (.int s'), .val (.lst ds'), .val (.int p), .val (.int m)] => (unNet s ds).bind fun x => (decs ds' : Option (List P3)).bind fun ps' => if s' = s ∧ ps' = x.2 ∧ 0 < p ∧ p < s ∧ 0 ≤ m ∧ m ≤ 1000 then some (.inl (.val (.bl true))) else none
  | _ => none
theorem F_right06 {md : Md} {s p m : Nat} {ps : List P3} (h : okNet s ps) (h0 : p ≠ 0) (hp : p < s) (hm : m ≤ 1000) : F_law_right_k06 [.net md (s : Int) (dPs ps), .val (.int (s : Int)), .val (.lst (dPs ps)), .val (.int (p : Int)), .val (.int (m : Int))] = some (.inl (.val (.bl true))) := by
  show (unNet _ _).bind _ = _
  rw [unNet_of h, Option.bind_some, decs_dPs, Option.bind_some]
  exact ite_some ⟨rfl, rfl, by omega, by omega, by omega, by omega⟩
/-- _law_right: 0 net 1 size 2 pipes 3 place 4 many 5 found -/
def t_law_right_k06 : VT := (seqT (asgV 5 (v1 slD (v1 inlO (xCall 3 F_ways (rS 0 (rV (vVar 3) (rV (vVar 4) rNil))))))) (seqT (ifT (bOr (bNot (bV (v1 (fIsi "tuple") (vVar 5)))) (bOr (bV (v2 fNe (v1 fLen (vVar 5)) (vC (.int 2)))) (bNot (bV (v1 (fIsi "str") (v2 fIx (vVar 5) (vC (.int 0)))))))) (seqT (retV (vC (.bl false))) skipT) skipT) (seqT (ifT (bV (v2 fEq (v2 fIx (vVar 5) (vC (.int 0))) (vC (.str "narrow")))) (seqT (retV (vAnd (v1 slD (v1 inlO (xCall 4 F_law_narrow (rV (v2 fIx (vVar 5) (vC (.int 1))) (rV (vVar 1) (rV (vVar 2) (rV (vVar 4) rNil))))))) (v2 (fIn false) (vVar 3) (v1 dL (v2 fIx (vVar 5) (vC (.int 1))))))) skipT) skipT) (seqT (retV (vAnd (v2 fEq (v2 fIx (vVar 5) (vC (.int 0))) (vC (.str "ways"))) (v1 slD (v1 inlO (xCall 4 F_law_ways_apart (rV (v2 fIx (vVar 5) (vC (.int 1))) (rV (vVar 2) (rV (vVar 3) (rV (vVar 4) rNil))))))))) skipT))))
theorem v_law_right_k06 : ∀ ss r, ss.length = 5 → F_law_right_k06 ss = some r → t_law_right_k06 (postP r) (En0 ss 6) ∧ ∃ s, r = .inl s := by
  intro ss r hl h
  unfold F_law_right_k06 at h
  split at h
  · rename_i md s ds s' ds' p m
    obtain ⟨x, e1, h1⟩ := Option.bind_eq_some_iff.mp h
    obtain ⟨ps', e2, h2⟩ := Option.bind_eq_some_iff.mp h1
    clear h h1
    split at h2
    · rename_i hc
      have h4 := Option.some.inj h2
      clear h2
      subst h4
      obtain ⟨rfl, rfl, hn⟩ := unNet_some e1
      cases dPs_some e2
      clear e1 e2
      obtain ⟨rfl, rfl, c1, c2, c3, c4⟩ := hc
      obtain ⟨n, ps⟩ := x
      simp only at hn c2 ⊢
      obtain ⟨p, rfl⟩ := Int.eq_ofNat_of_zero_le (show 0 ≤ p by omega)
      obtain ⟨m, rfl⟩ := Int.eq_ofNat_of_zero_le c3
      have h0 : p ≠ 0 := by omega
      have hp : p < n := by omega
      have hn1 := hn.2.1
      have hn2 := hn.2.2.2
      refine ⟨?_, _, rfl⟩
      refine ⟨waysD n ps p m, v1e (v1e (xc rfl ⟨rfl, rfl⟩ rfl (F_ways_yes hn h0 hp (by omega))) rfl) rfl, ?_⟩
      by_cases d : spN n ps p m < m
      · have eD : waysD n ps p m = .tup [.str "narrow", .lst (dNs (setOf n ps p (spN n ps p m)))] := by unfold waysD; rw [if_pos d]
        rw [eD]
        obtain ⟨s1, s2⟩ := set_cut hn h0 hp d
        have s3 := good_len (set_good (n := n) (p := p) (r := spN n ps p m) (ps := ps))
        refine if_f (dec_f (p := (¬ True) ∨ (False ∨ ¬ True)) (by simp) (bOr_d (bNot_d (bVe (v1e rfl isi_tup))) fun _ => bOr_d (bVe (v2e (x := .int 2) rfl rfl rfl)) fun _ => bNot_d (bVe (v1e (x := .str "narrow") rfl isi_str)))) ?_
        refine if_t (bVe (v2e (x := .str "narrow") rfl rfl fEq_nn)) ?_
        refine ⟨.bl true, vAnd_t (v1e (v1e (xc rfl ⟨rfl, rfl⟩ rfl (F_lawNarrow set_good (by intro z; rw [z] at s1; cases s1) (by omega) (by omega))) rfl) ?_) ?_, rfl⟩
        · show some (D.bl (decide (((lawInto ps (setOf n ps p (spN n ps p m))).length : Int) < (m : Int)))) = _
          rw [s2, decide_eq_true (by omega)]
        · have := inE (n := p) (ns := setOf n ps p (spN n ps p m)) (Γ := [some (.net md (n : Int) (dPs ps)), some (.val (.int (n : Int))), some (.val (.lst (dPs ps))), some (.val (.int (p : Int))), some (.val (.int (m : Int))), some (.val (.tup [.str "narrow", .lst (dNs (setOf n ps p (spN n ps p m)))]))]) (f := vVar 3) (h := v1 dL (v2 fIx (vVar 5) (vC (.int 1)))) rfl rfl
          rw [decide_eq_true s1] at this
          exact this
      · have eD : waysD n ps p m = .tup [.str "ways", .lst (dRows (rowsOf n ps p m (spN n ps p m)))] := by unfold waysD; rw [if_neg d]
        rw [eD]
        refine if_f (dec_f (p := (¬ True) ∨ (False ∨ ¬ True)) (by simp) (bOr_d (bNot_d (bVe (v1e rfl isi_tup))) fun _ => bOr_d (bVe (v2e (x := .int 2) rfl rfl rfl)) fun _ => bNot_d (bVe (v1e (x := .str "ways") rfl isi_str)))) ?_
        refine if_f (bVe (v2e (x := .str "ways") rfl rfl fEq_wn)) ?_
        exact ⟨.bl true, vAnd_t (v2e (x := .str "ways") rfl rfl fEq_ww) (v1e (v1e (xc rfl ⟨rfl, rfl⟩ rfl (F_waysApart (rows_ok hn (by omega)) (by omega))) rfl) rfl), rfl⟩
    · cases h2
  · cases h
theorem okNet_by {ns : List Int} {first many n : Nat} (h1 : 1 ≤ n) (h2 : n ≤ 12) (h3 : many ≤ 60) : okNet n (pipesBy ns first many n) := ⟨h1, h2, okPs_iff.mpr pipesBy_ok, Nat.le_trans pipesBy_len h3⟩
theorem fMax_nat (a b : Nat) : fMax (dInt a) (dInt b) = some (dInt (max a b)) := by
  show some (D.int (if (b : Int) > (a : Int) then (b : Int) else (a : Int))) = some (D.int ((max a b : Nat) : Int))
  refine congrArg (fun i => some (D.int i)) ?_
  split <;> omega
theorem fMin_nat (a b : Nat) : fMin (dInt a) (dInt b) = some (dInt (min a b)) := by
  show some (D.int (if (b : Int) < (a : Int) then (b : Int) else (a : Int))) = some (D.int ((min a b : Nat) : Int))
  refine congrArg (fun i => some (D.int i)) ?_
  split <;> omega
/-- 1 + cell % (size - 1) -/
def placeBy (c : Int) (n : Nat) : Nat := 1 + (c % ((n : Int) - 1)).toNat
theorem placeBy_ok {c : Int} {n : Nat} (h : 2 ≤ n) : placeBy c n ≠ 0 ∧ placeBy c n < n := by
  unfold placeBy
  have a1 : 0 ≤ c % ((n : Int) - 1) := Int.emod_nonneg _ (by omega)
  have a2 : c % ((n : Int) - 1) < (n : Int) - 1 := Int.emod_lt_of_pos _ (by omega)
  omega
theorem placeE {Γ : En} {f h : VF} {c : Int} {n : Nat} (h2 : 2 ≤ n) (h1 : f Γ = some (.int c)) (hn : h Γ = some (.int (n : Int))) : v2 fAdd (vC (.int 1)) (v2 fMod f (v2 fSub h (vC (.int 1)))) Γ = some (dInt (placeBy c n)) := by
  refine v2e rfl (v2e h1 (v2e (z := .int ((n : Int) - 1)) hn rfl rfl) (fMod_pos (by omega))) ?_
  show some (D.int (1 + c % ((n : Int) - 1))) = some (D.int ((placeBy c n : Nat) : Int))
  unfold placeBy
  have a1 : 0 ≤ c % ((n : Int) - 1) := Int.emod_nonneg _ (by omega)
  refine congrArg (fun i => some (D.int i)) ?_
  omega
theorem cellE {i : Nat} {Γ : En} {ns : List Int} {k : Nat} (h : vVar i Γ = some (.scr ns)) : v1 slD (v1 inlO (xCall 2 F_law_cell_at (rV (vVar i) (rV (vC (.int (k : Int))) rNil)))) Γ = some (.int (cellAt ns k)) := by
  refine v1e (v1e (xc (rVe h (rVe rfl rfl)) ⟨rfl, rfl⟩ rfl F_cell) rfl) rfl
def F_law_k06 : FN
  | [.val (.scr _)] => some (.inl (.val (.bl true)))
  | _ => none
theorem F_law_k06_t (ns : List Int) (_ : ns.length ≤ 63) : F_law_k06 [.val (.scr ns)] = some (.inl (.val (.bl true))) := rfl
/-- law: 0 script 1 size 2 pipes 3 net 4 place 5 many -/
def t_law_k06 : VT := (seqT (asgV 1 (v2 fMax (vC (.int 2)) (v1 slD (v1 inlO (xCall 2 F_law_size_of (rV (vVar 0) (rV (vC (.int 7)) rNil))))))) (seqT (asgO 2 (v1 inlO (xCall 4 F_law_pipes_by (rV (vVar 0) (rV (vC (.int 6)) (rV (v1 slD (v1 inlO (xCall 2 F_law_many_of (rV (vVar 0) (rV (vC (.int 14)) rNil))))) (rV (vVar 1) rNil))))))) (seqT (asgO 3 (v1 inlO (xCall 2 F_law_net_by (rV (vVar 1) (rS 2 rNil))))) (seqT (asgV 4 (v2 fAdd (vC (.int 1)) (v2 fMod (v1 slD (v1 inlO (xCall 2 F_law_cell_at (rV (vVar 0) (rV (vC (.int 2)) rNil))))) (v2 fSub (vVar 1) (vC (.int 1)))))) (seqT (asgV 5 (v2 fMod (v1 slD (v1 inlO (xCall 2 F_law_cell_at (rV (vVar 0) (rV (vC (.int 3)) rNil))))) (vC (.int 6)))) (seqT (ifT (bV (v2 fEq (v2 fMod (v2 fDiv (v1 slD (v1 inlO (xCall 2 F_law_cell_at (rV (vVar 0) (rV (vC (.int 3)) rNil))))) (vC (.int 6))) (vC (.int 8))) (vC (.int 1)))) (seqT (asgV 5 (v2 fMod (v2 fDiv (v1 slD (v1 inlO (xCall 2 F_law_cell_at (rV (vVar 0) (rV (vC (.int 3)) rNil))))) (vC (.int 48))) (vC (.int 9)))) skipT) skipT) (seqT (ifT (bFrz (bNot (bV (v1 slD (v1 inlO (xCall 5 F_law_right_k06 (rS 3 (rV (vVar 1) (rV (vVar 2) (rV (vVar 4) (rV (vVar 5) rNil))))))))))) (seqT (retV (vC (.bl false))) skipT) skipT) (seqT (cmT none 4 G_law_turn_one (rS 3 (rV (vVar 1) (rS 2 (rV (v1 slD (v1 inlO (xCall 2 F_law_cell_at (rV (vVar 0) (rV (vC (.int 4)) rNil))))) rNil))))) (seqT (ifT (bOr (bNot (bV (v1 slD (v1 inlO (xCall 3 F_law_no_place_k06 (rS 3 (rV (v1 fNeg (vC (.int 1))) (rV (vVar 5) rNil)))))))) (bNot (bV (v1 slD (v1 inlO (xCall 3 F_law_no_place_k06 (rS 3 (rV (vVar 1) (rV (vVar 5) rNil))))))))) (seqT (retV (vC (.bl false))) skipT) skipT) (seqT (retV (vFrz (v1 slD (v1 inlO (xCall 5 F_law_right_k06 (rS 3 (rV (vVar 1) (rV (vVar 2) (rV (vVar 4) (rV (vVar 5) rNil)))))))))) skipT))))))))))
theorem v_law_k06 : ∀ ss r, ss.length = 1 → F_law_k06 ss = some r → t_law_k06 (postP r) (En0 ss 6) ∧ ∃ s, r = .inl s := by
  intro ss r hl h
  unfold F_law_k06 at h
  split at h
  · rename_i ns
    have h1 := Option.some.inj h
    clear h
    subst h1
    refine ⟨?_, _, rfl⟩
    have hs := sizeOf_le (ns := ns) (k := 7) (by omega) (by omega)
    have hm := manyOf_le (ns := ns) (k := 14) (by omega)
    refine ⟨dInt (max 2 (sizeOf ns 7)), v2e rfl (v1e (v1e (xc rfl ⟨rfl, rfl⟩ rfl (F_sizeOf (k := 7) (by omega))) rfl) rfl) (fMax_nat 2 _), ?_⟩
    generalize hN : max 2 (sizeOf ns 7) = n
    have n2 : 2 ≤ n := by omega
    have n12 : n ≤ 12 := by omega
    have hn := okNet_by (ns := ns) (first := 6) (many := manyOf ns 14) (n := n) (by omega) n12 (by omega)
    generalize hps : pipesBy ns 6 (manyOf ns 14) n = ps at hn
    refine ⟨.own .loc (dPs ps), v1e (xc (rVe rfl (rVe rfl (rVe (v1e (v1e (xc rfl ⟨rfl, rfl⟩ rfl (F_manyOf (k := 14))) rfl) rfl) (rVe rfl rfl)))) ⟨rfl, rfl⟩ rfl (F_pipesBy (f := 6) (m := manyOf ns 14) (s := n) (by omega) (by omega))) (by rw [hps]; rfl), ?_⟩
    refine ⟨.net .loc (n : Int) (dPs ps), v1e (xc rfl ⟨rfl, rfl⟩ rfl (F_netBy rfl hn)) rfl, ?_⟩
    refine ⟨dInt (placeBy (cellAt ns 2) n), placeE n2 (cellE (k := 2) rfl) rfl, ?_⟩
    obtain ⟨p0, pn⟩ := placeBy_ok (c := cellAt ns 2) n2
    generalize placeBy (cellAt ns 2) n = p at p0 pn
    have c6 : 0 ≤ cellAt ns 3 % 6 := Int.emod_nonneg _ (by omega)
    have c6' : cellAt ns 3 % 6 < 6 := Int.emod_lt_of_pos _ (by omega)
    have c9 : 0 ≤ cellAt ns 3 / 48 % 9 := Int.emod_nonneg _ (by omega)
    have c9' : cellAt ns 3 / 48 % 9 < 9 := Int.emod_lt_of_pos _ (by omega)
    refine ⟨.int (cellAt ns 3 % 6), v2e (cellE (k := 3) rfl) rfl (fMod_pos (by omega)), ?_⟩
    obtain ⟨m, hm1, hm2⟩ : ∃ m : Nat, (m : Int) = (if cellAt ns 3 / 6 % 8 = 1 then cellAt ns 3 / 48 % 9 else cellAt ns 3 % 6) ∧ m ≤ 1000 := by
      refine ⟨(if cellAt ns 3 / 6 % 8 = 1 then cellAt ns 3 / 48 % 9 else cellAt ns 3 % 6).toNat, ?_, ?_⟩
      · split <;> omega
      · split <;> omega
    refine if_to (Γ' := [some (.val (.scr ns)), some (.val (.int (n : Int))), some (.own .loc (dPs ps)), some (.net .loc (n : Int) (dPs ps)), some (.val (dInt p)), some (.val (.int (m : Int)))]) (p := cellAt ns 3 / 6 % 8 = 1) (bVe (v2e (v2e (v2e (cellE (k := 3) rfl) rfl (fDiv_pos (by omega) (by omega))) rfl (fMod_pos (by omega))) rfl rfl)) (fun c Q hq => ?_) (fun c Q hq => ?_) ?_
    · rw [if_pos c] at hm1
      refine ⟨.int (m : Int), v2e (v2e (cellE (k := 3) rfl) rfl (fDiv_pos (by omega) (by omega))) rfl (by rw [fMod_pos (by omega), hm1]), hq⟩
    · rw [if_neg c] at hm1
      rw [hm1] at hq
      exact hq
    refine if_f (dec_f (p := ¬ True) (by simp) (bNot_d (bVe (v1e (v1e (xc rfl ⟨rfl, rfl⟩ rfl (F_right06 hn p0 pn hm2)) rfl) rfl)))) ?_
    have hn' := turnOne_ok (c := cellAt ns 4) hn
    refine ⟨_, _, _, _, rfl, ⟨rfl, rfl⟩, rfl, G_turnOne (c := cellAt ns 4) hn, ?_⟩
    refine if_f (dec_f (p := (¬ True) ∨ ¬ True) (by simp) (bOr_d (bNot_d (bVe (v1e (v1e (xc rfl ⟨rfl, rfl⟩ rfl (F_noPlace06 hn' (by omega))) rfl) rfl))) fun _ => bNot_d (bVe (v1e (v1e (xc rfl ⟨rfl, rfl⟩ rfl (F_noPlace06 (p := (n : Int)) hn' (by omega))) rfl) rfl)))) ?_
    exact ⟨.bl true, vFrzE (v1e (v1e (xc rfl ⟨rfl, rfl⟩ rfl (F_right06 hn' p0 pn hm2)) rfl) rfl) rfl, rfl⟩
  · cases h
end Z

set_option maxRecDepth 100000
namespace Z
open PySem PySem.Spec PyProof.Rows L2

/-! ### the seventh law -/
theorem wid_set {n p : Nat} {ps : List P3} (hn : okNet n ps) (h0 : p ≠ 0) (hp : p < n) : p ∈ setOf n ps p (widN n ps p) ∧ (lawInto ps (setOf n ps p (widN n ps p))).length = widN n ps p := by
  obtain ⟨a, b⟩ := wid_cut (edOk_open hn) h0 hp
  exact ⟨a, by rw [into_cut]; exact b⟩
theorem wid_min {n p : Nat} {ps : List P3} (hn : okNet n ps) (h0 : p ≠ 0) (hp : p < n) {S : List Nat} (G : GoodSet n S) (hS : p ∈ S) : widN n ps p ≤ (lawInto ps S).length := by
  rw [into_cut]
  exact wid_le (edOk_open hn) h0 hp G hS
theorem fNe_int {a b : Int} : fNe (.int a) (.int b) = some (.bl (decide (a ≠ b))) := by
  show some (D.bl (!decide (a = b))) = _
  simp
def F_law_no_place_k07 : FN
  | [.net _ s ds, .val (.int p)] => (unNet s ds).bind fun x => if p < 0 ∨ (x.1 : Int) ≤ p then some (.inl (.val (.bl true))) else none
  | _ => none
theorem F_noPlace07 {md : Md} {s : Nat} {ps : List P3} {p : Int} (h : okNet s ps) (hp : p < 0 ∨ (s : Int) ≤ p) : F_law_no_place_k07 [.net md (s : Int) (dPs ps), .val (.int p)] = some (.inl (.val (.bl true))) := by
  show (unNet _ _).bind _ = _
  rw [unNet_of h]
  exact ite_some hp
/-- _law_no_place: 0 net 1 place 2 refused -/
def t_law_no_place_k07 : VT := (seqT (asgV 2 (vC (.bl false))) (seqT (tryT (ctL [.place]) (seqT (exprX (xCall 2 F_widest (rS 0 (rV (vVar 1) rNil)))) skipT) (seqT (asgV 2 (vC (.bl true))) skipT)) (seqT (retV (vVar 2)) skipT)))
theorem v_law_no_place_k07 : ∀ ss r, ss.length = 2 → F_law_no_place_k07 ss = some r → t_law_no_place_k07 (postP r) (En0 ss 3) ∧ ∃ s, r = .inl s := by
  intro ss r hl h
  unfold F_law_no_place_k07 at h
  split at h
  · rename_i md s ds p
    obtain ⟨x, e1, h1⟩ := Option.bind_eq_some_iff.mp h
    clear h
    split at h1
    · rename_i hc
      have h2 := Option.some.inj h1
      clear h1
      subst h2
      obtain ⟨rfl, rfl, hn⟩ := unNet_some e1
      refine ⟨?_, _, rfl⟩
      refine ⟨_, rfl, ?_⟩
      refine ⟨.inr .place, xc rfl ⟨rfl, rfl⟩ rfl (F_widest_no hn hc), ?_⟩
      exact ⟨_, rfl, _, rfl, rfl⟩
    · cases h1
  · cases h
def F_law_right_k07 : FN
  | [.net _ s ds, .val (.int s'), .val (.lst ds'), .val (.int p)] => (unNet s ds).bind fun x => (decs ds' : Option (List P3)).bind fun ps' => if s' = s ∧ ps' = x.2 ∧ 0 < p ∧ p < s then some (.inl (.val (.bl true))) else none
  | _ => none
theorem F_right07 {md : Md} {s p : Nat} {ps : List P3} (h : okNet s ps) (h0 : p ≠ 0) (hp : p < s) : F_law_right_k07 [.net md (s : Int) (dPs ps), .val (.int (s : Int)), .val (.lst (dPs ps)), .val (.int (p : Int))] = some (.inl (.val (.bl true))) := by
  show (unNet _ _).bind _ = _
  rw [unNet_of h, Option.bind_some, decs_dPs, Option.bind_some]
  exact ite_some ⟨rfl, rfl, by omega, by omega⟩
/-- _law_right: 0 net 1 size 2 pipes 3 place 4 found -/
def t_law_right_k07 : VT := (seqT (asgV 4 (v1 slD (v1 inlO (xCall 2 F_widest (rS 0 (rV (vVar 3) rNil)))))) (seqT (ifT (bOr (bNot (bV (v1 (fIsi "tuple") (vVar 4)))) (bOr (bV (v2 fNe (v1 fLen (vVar 4)) (vC (.int 3)))) (bOr (bNot (bV (v1 slD (v1 inlO (xCall 1 F_law_whole (rV (v2 fIx (vVar 4) (vC (.int 0))) rNil)))))) (bV (v2 fLt (v2 fIx (vVar 4) (vC (.int 0))) (vC (.int 0))))))) (seqT (retV (vC (.bl false))) skipT) skipT) (seqT (ifT (bNot (bV (v1 slD (v1 inlO (xCall 4 F_law_ways_apart (rV (v2 fIx (vVar 4) (vC (.int 1))) (rV (vVar 2) (rV (vVar 3) (rV (v2 fIx (vVar 4) (vC (.int 0))) rNil))))))))) (seqT (retV (vC (.bl false))) skipT) skipT) (seqT (ifT (bOr (bNot (bV (v1 slD (v1 inlO (xCall 4 F_law_narrow (rV (v2 fIx (vVar 4) (vC (.int 2))) (rV (vVar 1) (rV (vVar 2) (rV (v2 fAdd (v2 fIx (vVar 4) (vC (.int 0))) (vC (.int 1))) rNil))))))))) (bV (v2 (fIn true) (vVar 3) (v1 dL (v2 fIx (vVar 4) (vC (.int 2))))))) (seqT (retV (vC (.bl false))) skipT) skipT) (seqT (ifT (bV (v2 fNe (v1 fLenL (v1 slL (v1 inlO (xCall 2 F_law_into (rV (vVar 2) (rV (v2 fIx (vVar 4) (vC (.int 2))) rNil)))))) (v2 fIx (vVar 4) (vC (.int 0))))) (seqT (retV (vC (.bl false))) skipT) skipT) (seqT (ifT (bAnd (bV (v2 fLt (v2 fIx (vVar 4) (vC (.int 0))) (vC (.int 8)))) (bV (v2 fNe (v2 fIx (v1 slD (v1 inlO (xCall 3 F_ways (rS 0 (rV (vVar 3) (rV (v2 fIx (vVar 4) (vC (.int 0))) rNil)))))) (vC (.int 0))) (vC (.str "ways"))))) (seqT (retV (vC (.bl false))) skipT) skipT) (seqT (retV (vOr (v2 fGt (v2 fIx (vVar 4) (vC (.int 0))) (vC (.int 7))) (v2 fEq (v2 fIx (v1 slD (v1 inlO (xCall 3 F_ways (rS 0 (rV (vVar 3) (rV (v2 fAdd (v2 fIx (vVar 4) (vC (.int 0))) (vC (.int 1))) rNil)))))) (vC (.int 0))) (vC (.str "narrow"))))) skipT)))))))
theorem v_law_right_k07 : ∀ ss r, ss.length = 4 → F_law_right_k07 ss = some r → t_law_right_k07 (postP r) (En0 ss 5) ∧ ∃ s, r = .inl s := by
  intro ss r hl h
  unfold F_law_right_k07 at h
  split at h
  · rename_i md s ds s' ds' p
    obtain ⟨x, e1, h1⟩ := Option.bind_eq_some_iff.mp h
    obtain ⟨ps', e2, h2⟩ := Option.bind_eq_some_iff.mp h1
    clear h h1
    split at h2
    · rename_i hc
      have h4 := Option.some.inj h2
      clear h2
      subst h4
      obtain ⟨rfl, rfl, hn⟩ := unNet_some e1
      cases dPs_some e2
      clear e1 e2
      obtain ⟨rfl, rfl, c1, c2⟩ := hc
      obtain ⟨n, ps⟩ := x
      simp only at hn c2 ⊢
      obtain ⟨p, rfl⟩ := Int.eq_ofNat_of_zero_le (show 0 ≤ p by omega)
      have h0 : p ≠ 0 := by omega
      have hp : p < n := by omega
      have hn1 := hn.2.1
      have hn2 := hn.2.2.2
      have h61 := widN_le (p := p) hn
      obtain ⟨s1, s2⟩ := wid_set hn h0 hp
      have s3 := good_len (set_good (n := n) (p := p) (r := widN n ps p) (ps := ps))
      have hrows := rows_ok (m := widN n ps p) (mm := (openOf ps).length + 1) hn (Nat.le_refl _)
      have hr' : RowsOk ps p (widN n ps p) (rowsOf n ps p (widN n ps p) (widN n ps p)) := hrows
      refine ⟨?_, _, rfl⟩
      refine ⟨widD n ps p, v1e (v1e (xc rfl ⟨rfl, rfl⟩ rfl (F_widest_yes hn h0 hp)) rfl) rfl, ?_⟩
      refine if_f (dec_f (p := (¬ True) ∨ (False ∨ ((¬ True) ∨ ((widN n ps p : Int) < 0)))) (by simp) (bOr_d (bNot_d (bVe (v1e rfl isi_tup))) fun _ => bOr_d (bVe (v2e (x := .int 3) rfl rfl rfl)) fun _ => bOr_d (bNot_d (bVe (v1e (v1e (xc rfl ⟨rfl, rfl⟩ rfl rfl) rfl) rfl))) fun _ => bVe (v2e (x := .int (widN n ps p : Int)) rfl rfl rfl))) ?_
      refine if_f (dec_f (p := ¬ True) (by simp) (bNot_d (bVe (v1e (v1e (xc rfl ⟨rfl, rfl⟩ rfl (F_waysApart hr' (by omega))) rfl) rfl)))) ?_
      refine if_f (dec_f (p := (¬ True) ∨ p ∉ setOf n ps p (widN n ps p)) (by simp [s1]) (bOr_d (bNot_d (bVe (v1e (v1e (xc (rVe rfl (rVe rfl (rVe rfl (rVe (v2e (x := .int (widN n ps p : Int)) (z := .int ((widN n ps p : Int) + 1)) rfl rfl rfl) rfl)))) ⟨rfl, rfl⟩ rfl (F_lawNarrow set_good (by intro z; rw [z] at s1; cases s1) (by omega) (by omega))) rfl) (by rw [s2, decide_eq_true (by omega)]; rfl)))) fun _ => bVe (notInE (n := p) (ns := setOf n ps p (widN n ps p)) rfl rfl))) ?_
      refine if_f (dec_f (p := (widN n ps p : Int) ≠ (widN n ps p : Int)) (by simp) (bVe (v2e (x := .int (widN n ps p : Int)) (y := .int (widN n ps p : Int)) (v1e (x := dNs (lawInto ps (setOf n ps p (widN n ps p)))) (v1e (v1e (xc rfl ⟨rfl, rfl⟩ rfl (F_into (ps := ps) (ns := setOf n ps p (widN n ps p)) (by omega))) rfl) rfl) (by show some (D.int ((dNs (lawInto ps (setOf n ps p (widN n ps p)))).length : Int)) = _; rw [dNs_len, s2])) rfl fNe_int))) ?_
      have w1 : waysD n ps p (widN n ps p) = .tup [.str "ways", .lst (dRows (rowsOf n ps p (widN n ps p) (spN n ps p (widN n ps p))))] := by
        unfold waysD
        rw [if_neg]
        rw [spN_min hn h0 hp]
        omega
      have w2 : waysD n ps p (widN n ps p + 1) = .tup [.str "narrow", .lst (dNs (setOf n ps p (spN n ps p (widN n ps p + 1))))] := by
        unfold waysD
        rw [if_pos]
        rw [spN_min hn h0 hp]
        omega
      refine if_f (dec_f (p := ((widN n ps p : Int) < 8) ∧ False) (by simp) (bAnd_d (bVe (v2e (x := .int (widN n ps p : Int)) rfl rfl rfl)) fun _ => bVe (v2e (v2e (x := waysD n ps p (widN n ps p)) (z := .str "ways") (v1e (v1e (xc rfl ⟨rfl, rfl⟩ rfl (F_ways_yes (m := widN n ps p) hn h0 hp (by omega))) rfl) rfl) rfl (by rw [w1]; rfl)) rfl (by unfold fNe; rw [fEq_ww]; rfl)))) ?_
      refine ⟨.bl true, ?_, rfl⟩
      by_cases c7 : (7 : Int) < (widN n ps p : Int)
      · exact vOr_t (v2e (x := .int (widN n ps p : Int)) (y := .int 7) rfl rfl (by show some (D.bl (decide ((7 : Int) < (widN n ps p : Int)))) = _; rw [decide_eq_true c7]))
      · refine vOr_f (v2e (x := .int (widN n ps p : Int)) (y := .int 7) rfl rfl (by show some (D.bl (decide ((7 : Int) < (widN n ps p : Int)))) = _; rw [decide_eq_false c7])) ?_
        exact v2e (v2e (x := waysD n ps p (widN n ps p + 1)) (z := .str "narrow") (v1e (v1e (xc (rSe rfl (rVe rfl (rVe (v2e (x := .int (widN n ps p : Int)) (z := .int ((widN n ps p + 1 : Nat) : Int)) rfl rfl rfl) rfl))) ⟨rfl, rfl⟩ rfl (F_ways_yes (m := widN n ps p + 1) hn h0 hp (by omega))) rfl) rfl) rfl (by rw [w2]; rfl)) rfl fEq_nn
    · cases h2
  · cases h
def F_law_k07 : FN
  | [.val (.scr _)] => some (.inl (.val (.bl true)))
  | _ => none
theorem F_law_k07_t (ns : List Int) (_ : ns.length ≤ 63) : F_law_k07 [.val (.scr ns)] = some (.inl (.val (.bl true))) := rfl
/-- law: 0 script 1 size 2 many 3 pipes 4 net 5 place -/
def t_law_k07 : VT := (seqT (asgV 1 (v2 fMax (vC (.int 2)) (v1 slD (v1 inlO (xCall 2 F_law_size_of (rV (vVar 0) (rV (vC (.int 7)) rNil))))))) (seqT (asgV 2 (v1 slD (v1 inlO (xCall 2 F_law_many_of (rV (vVar 0) (rV (vC (.int 14)) rNil)))))) (seqT (ifT (bV (v2 fEq (v2 fMod (v1 slD (v1 inlO (xCall 2 F_law_cell_at (rV (vVar 0) (rV (vC (.int 3)) rNil))))) (vC (.int 8))) (vC (.int 1)))) (seqT (asgV 1 (vC (.int 2))) (seqT (asgV 2 (v2 fMod (v2 fDiv (v1 slD (v1 inlO (xCall 2 F_law_cell_at (rV (vVar 0) (rV (vC (.int 3)) rNil))))) (vC (.int 8))) (vC (.int 56)))) skipT)) skipT) (seqT (asgO 3 (v1 inlO (xCall 4 F_law_pipes_by (rV (vVar 0) (rV (vC (.int 6)) (rV (vVar 2) (rV (vVar 1) rNil))))))) (seqT (asgO 4 (v1 inlO (xCall 2 F_law_net_by (rV (vVar 1) (rS 3 rNil))))) (seqT (asgV 5 (v2 fAdd (vC (.int 1)) (v2 fMod (v1 slD (v1 inlO (xCall 2 F_law_cell_at (rV (vVar 0) (rV (vC (.int 2)) rNil))))) (v2 fSub (vVar 1) (vC (.int 1)))))) (seqT (ifT (bFrz (bNot (bV (v1 slD (v1 inlO (xCall 4 F_law_right_k07 (rS 4 (rV (vVar 1) (rV (vVar 3) (rV (vVar 5) rNil)))))))))) (seqT (retV (vC (.bl false))) skipT) skipT) (seqT (cmT none 4 G_law_turn_one (rS 4 (rV (vVar 1) (rS 3 (rV (v1 slD (v1 inlO (xCall 2 F_law_cell_at (rV (vVar 0) (rV (vC (.int 4)) rNil))))) rNil))))) (seqT (ifT (bFrz (bNot (bV (v1 slD (v1 inlO (xCall 4 F_law_right_k07 (rS 4 (rV (vVar 1) (rV (vVar 3) (rV (vVar 5) rNil)))))))))) (seqT (retV (vC (.bl false))) skipT) skipT) (seqT (retV (vAnd (v1 slD (v1 inlO (xCall 2 F_law_no_place_k07 (rS 4 (rV (vVar 1) rNil))))) (v1 slD (v1 inlO (xCall 2 F_law_no_place_k07 (rS 4 (rV (v1 fNeg (vC (.int 1))) rNil))))))) skipT))))))))))
theorem v_law_k07 : ∀ ss r, ss.length = 1 → F_law_k07 ss = some r → t_law_k07 (postP r) (En0 ss 6) ∧ ∃ s, r = .inl s := by
  intro ss r hl h
  unfold F_law_k07 at h
  split at h
  · rename_i ns
    have h1 := Option.some.inj h
    clear h
    subst h1
    refine ⟨?_, _, rfl⟩
    have hs := sizeOf_le (ns := ns) (k := 7) (by omega) (by omega)
    have hm := manyOf_le (ns := ns) (k := 14) (by omega)
    refine ⟨dInt (max 2 (sizeOf ns 7)), v2e rfl (v1e (v1e (xc rfl ⟨rfl, rfl⟩ rfl (F_sizeOf (k := 7) (by omega))) rfl) rfl) (fMax_nat 2 _), ?_⟩
    refine ⟨_, v1e (v1e (xc rfl ⟨rfl, rfl⟩ rfl (F_manyOf (k := 14))) rfl) rfl, ?_⟩
    have c56 : 0 ≤ cellAt ns 3 / 8 % 56 := Int.emod_nonneg _ (by omega)
    have c56' : cellAt ns 3 / 8 % 56 < 56 := Int.emod_lt_of_pos _ (by omega)
    obtain ⟨n, hn0, n2, n12⟩ : ∃ n : Nat, n = (if cellAt ns 3 % 8 = 1 then 2 else max 2 (sizeOf ns 7)) ∧ 2 ≤ n ∧ n ≤ 12 := ⟨_, rfl, by split <;> omega, by split <;> omega⟩
    obtain ⟨m, hm0, hm55⟩ : ∃ m : Nat, m = (if cellAt ns 3 % 8 = 1 then (cellAt ns 3 / 8 % 56).toNat else manyOf ns 14) ∧ m ≤ 55 := ⟨_, rfl, by split <;> omega⟩
    refine if_to (Γ' := [some (.val (.scr ns)), some (.val (dInt n)), some (.val (dInt m)), none, none, none]) (p := cellAt ns 3 % 8 = 1) (bVe (v2e (v2e (cellE (k := 3) rfl) rfl (fMod_pos (by omega))) rfl rfl)) (fun c Q hq => ?_) (fun c Q hq => ?_) ?_
    · rw [if_pos c] at hn0 hm0
      subst hn0
      refine ⟨_, rfl, ?_⟩
      refine ⟨dInt m, v2e (v2e (cellE (k := 3) rfl) rfl (fDiv_pos (by omega) (by omega))) rfl (by rw [fMod_pos (by omega), hm0]; show some (D.int _) = some (D.int _); rw [Int.toNat_of_nonneg c56]), hq⟩
    · rw [if_neg c] at hn0 hm0
      subst hn0 hm0
      exact hq
    have hn := okNet_by (ns := ns) (first := 6) (many := m) (n := n) (by omega) n12 (by omega)
    generalize hps : pipesBy ns 6 m n = ps at hn
    refine ⟨.own .loc (dPs ps), v1e (xc rfl ⟨rfl, rfl⟩ rfl (F_pipesBy (f := 6) (m := m) (s := n) (by omega) (by omega))) (by rw [hps]; rfl), ?_⟩
    refine ⟨.net .loc (n : Int) (dPs ps), v1e (xc rfl ⟨rfl, rfl⟩ rfl (F_netBy rfl hn)) rfl, ?_⟩
    refine ⟨dInt (placeBy (cellAt ns 2) n), placeE n2 (cellE (k := 2) rfl) rfl, ?_⟩
    obtain ⟨p0, pn⟩ := placeBy_ok (c := cellAt ns 2) n2
    generalize placeBy (cellAt ns 2) n = p at p0 pn
    refine if_f (dec_f (p := ¬ True) (by simp) (bNot_d (bVe (v1e (v1e (xc rfl ⟨rfl, rfl⟩ rfl (F_right07 hn p0 pn)) rfl) rfl)))) ?_
    have hn' := turnOne_ok (c := cellAt ns 4) hn
    refine ⟨_, _, _, _, rfl, ⟨rfl, rfl⟩, rfl, G_turnOne (c := cellAt ns 4) hn, ?_⟩
    refine if_f (dec_f (p := ¬ True) (by simp) (bNot_d (bVe (v1e (v1e (xc rfl ⟨rfl, rfl⟩ rfl (F_right07 hn' p0 pn)) rfl) rfl)))) ?_
    exact ⟨.bl true, vAnd_t (v1e (v1e (xc rfl ⟨rfl, rfl⟩ rfl (F_noPlace07 (p := (n : Int)) hn' (by omega))) rfl) rfl) (v1e (v1e (xc rfl ⟨rfl, rfl⟩ rfl (F_noPlace07 hn' (by omega))) rfl) rfl), rfl⟩
  · cases h
end Z

set_option maxRecDepth 100000
namespace Z
open PySem PySem.Spec PyProof.Rows L2

/-! ### the twelfth law -/
theorem into_shut {ps : List P3} {k : Nat} (h : k < ps.length) (S : List Nat) : lawInto (turnAt ps k false) S = (lawInto ps S).filter fun j => decide (j ≠ k) := by
  unfold lawInto
  rw [lawOpen_shut h, List.filter_filter, List.filter_filter]
  refine List.filter_congr fun j _ => ?_
  rw [(pAt_turn1 h).1, (pAt_turn1 h).2, Bool.and_comm]
theorem filter_ne_len {k : Nat} : ∀ {l : List Nat}, l.Nodup → (l.filter fun j => decide (j ≠ k)).length + (if k ∈ l then 1 else 0) = l.length
  | [], _ => rfl
  | x :: l, h => by
    have h' := List.nodup_cons.mp h
    have ih := filter_ne_len (k := k) h'.2
    rw [List.filter_cons]
    by_cases c : x = k
    · subst c
      rw [if_neg h'.1] at ih
      rw [if_neg (by simp), if_pos (by simp)]
      simp only [List.length_cons]
      omega
    · rw [if_pos (decide_eq_true c)]
      have : (k ∈ x :: l) ↔ k ∈ l := by
        rw [List.mem_cons]
        exact ⟨fun z => z.elim (fun e => absurd e.symm c) id, .inr⟩
      simp only [List.length_cons, this]
      omega
theorem into_nd {ps : List P3} {S : List Nat} : (lawInto ps S).Nodup := (lawInto_lt).2.1.imp fun q => Nat.ne_of_lt q
theorem shut_len {ps : List P3} {k : Nat} (h : k < ps.length) (S : List Nat) : (lawInto (turnAt ps k false) S).length + (if k ∈ lawInto ps S then 1 else 0) = (lawInto ps S).length := by
  rw [into_shut h]
  exact filter_ne_len into_nd
/-- one pipe less: as many ways, or one less -/
theorem wid_shut {n p k : Nat} {ps : List P3} (hn : okNet n ps) (h0 : p ≠ 0) (hp : p < n) (hk : k < ps.length) :
    widN n (turnAt ps k false) p ≤ widN n ps p ∧ widN n ps p ≤ widN n (turnAt ps k false) p + 1 ∧ (k ∈ lawInto ps (setOf n ps p (widN n ps p)) → widN n (turnAt ps k false) p + 1 = widN n ps p) := by
  have hn' := turnAt_ok (o := false) hn hk
  obtain ⟨a1, a2⟩ := wid_set hn h0 hp
  obtain ⟨b1, b2⟩ := wid_set hn' h0 hp
  have c1 := wid_min hn' h0 hp set_good a1
  have c2 := wid_min hn h0 hp set_good b1
  have d1 := shut_len hk (setOf n ps p (widN n ps p))
  have d2 := shut_len hk (setOf n (turnAt ps k false) p (widN n (turnAt ps k false) p))
  refine ⟨by omega, ?_, fun z => ?_⟩
  · split at d2 <;> omega
  · rw [if_pos z] at d1
    split at d2 <;> omega
noncomputable def F_law_many : FN
  | [.net _ s ds, .val (.int p)] => (unNet s ds).bind fun x => if 0 < p ∧ p < s then some (.inl (.val (.int (widN x.1 x.2 p.toNat : Nat)))) else none
  | _ => none
theorem F_lawMany {md : Md} {s p : Nat} {ps : List P3} (h : okNet s ps) (h0 : p ≠ 0) (hp : p < s) : F_law_many [.net md (s : Int) (dPs ps), .val (.int (p : Int))] = some (.inl (.val (dInt (widN s ps p)))) := by
  show (unNet _ _).bind _ = _
  rw [unNet_of h]
  exact ite_some (show 0 < (p : Int) ∧ (p : Int) < (s : Int) by omega)
/-- _law_many: 0 net 1 place 2 found -/
def t_law_many : VT := (seqT (asgV 2 (v1 slD (v1 inlO (xCall 2 F_widest (rS 0 (rV (vVar 1) rNil)))))) (seqT (ifT (bOr (bNot (bV (v1 (fIsi "tuple") (vVar 2)))) (bOr (bV (v2 fNe (v1 fLen (vVar 2)) (vC (.int 3)))) (bNot (bV (v1 slD (v1 inlO (xCall 1 F_law_whole (rV (v2 fIx (vVar 2) (vC (.int 0))) rNil)))))))) (seqT (retV (v1 fNeg (vC (.int 1)))) skipT) skipT) (seqT (retV (v2 fIx (vVar 2) (vC (.int 0)))) skipT)))
theorem v_law_many : ∀ ss r, ss.length = 2 → F_law_many ss = some r → t_law_many (postP r) (En0 ss 3) ∧ ∃ s, r = .inl s := by
  intro ss r hl h
  unfold F_law_many at h
  split at h
  · rename_i md s ds p
    obtain ⟨x, e1, h1⟩ := Option.bind_eq_some_iff.mp h
    clear h
    split at h1
    · rename_i hc
      have h2 := Option.some.inj h1
      clear h1
      subst h2
      obtain ⟨rfl, rfl, hn⟩ := unNet_some e1
      obtain ⟨n, ps⟩ := x
      simp only at hn hc ⊢
      obtain ⟨p, rfl⟩ := Int.eq_ofNat_of_zero_le (show 0 ≤ p by omega)
      refine ⟨?_, _, rfl⟩
      rw [Int.toNat_natCast]
      refine ⟨widD n ps p, v1e (v1e (xc rfl ⟨rfl, rfl⟩ rfl (F_widest_yes hn (by omega) (by omega))) rfl) rfl, ?_⟩
      refine if_f (dec_f (p := (¬ True) ∨ (False ∨ ¬ True)) (by simp) (bOr_d (bNot_d (bVe (v1e rfl isi_tup))) fun _ => bOr_d (bVe (v2e (x := .int 3) rfl rfl rfl)) fun _ => bNot_d (bVe (v1e (v1e (xc rfl ⟨rfl, rfl⟩ rfl rfl) rfl) rfl)))) ?_
      exact ⟨_, rfl, rfl⟩
    · cases h1
  · cases h
def F_law_k12 : FN
  | [.val (.scr _)] => some (.inl (.val (.bl true)))
  | _ => none
theorem F_law_k12_t (ns : List Int) (_ : ns.length ≤ 63) : F_law_k12 [.val (.scr ns)] = some (.inl (.val (.bl true))) := rfl
/-- law: 0 script 1 size 2 pipes 3 net 4 place 5 first 6 places 7 into 8 k 9 number 10 less -/
def t_law_k12 : VT := (seqT (asgV 1 (v2 fMax (vC (.int 2)) (v1 slD (v1 inlO (xCall 2 F_law_size_of (rV (vVar 0) (rV (vC (.int 7)) rNil))))))) (seqT (asgV 2 (v1 slD (v1 inlO (xCall 4 F_law_pipes_by (rV (vVar 0) (rV (vC (.int 6)) (rV (v2 fMax (vC (.int 1)) (v1 slD (v1 inlO (xCall 2 F_law_many_of (rV (vVar 0) (rV (vC (.int 15)) rNil)))))) (rV (vVar 1) rNil)))))))) (seqT (asgO 3 (v1 inlO (xCall 2 F_law_net_by (rV (vVar 1) (rS 2 rNil))))) (seqT (asgV 4 (v2 fAdd (vC (.int 1)) (v2 fMod (v1 slD (v1 inlO (xCall 2 F_law_cell_at (rV (vVar 0) (rV (vC (.int 2)) rNil))))) (v2 fSub (vVar 1) (vC (.int 1)))))) (seqT (asgV 5 (v1 slD (v1 inlO (xCall 2 F_law_many (rS 3 (rV (vVar 4) rNil)))))) (seqT (asgV 6 (v2 fIx (v1 slD (v1 inlO (xCall 2 F_widest (rS 3 (rV (vVar 4) rNil))))) (vC (.int 2)))) (seqT (asgV 7 (v1 slD (v1 inlO (xCall 2 F_law_into (rV (vVar 2) (rV (vVar 6) rNil)))))) (seqT (forT (lRng1 (v2 fMin (vC (.int 12)) (v1 fLenL (lVar 2)))) (gN 8) (seqT (asgV 9 (v2 fMod (v2 fAdd (v1 slD (v1 inlO (xCall 2 F_law_cell_at (rV (vVar 0) (rV (vC (.int 3)) rNil))))) (vVar 8)) (v1 fLenL (lVar 2)))) (seqT (nmT none 2 G_shut 3 (rV (vVar 9) rNil)) (seqT (asgV 10 (v1 slD (v1 inlO (xCall 2 F_law_many (rS 3 (rV (vVar 4) rNil)))))) (seqT (ifT (bV (v2 fIx (v2 fIx (vVar 2) (vVar 9)) (vC (.int 2)))) (seqT (nmT none 2 G_reopen 3 (rV (vVar 9) rNil)) skipT) skipT) (seqT (ifT (bOr (bV (v2 fGt (vVar 10) (vVar 5))) (bOr (bV (v2 fLt (vVar 10) (v2 fSub (vVar 5) (vC (.int 1))))) (bAnd (bNot (bV (v2 fIx (v2 fIx (vVar 2) (vVar 9)) (vC (.int 2))))) (bV (v2 fNe (vVar 10) (vVar 5)))))) (seqT (retV (vC (.bl false))) skipT) skipT) (seqT (ifT (bAnd (bV (v2 (fIn false) (vVar 9) (lVar 7))) (bV (v2 fNe (vVar 10) (v2 fSub (vVar 5) (vC (.int 1)))))) (seqT (retV (vC (.bl false))) skipT) skipT) skipT))))))) (seqT (retV (vAnd (v2 fGe (vVar 5) (vC (.int 0))) (v2 fEq (v1 slD (v1 inlO (xCall 2 F_law_many (rS 3 (rV (vVar 4) rNil))))) (vVar 5)))) skipT)))))))))
theorem pipesBy_len2 {ns : List Int} {first many n : Nat} (h : 2 ≤ n) : (pipesBy ns first many n).length = many := by
  unfold pipesBy
  rw [if_neg (by omega)]
  simp
theorem fEq_dn (a : Nat) : fEq (dInt a) (dInt a) = some (.bl true) := by rw [fEq_nat]; simp
theorem v_law_k12 : ∀ ss r, ss.length = 1 → F_law_k12 ss = some r → t_law_k12 (postP r) (En0 ss 11) ∧ ∃ s, r = .inl s := by
  intro ss r hl h
  unfold F_law_k12 at h
  split at h
  · rename_i ns
    have h1 := Option.some.inj h
    clear h
    subst h1
    refine ⟨?_, _, rfl⟩
    have hs := sizeOf_le (ns := ns) (k := 7) (by omega) (by omega)
    have hm := manyOf_le (ns := ns) (k := 15) (by omega)
    refine ⟨dInt (max 2 (sizeOf ns 7)), v2e rfl (v1e (v1e (xc rfl ⟨rfl, rfl⟩ rfl (F_sizeOf (k := 7) (by omega))) rfl) rfl) (fMax_nat 2 _), ?_⟩
    generalize hN : max 2 (sizeOf ns 7) = n
    have n2 : 2 ≤ n := by omega
    have n12 : n ≤ 12 := by omega
    have hn := okNet_by (ns := ns) (first := 6) (many := max 1 (manyOf ns 15)) (n := n) (by omega) n12 (by omega)
    have hlen := pipesBy_len2 (ns := ns) (first := 6) (many := max 1 (manyOf ns 15)) n2
    refine ⟨.lst (dPs (pipesBy ns 6 (max 1 (manyOf ns 15)) n)), v1e (v1e (xc (rVe rfl (rVe rfl (rVe (v2e rfl (v1e (v1e (xc rfl ⟨rfl, rfl⟩ rfl (F_manyOf (k := 15))) rfl) rfl) (fMax_nat 1 _)) (rVe rfl rfl)))) ⟨rfl, rfl⟩ rfl (F_pipesBy (f := 6) (m := max 1 (manyOf ns 15)) (s := n) (by omega) (by omega))) rfl) rfl, ?_⟩
    have hl1 : 1 ≤ (pipesBy ns 6 (max 1 (manyOf ns 15)) n).length := by omega
    clear hlen
    generalize pipesBy ns 6 (max 1 (manyOf ns 15)) n = ps at hn hl1
    have hpl := hn.2.2.2
    refine ⟨.net .loc (n : Int) (dPs ps), v1e (xc rfl ⟨rfl, rfl⟩ rfl (F_netBy rfl hn)) rfl, ?_⟩
    refine ⟨dInt (placeBy (cellAt ns 2) n), placeE n2 (cellE (k := 2) rfl) rfl, ?_⟩
    obtain ⟨p0, pn⟩ := placeBy_ok (c := cellAt ns 2) n2
    generalize placeBy (cellAt ns 2) n = p at p0 pn
    refine ⟨dInt (widN n ps p), v1e (v1e (xc rfl ⟨rfl, rfl⟩ rfl (F_lawMany hn p0 pn)) rfl) rfl, ?_⟩
    refine ⟨.lst (dNs (setOf n ps p (widN n ps p))), v2e (x := widD n ps p) (v1e (v1e (xc rfl ⟨rfl, rfl⟩ rfl (F_widest_yes hn p0 pn)) rfl) rfl) rfl rfl, ?_⟩
    refine ⟨.lst (dNs (lawInto ps (setOf n ps p (widN n ps p)))), v1e (v1e (xc rfl ⟨rfl, rfl⟩ rfl (F_into (ps := ps) (by omega))) rfl) rfl, ?_⟩
    refine ⟨_, rng1e (i := ((min 12 ps.length : Nat) : Int)) (v2e (y := dInt ps.length) rfl (lenPs rfl) (fMin_nat 12 _)) (by omega), ?_⟩
    rw [Int.toNat_natCast]
    refine loopT_inv (enc := dInt) (fun rest Γ => ∃ (v8 v9 v10 : Option Sl), Γ = [some (.val (.scr ns)), some (.val (dInt n)), some (.val (.lst (dPs ps))), some (.net .loc (n : Int) (dPs ps)), some (.val (dInt p)), some (.val (dInt (widN n ps p))), some (.val (.lst (dNs (setOf n ps p (widN n ps p))))), some (.val (.lst (dNs (lawInto ps (setOf n ps p (widN n ps p)))))), v8, v9, v10]) ?_ ?_ _ _ ⟨none, none, none, rfl⟩
    · rintro t rest Γ kk ⟨v8, v9, v10, rfl⟩ hk
      refine ⟨_, rfl, ?_⟩
      have a1 : 0 ≤ (cellAt ns 3 + (t : Int)) % (ps.length : Int) := Int.emod_nonneg _ (by omega)
      have a2 : (cellAt ns 3 + (t : Int)) % (ps.length : Int) < ps.length := Int.emod_lt_of_pos _ (by omega)
      obtain ⟨k, hkk⟩ := Int.eq_ofNat_of_zero_le a1
      have hkl : k < ps.length := by omega
      refine ⟨dInt k, v2e (v2e (z := .int (cellAt ns 3 + (t : Int))) (cellE (k := 3) rfl) rfl rfl) (lenPs rfl) (by rw [fMod_pos (by omega), hkk]; rfl), ?_⟩
      have hn' := turnAt_ok (o := false) hn hkl
      obtain ⟨w1, w2, w3⟩ := wid_shut hn p0 pn hkl
      refine ⟨rfl, _, _, _, _, rfl, ⟨rfl, rfl⟩, rfl, G_shutT hkl, ?_⟩
      refine ⟨dInt (widN n (turnAt ps k false) p), v1e (v1e (xc rfl ⟨rfl, rfl⟩ rfl (F_lawMany hn' p0 pn)) rfl) rfl, ?_⟩
      have hsame : (pAt ps k).2.2 = false → turnAt ps k false = ps := fun z => by rw [← z]; exact turnAt_same hkl
      refine if_to (Γ' := [some (.val (.scr ns)), some (.val (dInt n)), some (.val (.lst (dPs ps))), some (.net .loc (n : Int) (dPs ps)), some (.val (dInt p)), some (.val (dInt (widN n ps p))), some (.val (.lst (dNs (setOf n ps p (widN n ps p))))), some (.val (.lst (dNs (lawInto ps (setOf n ps p (widN n ps p)))))), some (.val (dInt t)), some (.val (dInt k)), some (.val (dInt (widN n (turnAt ps k false) p)))])
        (p := (pAt ps k).2.2 = true) (bVe (by
          have := ixP2 (ixP (Γ := [some (.val (.scr ns)), some (.val (dInt n)), some (.val (.lst (dPs ps))), some (.net .loc (n : Int) (dPs (turnAt ps k false))), some (.val (dInt p)), some (.val (dInt (widN n ps p))), some (.val (.lst (dNs (setOf n ps p (widN n ps p))))), some (.val (.lst (dNs (lawInto ps (setOf n ps p (widN n ps p)))))), some (.val (dInt t)), some (.val (dInt k)), some (.val (dInt (widN n (turnAt ps k false) p)))]) (f := vVar 2) (h := vVar 9) (ps := ps) (k := k) rfl rfl hkl)
          rw [show decide ((pAt ps k).2.2 = true) = (pAt ps k).2.2 by simp]
          exact this)) (fun c Q hq => ?_) (fun c Q hq => ?_) ?_
      · refine ⟨rfl, _, _, _, _, rfl, ⟨rfl, rfl⟩, rfl, G_reopenT (by rw [turnAt_len]; exact hkl), ?_⟩
        have e : turnAt (turnAt ps k false) k true = ps := by rw [turnAt_turnAt hkl, ← c, turnAt_same hkl]
        rw [e]
        exact hq
      · have c : (pAt ps k).2.2 = false := by simpa using c
        have e := hsame c
        have e2 : (∀ x : List P3, x = ps → Q (.nx [some (.val (.scr ns)), some (.val (dInt n)), some (.val (.lst (dPs ps))), some (.net .loc (n : Int) (dPs x)), some (.val (dInt p)), some (.val (dInt (widN n ps p))), some (.val (.lst (dNs (setOf n ps p (widN n ps p))))), some (.val (.lst (dNs (lawInto ps (setOf n ps p (widN n ps p)))))), some (.val (dInt t)), some (.val (dInt k)), some (.val (dInt (widN n (turnAt ps k false) p)))])) := fun x hx => by rw [hx]; exact hq
        exact e2 _ e
      refine if_f (dec_f (p := widN n ps p < widN n (turnAt ps k false) p ∨ ((widN n (turnAt ps k false) p : Int) < (widN n ps p : Int) - 1 ∨ ((¬ (pAt ps k).2.2 = true) ∧ widN n (turnAt ps k false) p ≠ widN n ps p))) (fun z => ?_)
        (bOr_d (bVe (v2e (x := dInt (widN n (turnAt ps k false) p)) (y := dInt (widN n ps p)) rfl rfl (by show some (D.bl (decide ((widN n ps p : Int) < (widN n (turnAt ps k false) p : Int)))) = _; simp))) fun _ => bOr_d (bVe (v2e (x := dInt (widN n (turnAt ps k false) p)) (y := .int ((widN n ps p : Int) - 1)) rfl rfl rfl)) fun _ => bAnd_d (bNot_d (p := (pAt ps k).2.2 = true) (bVe (by
          have := ixP2 (ixP (Γ := [some (.val (.scr ns)), some (.val (dInt n)), some (.val (.lst (dPs ps))), some (.net .loc (n : Int) (dPs ps)), some (.val (dInt p)), some (.val (dInt (widN n ps p))), some (.val (.lst (dNs (setOf n ps p (widN n ps p))))), some (.val (.lst (dNs (lawInto ps (setOf n ps p (widN n ps p)))))), some (.val (dInt t)), some (.val (dInt k)), some (.val (dInt (widN n (turnAt ps k false) p)))]) (f := vVar 2) (h := vVar 9) (ps := ps) (k := k) rfl rfl hkl)
          rw [show decide ((pAt ps k).2.2 = true) = (pAt ps k).2.2 by simp]
          exact this))) fun _ => bVe (neE rfl rfl))) ?_
      · rcases z with z | z | z
        · omega
        · omega
        · have c : (pAt ps k).2.2 = false := by simpa using z.1
          exact z.2 (by rw [hsame c])
      refine if_f (dec_f (p := k ∈ lawInto ps (setOf n ps p (widN n ps p)) ∧ (widN n (turnAt ps k false) p : Int) ≠ (widN n ps p : Int) - 1) (fun z => by have := w3 z.1; omega) (bAnd_d (bVe (inE rfl rfl)) fun _ => bVe (v2e (x := dInt (widN n (turnAt ps k false) p)) (y := .int ((widN n ps p : Int) - 1)) rfl rfl (fNe_int (a := (widN n (turnAt ps k false) p : Int)) (b := (widN n ps p : Int) - 1))))) ?_
      exact hk _ ⟨_, _, _, rfl⟩
    · rintro Γ ⟨v8, v9, v10, rfl⟩
      refine ⟨.bl true, vAnd_t (v2e (x := dInt (widN n ps p)) rfl rfl (by show some (D.bl (decide ((0 : Int) ≤ (widN n ps p : Int)))) = _; rw [decide_eq_true (Int.natCast_nonneg _)])) (v2e (v1e (v1e (xc rfl ⟨rfl, rfl⟩ rfl (F_lawMany hn p0 pn)) rfl) rfl) rfl (fEq_dn _)), rfl⟩
  · cases h
end Z

set_option maxRecDepth 100000
namespace Z
open PySem PySem.Spec PyProof.Rows L2

/-! ### trees without a common pipe: plain mathematics -/
def without (all : List O3) (e : O3) : List O3 := all.filter fun x => decide (x ≠ e)
theorem mem_without {all : List O3} {e x : O3} : x ∈ without all e ↔ x ∈ all ∧ x ≠ e := by
  unfold without
  rw [List.mem_filter]
  simp
theorem EdOk.without {all : List O3} {size : Nat} {e : O3} (E : EdOk all size) : EdOk (without all e) size :=
  ⟨E.pos, (List.Sublist.map _ List.filter_sublist).nodup E.nd, fun x hx => E.lt x (mem_without.mp hx).1⟩
def enters (S : List Nat) (e : O3) : Prop := e.2.1 ∉ S ∧ e.2.2 ∈ S
instance (S : List Nat) (e : O3) : Decidable (enters S e) := by unfold enters; infer_instance
theorem cut_mono {all : List O3} {S T : List Nat} (h : ∀ e ∈ all, enters S e → enters T e) : cut all S ≤ cut all T := by
  have := sumI_le (f := fun (e : O3) => ind (e.2.1 ∉ S ∧ e.2.2 ∈ S)) (g := fun (e : O3) => ind (e.2.1 ∉ T ∧ e.2.2 ∈ T)) (xs := all) fun e he => by
    by_cases c : e.2.1 ∉ S ∧ e.2.2 ∈ S
    · rw [ind_t c, ind_t (show e.2.1 ∉ T ∧ e.2.2 ∈ T from h e he c)]
      exact Int.le_refl _
    · rw [ind_f c]
      unfold ind
      split <;> omega
  rw [← cut_sum, ← cut_sum] at this
  omega
/-- a pipe that enters the one and not the other -/
theorem cut_lt {all : List O3} {S T : List Nat} (h : cut all T < cut all S) : ∃ e ∈ all, enters S e ∧ ¬ enters T e := Decidable.byContradiction fun c => by
  have := cut_mono (all := all) (S := S) (T := T) fun e he hs => Decidable.byContradiction fun z => c ⟨e, he, hs, z⟩
  omega
theorem cut_pos {all : List O3} {S : List Nat} (h : 0 < cut all S) : ∃ e ∈ all, enters S e := by
  unfold cut at h
  obtain ⟨e, he⟩ := List.exists_mem_of_length_pos h
  rw [List.mem_filter] at he
  exact ⟨e, he.1, of_decide_eq_true he.2⟩
theorem cut_without {all : List O3} {S : List Nat} {e : O3} (h : ¬ enters S e) : cut (without all e) S = cut all S := by
  unfold cut without
  rw [List.filter_filter]
  congr 1
  refine List.filter_congr fun x _ => ?_
  by_cases c : x = e
  · subst c
    rw [decide_eq_false (show ¬ (x.2.1 ∉ S ∧ x.2.2 ∈ S) from h)]
    simp
  · simp [c]
theorem cut_without1 {all : List O3} {S : List Nat} {e : O3} {size : Nat} (E : EdOk all size) : cut all S ≤ cut (without all e) S + 1 := by
  unfold cut without
  rw [List.filter_filter]
  have nd : all.Nodup := (List.pairwise_map.mp E.nd).imp fun h z => h (by rw [z])
  have key : ∀ {l : List O3}, l.Nodup → (l.filter fun x => decide (x.2.1 ∉ S ∧ x.2.2 ∈ S)).length ≤ (l.filter fun x => decide (x ≠ e) && decide (x.2.1 ∉ S ∧ x.2.2 ∈ S)).length + (if e ∈ l then 1 else 0) := by
    intro l
    induction l with
    | nil => intro _; simp
    | cons x l ih =>
      intro h
      have h' := List.nodup_cons.mp h
      have ih := ih h'.2
      rw [List.filter_cons, List.filter_cons]
      by_cases c : x = e
      · subst c
        rw [if_neg h'.1] at ih
        rw [show (decide (x ≠ x) && decide (x.2.1 ∉ S ∧ x.2.2 ∈ S)) = false by simp]
        rw [if_neg (show ¬ (false = true) by simp), if_pos (show x ∈ x :: l by simp)]
        split
        · simp only [List.length_cons]; omega
        · omega
      · rw [decide_eq_true c, Bool.true_and]
        have hm : (e ∈ x :: l) ↔ e ∈ l := by
          rw [List.mem_cons]
          exact ⟨fun z => z.elim (fun q => absurd q.symm c) id, .inr⟩
        simp only [hm]
        split
        · simp only [List.length_cons]; omega
        · exact ih
  have := key nd
  have e2 : (List.filter (fun a => decide (a.2.1 ∉ S ∧ a.2.2 ∈ S) && decide (a ≠ e)) all) = List.filter (fun x => decide (x ≠ e) && decide (x.2.1 ∉ S ∧ x.2.2 ∈ S)) all := List.filter_congr fun x _ => Bool.and_comm _ _
  rw [e2]
  split at this <;> omega
/-- sets by a test -/
def setBy (size : Nat) (p : Nat → Bool) : List Nat := (List.range size).filter p
theorem mem_setBy {size v : Nat} {p : Nat → Bool} : v ∈ setBy size p ↔ v < size ∧ p v = true := by
  unfold setBy
  rw [List.mem_filter, List.mem_range]
theorem setBy_good {size : Nat} {p : Nat → Bool} (h : p 0 = false) : GoodSet size (setBy size p) :=
  ⟨List.Pairwise.filter _ List.pairwise_lt_range, fun v hv => (mem_setBy.mp hv).1, fun z => by have := (mem_setBy.mp z).2; rw [h] at this; cases this⟩
/-- both together are no wider -/
theorem cut_sub {all : List O3} {size : Nat} (E : EdOk all size) {X Y : List Nat} (gx : GoodSet size X) (gy : GoodSet size Y) :
    cut all (setBy size fun v => decide (v ∈ X) && decide (v ∈ Y)) + cut all (setBy size fun v => decide (v ∈ X) || decide (v ∈ Y)) ≤ cut all X + cut all Y := by
  have := sumI_le (xs := all) (f := fun (e : O3) => ind (e.2.1 ∉ (setBy size fun v => decide (v ∈ X) && decide (v ∈ Y)) ∧ e.2.2 ∈ (setBy size fun v => decide (v ∈ X) && decide (v ∈ Y))) + ind (e.2.1 ∉ (setBy size fun v => decide (v ∈ X) || decide (v ∈ Y)) ∧ e.2.2 ∈ (setBy size fun v => decide (v ∈ X) || decide (v ∈ Y))))
    (g := fun (e : O3) => ind (e.2.1 ∉ X ∧ e.2.2 ∈ X) + ind (e.2.1 ∉ Y ∧ e.2.2 ∈ Y)) fun e he => by
      have hl := E.lt e he
      simp only [mem_setBy, hl.1, hl.2, true_and, Bool.and_eq_true, Bool.or_eq_true, decide_eq_true_eq]
      unfold ind
      by_cases c1 : e.2.1 ∈ X <;> by_cases c2 : e.2.1 ∈ Y <;> by_cases c3 : e.2.2 ∈ X <;> by_cases c4 : e.2.2 ∈ Y <;> simp [c1, c2, c3, c4]
  rw [sumI_add, sumI_add, ← cut_sum, ← cut_sum, ← cut_sum, ← cut_sum] at this
  omega
/-- no set is entered by fewer -/
def Wide (all : List O3) (size k : Nat) : Prop := ∀ S, GoodSet size S → S ≠ [] → k ≤ cut all S
def hereOf (T : List O3) : List Nat := 0 :: T.map fun e => e.2.2
/-- a part of a tree, and the pipes left -/
structure TOk (all : List O3) (size k : Nat) (left T : List O3) : Prop where
  E : EdOk left size
  nd : (hereOf T).Nodup
  lt : ∀ v ∈ hereOf T, v < size
  sub : ∀ e ∈ T, e ∈ all
  lsub : ∀ e ∈ left, e ∈ all
  dis : ∀ e ∈ T, e ∉ left
  tnd : (T.map (·.1)).Nodup
  rch : ∀ v ∈ hereOf T, Rch (prs T) v
  k0 : Wide left size k
  k1 : ∀ S, GoodSet size S → S ≠ [] → (∀ v ∈ S, v ∉ hereOf T) → k + 1 ≤ cut left S
theorem TOk.start {all : List O3} {size k : Nat} (E : EdOk all size) (h : Wide all size (k + 1)) : TOk all size k all [] :=
  ⟨E, by simp [hereOf], fun v hv => by simp [hereOf] at hv; subst hv; exact E.pos, fun e he => (nomatch he), fun e he => he, fun e he => (nomatch he), .nil, fun v hv => by simp [hereOf] at hv; subst hv; exact .zero, fun S G hS => Nat.le_trans (Nat.le_succ k) (h S G hS), fun S G hS _ => h S G hS⟩
/-- it may be taken: from here to a new place, and all stays wide behind it -/
def fit (size k : Nat) (left T : List O3) (e : O3) : Prop := e.2.1 ∈ hereOf T ∧ e.2.2 ∉ hereOf T ∧ spR size (without left e) e.2.2 k = k
noncomputable instance (size k : Nat) (left T : List O3) (e : O3) : Decidable (fit size k left T e) := by unfold fit; infer_instance
theorem here_snoc (T : List O3) (e : O3) : hereOf (T ++ [e]) = hereOf T ++ [e.2.2] := by
  unfold hereOf
  rw [List.map_append]
  rfl
theorem TOk.more {all : List O3} {size k : Nat} {left T : List O3} {e : O3} (h : TOk all size k left T) (A : EdOk all size) (he : e ∈ left) (f : fit size k left T e) : TOk all size k (without left e) (T ++ [e]) := by
  obtain ⟨f1, f2, f3⟩ := f
  have hl := h.E.lt e he
  have v0 : e.2.2 ≠ 0 := fun z => f2 (by rw [z]; simp [hereOf])
  have key := (spR_iff (many := k) (h.E.without (e := e)) v0 hl.2).mp f3
  refine ⟨h.E.without, ?_, fun v hv => ?_, fun x hx => ?_, fun x hx => h.lsub x (mem_without.mp hx).1, fun x hx => ?_, ?_, fun v hv => ?_, fun S G hS => ?_, fun S G hS hd => ?_⟩
  · rw [here_snoc, List.nodup_append]
    refine ⟨h.nd, by simp, fun a ha b hb => ?_⟩
    simp at hb
    subst hb
    intro z
    subst z
    exact f2 ha
  · rw [here_snoc] at hv
    rcases List.mem_append.mp hv with q | q
    · exact h.lt v q
    · simp at q; subst q; exact hl.2
  · rcases List.mem_append.mp hx with q | q
    · exact h.sub x q
    · simp at q; subst q; exact h.lsub x he
  · rcases List.mem_append.mp hx with q | q
    · exact fun z => h.dis x q (mem_without.mp z).1
    · simp at q; subst q; exact fun z => (mem_without.mp z).2 rfl
  · rw [List.map_append, List.nodup_append]
    refine ⟨h.tnd, by simp, fun a ha b hb => ?_⟩
    simp at hb
    subst hb
    intro z
    obtain ⟨x, hx, ex⟩ := List.mem_map.mp ha
    have := A.inj (h.sub x hx) (h.lsub e he) (by rw [ex, z])
    subst this
    exact h.dis x hx he
  · have mono : ∀ {w}, Rch (prs T) w → Rch (prs (T ++ [e])) w := fun r => r.mono fun q hq => by
      unfold prs at hq ⊢
      rw [List.map_append]
      exact List.mem_append_left _ hq
    rw [here_snoc] at hv
    rcases List.mem_append.mp hv with q | q
    · exact mono (h.rch v q)
    · simp at q
      subst q
      refine .step (mono (h.rch _ f1)) ?_
      unfold prs
      rw [List.map_append]
      exact List.mem_append_right _ (by simp)
  · by_cases c : e.2.2 ∈ S
    · exact key S G c
    · rw [cut_without fun z => c z.2]
      exact h.k0 S G hS
  · rw [cut_without fun z => hd _ z.2 (by rw [here_snoc]; simp)]
    exact h.k1 S G hS fun v hv z => hd v hv (by rw [here_snoc]; exact List.mem_append_left _ z)
/-- a set that is as narrow as may be, with a place not here yet -/
def Tight (size k : Nat) (left T : List O3) (S : List Nat) : Prop := GoodSet size S ∧ cut left S ≤ k ∧ ∃ w ∈ S, w ∉ hereOf T
theorem least_len {P : List Nat → Prop} : ∀ (n : Nat) (S : List Nat), S.length ≤ n → P S → ∃ X, P X ∧ ∀ Y, P Y → X.length ≤ Y.length
  | 0, S, h, hS => ⟨S, hS, fun Y _ => by omega⟩
  | n + 1, S, h, hS => by
    by_cases c : ∃ Y, P Y ∧ Y.length < S.length
    · obtain ⟨Y, h1, h2⟩ := c
      exact least_len n Y (by omega) h1
    · exact ⟨S, hS, fun Y hY => Decidable.byContradiction fun z => c ⟨Y, hY, by omega⟩⟩
/-- a pipe that does: all sets that it enters are wider -/
theorem fit_of {all : List O3} {size k : Nat} {left T : List O3} {e : O3} (h : TOk all size k left T) (he : e ∈ left) (h1 : e.2.1 ∈ hereOf T) (h2 : e.2.2 ∉ hereOf T) (hk : ∀ S, GoodSet size S → enters S e → k + 1 ≤ cut left S) : fit size k left T e := by
  have hl := h.E.lt e he
  have v0 : e.2.2 ≠ 0 := fun z => h2 (by rw [z]; simp [hereOf])
  refine ⟨h1, h2, (spR_iff (many := k) (h.E.without (e := e)) v0 hl.2).mpr fun S G hS => ?_⟩
  by_cases c : enters S e
  · have a := hk S G c
    have b := cut_without1 (S := S) (e := e) h.E
    omega
  · rw [cut_without c]
    exact h.k0 S G (fun z => by rw [z] at hS; cases hS)
theorem fit_some {all : List O3} {size k : Nat} {left T : List O3} (h : TOk all size k left T) (hs : (hereOf T).length < size) : ∃ e ∈ left, fit size k left T e := by
  have zero : (0 : Nat) ∈ hereOf T := by simp [hereOf]
  obtain ⟨w, hw1, hw2⟩ : ∃ w, w < size ∧ w ∉ hereOf T := Decidable.byContradiction fun c => by
    have := (List.nodup_range (n := size)).length_le_of_subset (l₂ := hereOf T) fun v hv => Decidable.byContradiction fun z => c ⟨v, List.mem_range.mp hv, z⟩
    rw [List.length_range] at this
    omega
  by_cases c : ∃ S, Tight size k left T S
  · obtain ⟨S, hS⟩ := c
    obtain ⟨X, ⟨gx, cx, x0, hx0, hx0'⟩, hmin⟩ := least_len (P := Tight size k left T) S.length S (Nat.le_refl _) hS
    have gy : GoodSet size (setBy size fun v => decide (v ∈ X) && !decide (v ∈ hereOf T)) := setBy_good (by simp [zero])
    have memY : ∀ {v}, v ∈ setBy size (fun v => decide (v ∈ X) && !decide (v ∈ hereOf T)) ↔ v ∈ X ∧ v ∉ hereOf T := fun {v} => by
      rw [mem_setBy]
      constructor
      · intro ⟨_, q⟩
        simpa using q
      · intro ⟨q1, q2⟩
        exact ⟨gx.lt v q1, by simp [q1, q2]⟩
    have c1 := h.k1 _ gy (fun z => by have := memY.mpr ⟨hx0, hx0'⟩; rw [z] at this; cases this) fun v hv => (memY.mp hv).2
    obtain ⟨e, he, en, ne⟩ := cut_lt (all := left) (S := setBy size fun v => decide (v ∈ X) && !decide (v ∈ hereOf T)) (T := X) (by omega)
    have ev := memY.mp en.2
    have eu : e.2.1 ∈ X := Decidable.byContradiction fun z => ne ⟨z, ev.1⟩
    have eh : e.2.1 ∈ hereOf T := Decidable.byContradiction fun z => en.1 (memY.mpr ⟨eu, z⟩)
    refine ⟨e, he, fit_of h he eh ev.2 fun S G hS => Decidable.byContradiction fun hc => ?_⟩
    have gi : GoodSet size (setBy size fun v => decide (v ∈ X) && decide (v ∈ S)) := setBy_good (by simp [gx.no0])
    have gu : GoodSet size (setBy size fun v => decide (v ∈ X) || decide (v ∈ S)) := setBy_good (by simp [gx.no0, G.no0])
    have sb := cut_sub h.E gx G
    have ku := h.k0 _ gu fun z => by
      have : e.2.2 ∈ setBy size (fun v => decide (v ∈ X) || decide (v ∈ S)) := mem_setBy.mpr ⟨gx.lt _ ev.1, by simp [ev.1]⟩
      rw [z] at this
      cases this
    have vi : e.2.2 ∈ setBy size (fun v => decide (v ∈ X) && decide (v ∈ S)) := mem_setBy.mpr ⟨gx.lt _ ev.1, by simp [ev.1, hS.2]⟩
    have ti : Tight size k left T (setBy size fun v => decide (v ∈ X) && decide (v ∈ S)) := ⟨gi, by omega, e.2.2, vi, ev.2⟩
    have := hmin _ ti
    have lt : (setBy size fun v => decide (v ∈ X) && decide (v ∈ S)).length < X.length := by
      have hsub : ∀ v ∈ e.2.1 :: (setBy size fun v => decide (v ∈ X) && decide (v ∈ S)), v ∈ X := fun v hv => by
        rcases List.mem_cons.mp hv with rfl | hv
        · exact eu
        · have := (mem_setBy.mp hv).2
          simp at this
          exact this.1
      have hnd : (e.2.1 :: (setBy size fun v => decide (v ∈ X) && decide (v ∈ S))).Nodup := by
        rw [List.nodup_cons]
        refine ⟨fun z => ?_, gi.nodup⟩
        have := (mem_setBy.mp z).2
        simp at this
        exact hS.1 this.2
      have := hnd.length_le_of_subset hsub
      rw [List.length_cons] at this
      omega
    omega
  · have g0 : GoodSet size (setBy size fun v => !decide (v ∈ hereOf T)) := setBy_good (by simp [zero])
    have m0 : ∀ {v}, v < size → (v ∈ setBy size (fun v => !decide (v ∈ hereOf T)) ↔ v ∉ hereOf T) := fun {v} hv => by
      rw [mem_setBy]
      simp [hv]
    have c1 := h.k1 _ g0 (fun z => by have := (m0 hw1).mpr hw2; rw [z] at this; cases this) fun v hv => (m0 (mem_setBy.mp hv).1).mp hv
    obtain ⟨e, he, en⟩ := cut_pos (all := left) (S := setBy size fun v => !decide (v ∈ hereOf T)) (by omega)
    have hl := h.E.lt e he
    have ev := (m0 hl.2).mp en.2
    have eh : e.2.1 ∈ hereOf T := Decidable.byContradiction fun z => en.1 ((m0 hl.1).mpr z)
    refine ⟨e, he, fit_of h he eh ev fun S G hS => Decidable.byContradiction fun hc => c ⟨S, G, by omega, e.2.2, hS.2, ev⟩⟩
end Z

set_option maxRecDepth 100000
namespace Z
open PySem PySem.Spec PyProof.Rows L2

/-! ### trees: what the program does -/
noncomputable def findFit (size k : Nat) (left T : List O3) : List O3 → Option O3
  | [] => none
  | e :: es => if fit size k left T e then some e else findFit size k left T es
theorem findFit_some {size k : Nat} {left T : List O3} : ∀ {es : List O3} {e : O3}, findFit size k left T es = some e → e ∈ es ∧ fit size k left T e
  | [], _, h => by cases h
  | x :: es, e, h => by
    unfold findFit at h
    split at h
    · cases h
      exact ⟨by simp, by assumption⟩
    · obtain ⟨a, b⟩ := findFit_some h
      exact ⟨List.mem_cons_of_mem _ a, b⟩
theorem findFit_ex {size k : Nat} {left T : List O3} : ∀ {es : List O3}, (∃ e ∈ es, fit size k left T e) → ∃ e, findFit size k left T es = some e
  | [], ⟨_, h, _⟩ => by cases h
  | x :: es, ⟨e, h, f⟩ => by
    unfold findFit
    split
    · exact ⟨_, rfl⟩
    · rename_i c
      rcases List.mem_cons.mp h with rfl | h
      · exact absurd f c
      · exact findFit_ex ⟨e, h, f⟩
noncomputable def otGo (size k : Nat) : Nat → List O3 → List O3 → List O3 × List O3
  | 0, left, T => (left, T)
  | f + 1, left, T => match findFit size k left T left with
    | some e => otGo size k f (without left e) (T ++ [e])
    | none => (left, T)
noncomputable def otOf (size k : Nat) (all : List O3) : List O3 × List O3 := otGo size k (size - 1) all []
theorem otGo_ok {all : List O3} {size k : Nat} (A : EdOk all size) : ∀ {f : Nat} {left T : List O3}, TOk all size k left T → (hereOf T).length + f = size → TOk all size k (otGo size k f left T).1 (otGo size k f left T).2 ∧ (hereOf (otGo size k f left T).2).length = size
  | 0, left, T, h, hf => ⟨h, hf⟩
  | f + 1, left, T, h, hf => by
    obtain ⟨e, he⟩ := findFit_ex (fit_some h (by omega))
    obtain ⟨h1, h2⟩ := findFit_some he
    unfold otGo
    rw [he]
    exact otGo_ok A (h.more A h1 h2) (by rw [here_snoc, List.length_append]; simp; omega)
theorem otOf_ok {all : List O3} {size k : Nat} (A : EdOk all size) (h : Wide all size (k + 1)) : TOk all size k (otOf size k all).1 (otOf size k all).2 ∧ (hereOf (otOf size k all).2).length = size :=
  otGo_ok A (TOk.start A h) (by have := A.pos; simp [hereOf]; omega)
def hereK (T : List O3) : List Int := (hereOf T).map fun (n : Nat) => (n : Int)
theorem mem_hereK {T : List O3} {n : Nat} : (n : Int) ∈ hereK T ↔ n ∈ hereOf T := by
  unfold hereK
  rw [List.mem_map]
  constructor
  · rintro ⟨m, h, e⟩
    have : m = n := by omega
    subst this
    exact h
  · exact fun h => ⟨n, h, rfl⟩
theorem hereK_snoc {T : List O3} {e : O3} (h : e.2.2 ∉ hereOf T) : putI (hereK T) (e.2.2 : Int) = hereK (T ++ [e]) := by
  unfold putI
  rw [if_neg fun z => h (mem_hereK.mp z)]
  unfold hereK
  rw [here_snoc, List.map_append]
  rfl
noncomputable def otD (size k : Nat) (all : List O3) : D := .tup [.lst (dNs (srtN ((otOf size k all).2.map (·.1)))), .lst (dOs (otOf size k all).1)]
open Classical in
noncomputable def F_one_tree : FN
  | [.val (.int s), .val (.lst ds), .val (.int m)] => (decs ds : Option (List O3)).bind fun all => if 0 ≤ s ∧ s ≤ 1000 ∧ EdOk all s.toNat ∧ all.length ≤ 1000 ∧ 0 ≤ m ∧ Wide all s.toNat (m.toNat + 1) then some (.inl (.val (otD s.toNat m.toNat all))) else none
  | _ => none
theorem F_oneTree {s m : Nat} {all : List O3} (h : s ≤ 1000) (E : EdOk all s) (hl : all.length ≤ 1000) (W : Wide all s (m + 1)) : F_one_tree [.val (.int (s : Int)), .val (.lst (dOs all)), .val (.int (m : Int))] = some (.inl (.val (otD s m all))) := by
  show (decs (dOs all)).bind _ = _
  rw [decs_dOs, Option.bind_some]
  exact ite_some ⟨Int.natCast_nonneg s, by omega, E, hl, Int.natCast_nonneg m, W⟩
/-- one_tree: 0 size 1 pipes 2 many 3 left 4 here 5 tree 6 pipe 7 others 8 other -/
def t_one_tree : VT := (seqT (asgV 3 (v1 slD (v1 fList (lVar 1)))) (seqT (asgO 4 (oDic1 0)) (seqT (asgO 5 (oLst aNil)) (seqT (whileT (bV (v2 fLt (v1 fLenM (mVar 4)) (vVar 0))) (seqT (forT (v1 dL (vVar 3)) (gN 6) (seqT (ifT (bAnd (bV (v2 (fInM false) (v2 fIx (vVar 6) (vC (.int 1))) (mVar 4))) (bV (v2 (fInM true) (v2 fIx (vVar 6) (vC (.int 2))) (mVar 4)))) (seqT (asgV 7 (v1 slD (vLc [8] (lVar 3) (gN 8) (bV (v2 fNe (vVar 8) (vVar 6))) (vVar 8)))) (seqT (ifT (bV (v2 fEq (v2 fIx (v1 slD (v1 inlO (xCall 4 F_spread (rV (vVar 0) (rV (vVar 7) (rV (v2 fIx (vVar 6) (vC (.int 2))) (rV (vVar 2) rNil))))))) (vC (.int 0))) (vVar 2))) (seqT (appT 5 (v2 fIx (vVar 6) (vC (.int 0)))) (seqT (dputT 4 (v2 fIx (vVar 6) (vC (.int 2)))) (seqT (asgV 3 (vVar 7)) (seqT breakT skipT)))) skipT) skipT)) skipT) skipT)) skipT)) (seqT (retV (vTup (aCons (v1 slD (v1 fSorted (lVar 5))) (aCons (vVar 3) aNil)))) skipT)))))
theorem without_len {all : List O3} {e : O3} : (without all e).length ≤ all.length := List.length_filter_le _ _
theorem v_one_tree : ∀ ss r, ss.length = 3 → F_one_tree ss = some r → t_one_tree (postP r) (En0 ss 9) ∧ ∃ s, r = .inl s := by
  intro ss r hl h
  unfold F_one_tree at h
  split at h
  · rename_i s ds k
    obtain ⟨all, e1, h'⟩ := Option.bind_eq_some_iff.mp h
    clear h
    split at h'
    · rename_i hs
      have h'' := Option.some.inj h'
      clear h'
      subst h''
      cases dOs_some e1
      obtain ⟨h1, h2, A, h3, h4, W⟩ := hs
      obtain ⟨s, rfl⟩ := Int.eq_ofNat_of_zero_le h1
      obtain ⟨k, rfl⟩ := Int.eq_ofNat_of_zero_le h4
      simp only [Int.toNat_natCast] at A W ⊢
      have hs1 := A.pos
      refine ⟨?_, _, rfl⟩
      refine ⟨_, rfl, ?_⟩
      refine ⟨_, rfl, ?_⟩
      refine ⟨_, rfl, ?_⟩
      refine ⟨fun m Γ => ∃ (left T : List O3) (v6 v7 v8 : Option Sl), TOk all s k left T ∧ (hereOf T).length + m = s ∧ otGo s k m left T = otOf s k all ∧ left.length ≤ 1000 ∧
        Γ = [some (.val (.int (s : Int))), some (.val (.lst (dOs all))), some (.val (.int (k : Int))), some (.val (.lst (dOs left))), some (.odic .loc (hereK T)), some (.own .loc (dNs (T.map (·.1)))), v6, v7, v8], ⟨s - 1, all, [], none, none, none, TOk.start A W, by simp [hereOf]; omega, rfl, h3, rfl⟩, ?_⟩
      rintro m Γ ⟨left, T, v6, v7, v8, tk, hm, q, hll, rfl⟩
      have lenK : (hereK T).length = (hereOf T).length := List.length_map ..
      have lenT : (hereOf T).length = T.length + 1 := by simp [hereOf]
      refine ⟨decide ((hereOf T).length < s), bVe (v2e (x := dInt (hereOf T).length) (y := dInt s) (v1e (x := hereK T) rfl (by show some (D.int ((hereK T).length : Int)) = _; rw [lenK]; rfl)) rfl (by show some (D.bl (decide (((hereOf T).length : Int) < (s : Int)))) = _; simp)), fun hb => ?_, fun hb => ?_⟩
      · have hlt := of_decide_eq_true hb
        cases m with
        | zero => omega
        | succ m =>
          obtain ⟨e, he⟩ := findFit_ex (fit_some tk hlt)
          have q' : otGo s k m (without left e) (T ++ [e]) = otOf s k all := by
            rw [← q]
            conv => rhs; unfold otGo
            rw [he]
          obtain ⟨he1, he2⟩ := findFit_some he
          refine ⟨dOs left, rfl, ?_⟩
          refine loopT_inv (enc := dO3) (fun rest Γ => ∃ (v6 v7 v8 : Option Sl), (∀ x ∈ rest, x ∈ left) ∧ findFit s k left T rest = some e ∧
            Γ = [some (.val (.int (s : Int))), some (.val (.lst (dOs all))), some (.val (.int (k : Int))), some (.val (.lst (dOs left))), some (.odic .loc (hereK T)), some (.own .loc (dNs (T.map (·.1)))), v6, v7, v8]) ?_ ?_ left _ ⟨v6, v7, v8, fun _ h => h, he, rfl⟩
          · rintro x rest Γ kk ⟨v6, v7, v8, hr, hf, rfl⟩ hk
            refine ⟨_, rfl, ?_⟩
            have hx := hr x (by simp)
            have hxl := tk.E.lt x hx
            have hr' : ∀ y ∈ rest, y ∈ left := fun y hy => hr y (List.mem_cons_of_mem _ hy)
            have hwl := without_len (all := left) (e := x)
            refine if_d (p := x.2.1 ∈ hereOf T ∧ x.2.2 ∉ hereOf T) ?_ (fun c => ?_) (fun c => ?_)
            · have b1 := inME (Γ := [some (.val (.int (s : Int))), some (.val (.lst (dOs all))), some (.val (.int (k : Int))), some (.val (.lst (dOs left))), some (.odic .loc (hereK T)), some (.own .loc (dNs (T.map (·.1)))), some (.val (dO3 x)), v7, v8]) (f := v2 fIx (vVar 6) (vC (.int 1))) (h := mVar 4) (n := x.2.1) (ks := hereK T) (ixO1 (p := x) rfl) rfl
              have b2 := notInME (Γ := [some (.val (.int (s : Int))), some (.val (.lst (dOs all))), some (.val (.int (k : Int))), some (.val (.lst (dOs left))), some (.odic .loc (hereK T)), some (.own .loc (dNs (T.map (·.1)))), some (.val (dO3 x)), v7, v8]) (f := v2 fIx (vVar 6) (vC (.int 2))) (h := mVar 4) (n := x.2.2) (ks := hereK T) (ixO2 (p := x) rfl) rfl
              rw [decide_eq_decide.mpr mem_hereK] at b1
              rw [decide_eq_decide.mpr (not_congr mem_hereK)] at b2
              exact bAnd_d (bVe b1) fun _ => bVe b2
            · refine ⟨.lst (dOs (without left x)), v1e (vlc_filter (enc := dO3) (xs := left) (p := fun p => decide (p ≠ x)) (h := dO3) rfl (by omega) (fun q _ => lcS rfl (bVe (neO3 rfl rfl)) fun _ => rfl)) rfl, ?_⟩
              refine if_d (p := spR s (without left x) x.2.2 k = k) (bVe (eqE (a := spR s (without left x) x.2.2 k) (b := k) (v2e (x := spD s (without left x) x.2.2 (spR s (without left x) x.2.2 k)) (v1e (v1e (xc (rVe rfl (rVe rfl (rVe (ixO2 (p := x) rfl) (rVe rfl rfl)))) ⟨rfl, rfl⟩ rfl (F_spreadE (s := s) (p := x.2.2) (m := k) (by omega) tk.E.without (by omega) hxl.2)) rfl) rfl) rfl rfl) rfl)) (fun d => ?_) (fun d => ?_)
              · have hfx : fit s k left T x := ⟨c.1, c.2, d⟩
                have ex : x = e := by
                  unfold findFit at hf
                  rw [if_pos hfx] at hf
                  exact Option.some.inj hf
                subst ex
                refine ⟨(by intro z; cases z), dInt x.1, ixO0 (p := x) rfl, by rw [dNs_len, List.length_map]; omega, ?_⟩
                refine ⟨(by intro z; cases z), (x.2.2 : Int), ixO2 (p := x) rfl, by omega, ?_⟩
                refine ⟨_, rfl, ?_⟩
                refine ⟨m, by omega, without left x, T ++ [x], some (.val (dO3 x)), some (.val (.lst (dOs (without left x)))), v8, tk.more A hx hfx, by rw [here_snoc, List.length_append]; simp; omega, q', by omega, ?_⟩
                rw [← hereK_snoc c.2, List.map_append, List.map_cons, List.map_nil, dNs_snoc]
                rfl
              · have hnf : ¬ fit s k left T x := fun z => d z.2.2
                refine hk _ ⟨_, _, v8, hr', ?_, rfl⟩
                unfold findFit at hf
                rw [if_neg hnf] at hf
                exact hf
            · have hnf : ¬ fit s k left T x := fun z => c ⟨z.1, z.2.1⟩
              refine hk _ ⟨_, v7, v8, hr', ?_, rfl⟩
              unfold findFit at hf
              rw [if_neg hnf] at hf
              exact hf
          · rintro Γ ⟨_, _, _, _, hf, rfl⟩
            cases hf
      · have hge : m = 0 := by have := of_decide_eq_false hb; omega
        subst hge
        have q : (left, T) = otOf s k all := q
        refine ⟨otD s k all, ?_, rfl⟩
        unfold otD
        rw [← q]
        unfold vTup
        rw [show (aCons (v1 slD (v1 fSorted (lVar 5))) (aCons (vVar 3) aNil)) _ = some [.lst (dNs (srtN (T.map (·.1)))), .lst (dOs left)] from by
          unfold aCons
          exact Option.bind_eq_some_iff.mpr ⟨_, v1e (v1e (x := dNs (T.map (·.1))) rfl (fSorted_ns _)) rfl, Option.bind_eq_some_iff.mpr ⟨_, Option.bind_eq_some_iff.mpr ⟨_, rfl, rfl⟩, rfl⟩⟩]
        rfl
    · cases h'
  · cases h
/-! ### so many trees -/
noncomputable def trGo (size : Nat) : Nat → List O3 → List (List Nat)
  | 0, _ => []
  | m + 1, all => srtN ((otOf size m all).2.map (·.1)) :: trGo size m (otOf size m all).1
noncomputable def treesD (n : Nat) (ps : List P3) (m : Nat) : List (List Nat) := trGo n m (openOf ps)
open Classical in
noncomputable def F_trees_of : FN
  | [.net _ s ds, .val (.int m)] => (unNet s ds).bind fun x => if 0 ≤ m ∧ m ≤ 1000 ∧ Wide (openOf x.2) x.1 m.toNat then some (.inl (.own .loc (dRows (treesD x.1 x.2 m.toNat)))) else none
  | _ => none
theorem F_treesOf {md : Md} {s m : Nat} {ps : List P3} (h : okNet s ps) (hm : m ≤ 1000) (W : Wide (openOf ps) s m) : F_trees_of [.net md (s : Int) (dPs ps), .val (.int (m : Int))] = some (.inl (.own .loc (dRows (treesD s ps m)))) := by
  show (unNet _ _).bind _ = _
  rw [unNet_of h]
  exact ite_some ⟨Int.natCast_nonneg m, by omega, W⟩
/-- trees_of: 0 net 1 many 2 pipes 3 trees 4 k 5 made -/
def t_trees_of : VT := (seqT (asgV 2 (v1 slD (v1 inlO (xCall 1 F_open_pipes (rS 0 rNil))))) (seqT (asgO 3 (oLst aNil)) (seqT (forT (lRng1 (vVar 1)) (gN 4) (seqT (asgV 5 (v1 slD (v1 inlO (xCall 3 F_one_tree (rV (v1 slD (v1 inlO (xMeth 1 F_size 0 rNil))) (rV (vVar 2) (rV (v2 fSub (v2 fSub (vVar 1) (vC (.int 1))) (vVar 4)) rNil))))))) (seqT (appT 3 (v2 fIx (vVar 5) (vC (.int 0)))) (seqT (asgV 2 (v2 fIx (vVar 5) (vC (.int 1)))) skipT)))) (seqT (retS 3) skipT))))
theorem v_trees_of : ∀ ss r, ss.length = 2 → F_trees_of ss = some r → t_trees_of (postP r) (En0 ss 6) ∧ ∃ s, r = .inl s := by
  intro ss r hl h
  unfold F_trees_of at h
  split at h
  · rename_i md s ds m
    obtain ⟨x, e1, h'⟩ := Option.bind_eq_some_iff.mp h
    clear h
    split at h'
    · rename_i hs
      have h'' := Option.some.inj h'
      clear h'
      subst h''
      obtain ⟨rfl, rfl, hn⟩ := unNet_some e1
      clear e1
      obtain ⟨n, ps⟩ := x
      obtain ⟨h1, h2, W⟩ := hs
      obtain ⟨m, rfl⟩ := Int.eq_ofNat_of_zero_le h1
      simp only [Int.toNat_natCast] at hn W ⊢
      have hn1 := hn.2.1
      have h60 := open_60 hn
      refine ⟨?_, _, rfl⟩
      refine ⟨_, v1e (v1e (opens_e hn rfl) rfl) rfl, ?_⟩
      refine ⟨_, rfl, ?_⟩
      refine ⟨_, rng1e (i := (m : Int)) rfl (by omega), ?_⟩
      rw [Int.toNat_natCast, List.range_eq_range']
      refine loopT_inv (enc := dInt) (fun rest Γ => ∃ (P : List O3) (done : List (List Nat)) (v4 v5 : Option Sl), rest.length ≤ m ∧ rest = List.range' (m - rest.length) rest.length ∧ EdOk P n ∧ Wide P n rest.length ∧ P.length ≤ 60 ∧ done ++ trGo n rest.length P = treesD n ps m ∧ done.length ≤ m ∧
        Γ = [some (.net md (n : Int) (dPs ps)), some (.val (.int (m : Int))), some (.val (.lst (dOs P))), some (.own .loc (dRows done)), v4, v5]) ?_ ?_ _ _ ⟨openOf ps, [], none, none, by simp, by simp, edOk_open hn, by simpa using W, h60, by simp [treesD], by simp, rfl⟩
      · rintro t rest Γ kk ⟨P, done, v4, v5, hl, hr, E, W, hP, hd, hdl, rfl⟩ hk
        refine ⟨_, rfl, ?_⟩
        simp only [List.length_cons] at hl hr W hd
        rw [List.range'_succ] at hr
        injection hr with hr1 hr2
        obtain ⟨ok, _⟩ := otOf_ok E W
        have hot := F_oneTree (m := rest.length) (show n ≤ 1000 by omega) E (by omega) W
        refine ⟨otD n rest.length P, v1e (v1e (xc (rVe rfl (rVe rfl (rVe (v2e (x := .int ((m : Int) - 1)) (y := dInt t) (z := .int (rest.length : Int)) rfl rfl (by
          show some (D.int ((m : Int) - 1 - (t : Int))) = _
          refine congrArg (fun i => some (D.int i)) ?_
          omega)) rfl))) ⟨rfl, rfl⟩ rfl hot) rfl) rfl, ?_⟩
        have hdlen : done.length < 1000000 := by omega
        refine ⟨(by intro z; cases z), .lst (dNs (srtN ((otOf n rest.length P).2.map (·.1)))), rfl, by unfold dRows; rw [List.length_map]; omega, ?_⟩
        refine ⟨.lst (dOs (otOf n rest.length P).1), rfl, ?_⟩
        have hsub : (otOf n rest.length P).1.length ≤ P.length := by
          have nd : (otOf n rest.length P).1.Nodup := (List.pairwise_map.mp ok.E.nd).imp fun h z => h (by rw [z])
          exact nd.length_le_of_subset fun x hx => ok.lsub x hx
        have hdm : done.length + (rest.length + 1) ≤ m := by
          have := congrArg List.length hd
          have tl : ∀ (a : Nat) (Q : List O3), (trGo n a Q).length = a := fun a => by
            induction a with
            | zero => intro Q; rfl
            | succ a ih => intro Q; show (trGo n a _).length + 1 = _; rw [ih]
          unfold treesD at this
          rw [List.length_append, tl, tl] at this
          omega
        refine hk _ ⟨(otOf n rest.length P).1, done ++ [srtN ((otOf n rest.length P).2.map (·.1))], some (.val (dInt t)), some (.val (otD n rest.length P)), by omega, ?_, ok.E, ok.k0, by omega, ?_, by simp; omega, ?_⟩
        · rw [show m - rest.length = m - (rest.length + 1) + 1 by omega]
          exact hr2
        · rw [← hd]
          simp [trGo]
        · unfold dRows
          rw [List.map_append]
          rfl
      · rintro Γ ⟨P, done, v4, v5, hl, hr, E, W, hP, hd, hdl, rfl⟩
        have hd : done = treesD n ps m := by simpa [trGo] using hd
        subst hd
        exact ⟨_, rfl, rfl, rfl⟩
    · cases h'
  · cases h
end Z

set_option maxRecDepth 100000
namespace Z
open PySem PySem.Spec PyProof.Rows L2

/-! ### trees as the laws ask them -/
theorem full_of_len {n : Nat} {l : List Nat} (nd : l.Nodup) (lt : ∀ v ∈ l, v < n) (hl : l.length = n) {v : Nat} (hv : v < n) : v ∈ l := Decidable.byContradiction fun c => by
  have : (v :: l).Nodup := List.nodup_cons.mpr ⟨c, nd⟩
  have := nodup_lt_len (size := n) this fun w hw => by
    rcases List.mem_cons.mp hw with rfl | hw
    · exact hv
    · exact lt w hw
  rw [List.length_cons] at this
  omega
structure TreeOk (n : Nat) (ps : List P3) (row : List Nat) : Prop where
  srt : row.Pairwise (· < ·)
  lt : ∀ k ∈ row, k < ps.length
  opn : ∀ k ∈ row, (pAt ps k).2.2 = true
  len : row.length = n - 1
  gnd : (row.map fun k => (pAt ps k).2.1).Nodup
  rch : ∀ v, v < n → Rch (edgesOf ps row) v
theorem Rch.perm {es fs : List (Nat × Nat)} (h : es.Perm fs) {v : Nat} (r : Rch es v) : Rch fs v := r.mono fun e he => h.mem_iff.mp he
theorem tree_of {n k : Nat} {ps : List P3} {all left T : List O3} (ok : TOk all n k left T) (hf : (hereOf T).length = n) (hs : ∀ e ∈ all, e ∈ openOf ps) : TreeOk n ps (srtN (T.map (·.1))) := by
  have hp := srtN_perm (T.map (·.1))
  have hT : ∀ e ∈ T, e.1 < ps.length ∧ (pAt ps e.1).2.2 = true ∧ e = opOf ps e.1 := fun e he => by
    obtain ⟨j, h1, h2, rfl⟩ := openOf_mem.mp (hs e (ok.sub e he))
    exact ⟨h1, h2, rfl⟩
  have hrow : ∀ j ∈ srtN (T.map (·.1)), ∃ e ∈ T, e.1 = j := fun j hj => List.mem_map.mp (hp.mem_iff.mp hj)
  have hnd : (srtN (T.map (·.1))).Nodup := hp.nodup_iff.mpr ok.tnd
  have hTm : ∀ {α : Type} (f : O3 → α), (T.map (·.1)).map (fun j => f (opOf ps j)) = T.map f := fun f => by
    rw [List.map_map]
    refine List.map_congr_left fun e he => ?_
    show f (opOf ps e.1) = f e
    rw [← (hT e he).2.2]
  refine ⟨((srtN_pairwise _).and hnd).imp fun h => Nat.lt_of_le_of_ne h.1 h.2, fun j hj => ?_, fun j hj => ?_, ?_, ?_, fun v hv => ?_⟩
  · obtain ⟨e, he, rfl⟩ := hrow j hj
    exact (hT e he).1
  · obtain ⟨e, he, rfl⟩ := hrow j hj
    exact (hT e he).2.1
  · rw [hp.length_eq, List.length_map]
    simp [hereOf] at hf
    omega
  · refine (hp.map _).nodup_iff.mpr ?_
    have := hTm fun e => e.2.2
    have e2 : (T.map (·.1)).map (fun k => (pAt ps k).2.1) = T.map fun e => e.2.2 := this
    rw [e2]
    exact (List.nodup_cons.mp ok.nd).2
  · have hv' := full_of_len ok.nd ok.lt hf hv
    refine (ok.rch v hv').perm ?_
    have := hTm fun e => e.2
    have e2 : (T.map (·.1)).map (fun k => ((pAt ps k).1, (pAt ps k).2.1)) = prs T := this
    unfold edgesOf
    rw [← e2]
    exact (hp.map _).symm
structure TreesOk (n : Nat) (ps : List P3) (m : Nat) (rows : List (List Nat)) : Prop where
  len : rows.length = m
  tree : ∀ row ∈ rows, TreeOk n ps row
  nd : rows.flatten.Nodup
theorem trGo_ok {n : Nat} {ps : List P3} : ∀ {m : Nat} {P : List O3}, EdOk P n → Wide P n m → (∀ e ∈ P, e ∈ openOf ps) → TreesOk n ps m (trGo n m P) ∧ ∀ k ∈ (trGo n m P).flatten, ∃ e ∈ P, e.1 = k
  | 0, P, _, _, _ => ⟨⟨rfl, fun row h => (nomatch h), .nil⟩, fun k h => (nomatch h)⟩
  | m + 1, P, E, W, hs => by
    obtain ⟨ok, hf⟩ := otOf_ok E W
    obtain ⟨t, q⟩ := trGo_ok (m := m) ok.E ok.k0 fun e he => hs e (ok.lsub e he)
    have hp := srtN_perm ((otOf n m P).2.map (·.1))
    have hrow : ∀ j ∈ srtN ((otOf n m P).2.map (·.1)), ∃ e ∈ (otOf n m P).2, e.1 = j := fun j hj => List.mem_map.mp (hp.mem_iff.mp hj)
    refine ⟨⟨by show (trGo n m _).length + 1 = _; rw [t.len], fun row hr => ?_, ?_⟩, fun k hk => ?_⟩
    · rcases List.mem_cons.mp hr with rfl | hr
      · exact tree_of ok hf hs
      · exact t.tree row hr
    · show (srtN ((otOf n m P).2.map (·.1)) ++ (trGo n m (otOf n m P).1).flatten).Nodup
      rw [List.nodup_append]
      refine ⟨hp.nodup_iff.mpr ok.tnd, t.nd, fun a ha b hb => ?_⟩
      intro z
      subst z
      obtain ⟨e, he, e1⟩ := hrow a ha
      obtain ⟨e', he', e2⟩ := q a hb
      have := E.inj (ok.sub e he) (ok.lsub e' he') (by rw [e1, e2])
      subst this
      exact ok.dis e he he'
    · have hk : k ∈ srtN ((otOf n m P).2.map (·.1)) ++ (trGo n m (otOf n m P).1).flatten := hk
      rcases List.mem_append.mp hk with z | z
      · obtain ⟨e, he, e1⟩ := hrow k z
        exact ⟨e, ok.sub e he, e1⟩
      · obtain ⟨e, he, e1⟩ := q k z
        exact ⟨e, ok.lsub e he, e1⟩
theorem trees_ok {n m : Nat} {ps : List P3} (hn : okNet n ps) (W : Wide (openOf ps) n m) : TreesOk n ps m (treesD n ps m) := (trGo_ok (edOk_open hn) W fun e he => he).1
theorem TreesOk.flat {n m : Nat} {ps : List P3} {rows : List (List Nat)} (h : TreesOk n ps m rows) : rows.flatten.length ≤ ps.length := nodup_lt_len h.nd fun k hk => by
  obtain ⟨row, h1, h2⟩ := List.mem_flatten.mp hk
  exact (h.tree row h1).lt k h2
theorem lawWet_len {n : Nat} {es : List (Nat × Nat)} (h0 : 0 < n) (he : ∀ e ∈ es, e.2 < n) (h : ∀ v, v < n → Rch es v) : (lawWet n es).length = n := by
  unfold lawWet
  rw [(srtN_perm _).length_eq]
  obtain ⟨nd, lt⟩ := lw_nodup h0 he
  have h1 := nodup_lt_len nd lt
  have h2 := (List.nodup_range (n := n)).length_le_of_subset (l₂ := lwIter es n [0]) fun v hv => (lw_iff h0 he).mpr (h v (List.mem_range.mp hv))
  rw [List.length_range] at h2
  omega
open Classical in
noncomputable def F_law_is_tree : FN
  | [.val (.lst es), .val (.int s), .val (.lst ds)] => (decs es : Option (List Nat)).bind fun l => (unNet s ds).bind fun x => if TreeOk x.1 x.2 l then some (.inl (.val (.bl true))) else none
  | _ => none
theorem F_isTree {n : Nat} {ps : List P3} {l : List Nat} (hn : okNet n ps) (h : TreeOk n ps l) : F_law_is_tree [.val (.lst (dNs l)), .val (.int (n : Int)), .val (.lst (dPs ps))] = some (.inl (.val (.bl true))) := by
  show (decs (dNs l)).bind _ = _
  rw [decs_dNs, Option.bind_some, unNet_of hn, Option.bind_some]
  exact ite_some h
/-- _law_is_tree: 0 found 1 size 2 pipes 3 number -/
def t_law_is_tree : VT := (seqT (ifT (bOr (bNot (bV (v1 slD (v1 inlO (xCall 2 F_law_rising (rV (vVar 0) (rV (v1 fLenL (lVar 2)) rNil))))))) (bV (v2 fNe (v1 fLenL (lVar 0)) (v2 fSub (vVar 1) (vC (.int 1)))))) (seqT (retV (vC (.bl false))) skipT) skipT) (seqT (forT (v1 dL (vVar 0)) (gN 3) (seqT (ifT (bNot (bV (v2 fIx (v2 fIx (vVar 2) (vVar 3)) (vC (.int 2))))) (seqT (retV (vC (.bl false))) skipT) skipT) skipT)) (seqT (ifT (bV (v2 fNe (v1 fLenSet (v1 slL (vLc [3] (lVar 0) (gN 3) bT (v2 fIx (v2 fIx (vVar 2) (vVar 3)) (vC (.int 1)))))) (v2 fSub (vVar 1) (vC (.int 1))))) (seqT (retV (vC (.bl false))) skipT) skipT) (seqT (retV (v2 fEq (v1 fLenL (v1 slL (v1 inlO (xCall 2 F_law_wet (rV (vVar 1) (rV (v1 slD (vLc [3] (lVar 0) (gN 3) bT (vTup (aCons (v2 fIx (v2 fIx (vVar 2) (vVar 3)) (vC (.int 0))) (aCons (v2 fIx (v2 fIx (vVar 2) (vVar 3)) (vC (.int 1))) aNil))))) rNil)))))) (vVar 1))) skipT))))
theorem v_law_is_tree : ∀ ss r, ss.length = 3 → F_law_is_tree ss = some r → t_law_is_tree (postP r) (En0 ss 4) ∧ ∃ s, r = .inl s := by
  intro ss r hl h
  unfold F_law_is_tree at h
  split at h
  · rename_i es s ds
    obtain ⟨l, e1, h1⟩ := Option.bind_eq_some_iff.mp h
    obtain ⟨x, e2, h2⟩ := Option.bind_eq_some_iff.mp h1
    clear h h1
    split at h2
    · rename_i hc
      have h4 := Option.some.inj h2
      clear h2
      subst h4
      cases dNs_some e1
      obtain ⟨rfl, rfl, hn⟩ := unNet_some e2
      clear e1 e2
      obtain ⟨n, ps⟩ := x
      simp only at hn hc ⊢
      have hn0 := hn.1
      have hn1 := hn.2.1
      have hn2 := hn.2.2.2
      have hln : l.length ≤ ps.length := nodup_lt_len (hc.srt.imp fun h => Nat.ne_of_lt h) hc.lt
      have hlen := hc.len
      refine ⟨?_, _, rfl⟩
      refine if_f (dec_f (p := (¬ True) ∨ ((l.length : Int) ≠ (n : Int) - 1)) (fun z => z.elim (fun z => z trivial) fun z => by omega) (bOr_d (bNot_d (bVe (v1e (v1e (xc (rVe rfl (rVe (lenPs rfl) rfl)) ⟨rfl, rfl⟩ rfl (F_rising hc.lt hc.srt (by omega))) rfl) rfl))) fun _ => bVe (v2e (x := dInt l.length) (y := .int ((n : Int) - 1)) (lenNs rfl) rfl (fNe_int (a := (l.length : Int)) (b := (n : Int) - 1))))) ?_
      refine ⟨dNs l, rfl, ?_⟩
      refine loopT_inv (enc := dInt) (fun rest Γ => ∃ (v3 : Option Sl), (∀ k ∈ rest, k ∈ l) ∧ Γ = [some (.val (.lst (dNs l))), some (.val (.int (n : Int))), some (.val (.lst (dPs ps))), v3]) ?_ ?_ l _ ⟨none, fun _ h => h, rfl⟩
      · rintro k rest Γ kk ⟨v3, hr, rfl⟩ hk
        refine ⟨_, rfl, ?_⟩
        have hkl := hr k (by simp)
        refine if_f (dec_f (p := ¬ True) (by simp) (bNot_d (bVe ?_))) ?_
        · have := ixP2 (ixP (Γ := [some (.val (.lst (dNs l))), some (.val (.int (n : Int))), some (.val (.lst (dPs ps))), some (.val (dInt k))]) (f := vVar 2) (h := vVar 3) (ps := ps) (k := k) rfl rfl (hc.lt k hkl))
          rw [hc.opn k hkl] at this
          exact this
        · exact hk _ ⟨_, fun a ha => hr a (List.mem_cons_of_mem _ ha), rfl⟩
      · rintro Γ ⟨v3, _, rfl⟩
        have hlm : (l.map fun k => (pAt ps k).2.1).length ≤ 4000 := by rw [List.length_map]; omega
        refine if_f (dec_f (p := (l.length : Int) ≠ (n : Int) - 1) (by omega) (bVe (v2e (x := dInt l.length) (y := .int ((n : Int) - 1)) (v1e (x := dNs (l.map fun k => (pAt ps k).2.1)) (v1e (vlc_map (enc := dInt) (xs := l) (h := fun k => dInt (pAt ps k).2.1) rfl (by omega) fun k hk => lcS1 rfl rfl (ixP1 (ixP (ps := ps) (k := k) rfl rfl (hc.lt k hk)))) (by
          unfold dNs
          rw [List.map_map]
          rfl)) (by rw [fLenSet_ns hc.gnd hlm, List.length_map]; rfl)) rfl (fNe_int (a := (l.length : Int)) (b := (n : Int) - 1))))) ?_
        have hok : ∀ e ∈ edgesOf ps l, e.2 < n := fun e he => by
          unfold edgesOf at he
          obtain ⟨k, hk, rfl⟩ := List.mem_map.mp he
          exact (hn.pip _ (pAt_mem (hc.lt k hk))).2.1
        have hwl := lawWet_len hn0 hok hc.rch
        refine ⟨.bl true, v2e (x := dInt n) (y := dInt n) (v1e (x := dNs (lawWet n (edgesOf ps l))) (v1e (v1e (x := .inl (.own .loc (dNs (lawWet n (edgesOf ps l))))) (xc (rVe rfl (rVe (v1e (vlc_map (enc := dInt) (xs := l) (h := fun k => dE ((pAt ps k).1, (pAt ps k).2.1)) rfl (by omega)
          fun k hk => lcS1 rfl rfl (edges_e rfl rfl (hc.lt k hk))) rfl) rfl)) ⟨rfl, rfl⟩ rfl ?_) rfl) rfl) ?_) rfl (fEq_dn n), rfl⟩
        · show F_law_wet [.val (.int (n : Int)), .val (.lst (l.map fun k => dE ((pAt ps k).1, (pAt ps k).2.1)))] = _
          have := F_wetL (s := n) (es := edgesOf ps l) (by omega) (by unfold edgesOf; rw [List.length_map]; omega)
          unfold dEs edgesOf at this
          rw [List.map_map] at this
          exact this
        · show some (D.int ((dNs (lawWet n (edgesOf ps l))).length : Int)) = _
          rw [dNs_len, hwl]
          rfl
    · cases h2
  · cases h
open Classical in
noncomputable def F_law_trees_apart : FN
  | [.val (.lst fs), .val (.int s), .val (.lst ds), .val (.int m)] => (decs fs : Option (List (List Nat))).bind fun rows => (unNet s ds).bind fun x => if 0 ≤ m ∧ TreesOk x.1 x.2 m.toNat rows then some (.inl (.val (.bl true))) else none
  | _ => none
theorem F_treesApart {n m : Nat} {ps : List P3} {rows : List (List Nat)} (hn : okNet n ps) (h : TreesOk n ps m rows) : F_law_trees_apart [.val (.lst (dRows rows)), .val (.int (n : Int)), .val (.lst (dPs ps)), .val (.int (m : Int))] = some (.inl (.val (.bl true))) := by
  show (decs (dRows rows)).bind _ = _
  rw [decs_dRows, Option.bind_some, unNet_of hn, Option.bind_some]
  exact ite_some ⟨Int.natCast_nonneg m, h⟩
/-- _law_trees_apart: 0 found 1 size 2 pipes 3 many 4 used 5 tree -/
def t_law_trees_apart : VT := (seqT (ifT (bOr (bNot (bV (v1 (fIsi "list") (vVar 0)))) (bV (v2 fNe (v1 fLenL (lVar 0)) (vVar 3)))) (seqT (retV (vC (.bl false))) skipT) skipT) (seqT (asgV 4 (v1 slD (oLst aNil))) (seqT (forT (v1 dL (vVar 0)) (gN 5) (seqT (ifT (bNot (bV (v1 slD (v1 inlO (xCall 3 F_law_is_tree (rV (vVar 5) (rV (vVar 1) (rV (vVar 2) rNil)))))))) (seqT (retV (vC (.bl false))) skipT) skipT) (seqT (asgV 4 (v1 slD (v2 fCat (lVar 4) (lVar 5)))) skipT))) (seqT (retV (v2 fEq (v1 fLenSet (lVar 4)) (v1 fLenL (lVar 4)))) skipT))))
theorem v_law_trees_apart : ∀ ss r, ss.length = 4 → F_law_trees_apart ss = some r → t_law_trees_apart (postP r) (En0 ss 6) ∧ ∃ s, r = .inl s := by
  intro ss r hl h
  unfold F_law_trees_apart at h
  split at h
  · rename_i fs s ds m
    obtain ⟨rows, e1, h1⟩ := Option.bind_eq_some_iff.mp h
    obtain ⟨x, e2, h2⟩ := Option.bind_eq_some_iff.mp h1
    clear h h1
    split at h2
    · rename_i hc
      have h4 := Option.some.inj h2
      clear h2
      subst h4
      cases dRows_some e1
      obtain ⟨rfl, rfl, hn⟩ := unNet_some e2
      clear e1 e2
      obtain ⟨n, ps⟩ := x
      obtain ⟨c2, hc⟩ := hc
      obtain ⟨m, rfl⟩ := Int.eq_ofNat_of_zero_le c2
      simp only [Int.toNat_natCast] at hn hc ⊢
      have hfl := hc.flat
      have hn2 := hn.2.2.2
      refine ⟨?_, _, rfl⟩
      refine if_f (dec_f (p := (¬ True) ∨ False) (by simp) (bOr_d (bNot_d (bVe (v1e rfl isi_list))) fun _ => bVe ?_)) ?_
      · refine v2e (x := dInt rows.length) (y := dInt m) (v1e (x := dRows rows) rfl (by show some (D.int ((dRows rows).length : Int)) = _; unfold dRows; rw [List.length_map]; rfl)) rfl ?_
        rw [hc.len]
        unfold fNe
        rw [fEq_dn]
        rfl
      refine ⟨_, rfl, ?_⟩
      refine ⟨dRows rows, rfl, ?_⟩
      refine loopT_inv (enc := fun r => D.lst (dNs r)) (fun rest Γ => ∃ (done : List Nat) (v5 : Option Sl), (∀ row ∈ rest, row ∈ rows) ∧ done ++ rest.flatten = rows.flatten ∧ Γ = [some (.val (.lst (dRows rows))), some (.val (.int (n : Int))), some (.val (.lst (dPs ps))), some (.val (.int (m : Int))), some (.val (.lst (dNs done))), v5]) ?_ ?_ rows _ ⟨[], none, fun _ h => h, rfl, rfl⟩
      · rintro row rest Γ kk ⟨done, v5, hr, hd, rfl⟩ hk
        refine ⟨_, rfl, ?_⟩
        refine if_f (dec_f (p := ¬ True) (by simp) (bNot_d (bVe (v1e (v1e (xc rfl ⟨rfl, rfl⟩ rfl (F_isTree hn (hc.tree row (hr row (by simp))))) rfl) rfl)))) ?_
        rw [List.flatten_cons] at hd
        have hlen : done.length + row.length ≤ ps.length := by
          have := congrArg List.length hd
          simp only [List.length_append] at this
          omega
        refine ⟨.lst (dNs (done ++ row)), v1e (v2e (x := dNs done) (y := dNs row) (z := .own .loc (dNs (done ++ row))) rfl rfl ?_) rfl, ?_⟩
        · unfold fCat
          rw [if_pos (decide_eq_true (by rw [dNs_len, dNs_len]; omega))]
          unfold dNs
          rw [List.map_append]
        · exact hk _ ⟨done ++ row, _, fun a ha => hr a (List.mem_cons_of_mem _ ha), by rw [← hd]; simp, rfl⟩
      · rintro Γ ⟨done, v5, _, hd, rfl⟩
        have hd : done = rows.flatten := by simpa using hd
        subst hd
        refine ⟨.bl true, v2e (v1e (x := dNs rows.flatten) rfl (fLenSet_ns hc.nd (by omega))) (lenNs rfl) ?_, rfl⟩
        simp [fEq, dInt]
    · cases h2
  · cases h
/-! ### trees apart, or a narrow set -/
noncomputable def narrowAt (n : Nat) (ps : List P3) (m : Nat) : List Nat → Option Nat
  | [] => none
  | p :: l => if spN n ps p m < m then some p else narrowAt n ps m l
theorem narrowAt_some {n m : Nat} {ps : List P3} : ∀ {l : List Nat} {p : Nat}, narrowAt n ps m l = some p → p ∈ l ∧ spN n ps p m < m
  | [], _, h => by cases h
  | q :: l, p, h => by
    unfold narrowAt at h
    split at h
    · cases h
      exact ⟨by simp, by assumption⟩
    · obtain ⟨a, b⟩ := narrowAt_some h
      exact ⟨List.mem_cons_of_mem _ a, b⟩
theorem narrowAt_none {n m : Nat} {ps : List P3} : ∀ {l : List Nat}, narrowAt n ps m l = none → ∀ p ∈ l, ¬ spN n ps p m < m
  | [], _, p, hp => by cases hp
  | q :: l, h, p, hp => by
    unfold narrowAt at h
    split at h
    · cases h
    · rename_i c
      rcases List.mem_cons.mp hp with rfl | hp
      · exact c
      · exact narrowAt_none h p hp
theorem wide_of {n m : Nat} {ps : List P3} (hn : okNet n ps) (h : ∀ p, p ≠ 0 → p < n → ¬ spN n ps p m < m) : Wide (openOf ps) n m := by
  intro S G hS
  obtain ⟨v, hv⟩ := List.exists_mem_of_ne_nil S hS
  have v0 : v ≠ 0 := fun z => G.no0 (z ▸ hv)
  have hvn := G.lt v hv
  have h1 : spN n ps v m ≤ m := spR_spec.1
  have h2 := h v v0 hvn
  exact (spR_iff (many := m) (edOk_open hn) v0 hvn).mp (show spR n (openOf ps) v m = m by unfold spN at h1 h2; omega) S G hv
noncomputable def apartD (n : Nat) (ps : List P3) (m : Nat) : D := match narrowAt n ps m (List.range' 1 (n - 1)) with
  | some p => waysD n ps p m
  | none => .tup [.str "trees", .lst (dRows (treesD n ps m))]
noncomputable def F_apart : FN
  | [.net _ s ds, .val (.int m)] => (unNet s ds).bind fun x => if 0 ≤ m ∧ m ≤ 1000 then some (.inl (.val (apartD x.1 x.2 m.toNat))) else none
  | _ => none
theorem F_apartE {md : Md} {s m : Nat} {ps : List P3} (h : okNet s ps) (hm : m ≤ 1000) : F_apart [.net md (s : Int) (dPs ps), .val (.int (m : Int))] = some (.inl (.val (apartD s ps m))) := by
  show (unNet _ _).bind _ = _
  rw [unNet_of h]
  exact ite_some ⟨Int.natCast_nonneg m, by omega⟩
/-- apart: 0 net 1 many 2 place 3 found -/
def t_apart : VT := (seqT (forT (lRng2 (vC (.int 1)) (v1 slD (v1 inlO (xMeth 1 F_size 0 rNil)))) (gN 2) (seqT (asgV 3 (v1 slD (v1 inlO (xCall 3 F_ways (rS 0 (rV (vVar 2) (rV (vVar 1) rNil))))))) (seqT (ifT (bV (v2 fEq (v2 fIx (vVar 3) (vC (.int 0))) (vC (.str "narrow")))) (seqT (retV (vVar 3)) skipT) skipT) skipT))) (seqT (retV (vTup (aCons (vC (.str "trees")) (aCons (v1 slD (v1 inlO (xCall 2 F_trees_of (rS 0 (rV (vVar 1) rNil))))) aNil)))) skipT))
theorem waysD0 {n p m : Nat} {ps : List P3} (h : spN n ps p m < m) : waysD n ps p m = .tup [.str "narrow", .lst (dNs (setOf n ps p (spN n ps p m)))] := by unfold waysD; rw [if_pos h]
theorem waysD1 {n p m : Nat} {ps : List P3} (h : ¬ spN n ps p m < m) : waysD n ps p m = .tup [.str "ways", .lst (dRows (rowsOf n ps p m (spN n ps p m)))] := by unfold waysD; rw [if_neg h]
theorem v_apart : ∀ ss r, ss.length = 2 → F_apart ss = some r → t_apart (postP r) (En0 ss 4) ∧ ∃ s, r = .inl s := by
  intro ss r hl h
  unfold F_apart at h
  split at h
  · rename_i md s ds m
    obtain ⟨x, e1, h'⟩ := Option.bind_eq_some_iff.mp h
    clear h
    split at h'
    · rename_i hs
      have h'' := Option.some.inj h'
      clear h'
      subst h''
      obtain ⟨rfl, rfl, hn⟩ := unNet_some e1
      clear e1
      obtain ⟨n, ps⟩ := x
      obtain ⟨m, rfl⟩ := Int.eq_ofNat_of_zero_le hs.1
      simp only [Int.toNat_natCast] at hn ⊢
      have hn1 := hn.2.1
      refine ⟨?_, _, rfl⟩
      refine ⟨_, rng2e (i := 1) (j := n) rfl (v1e (v1e (xm rfl (xc rfl ⟨rfl, rfl⟩ rfl rfl)) rfl) rfl) (by omega) (by omega), ?_⟩
      refine loopT_inv (enc := dInt) (fun rest Γ => ∃ (v2' v3 : Option Sl), (∀ p ∈ rest, p ∈ List.range' 1 (n - 1)) ∧ narrowAt n ps m rest = narrowAt n ps m (List.range' 1 (n - 1)) ∧ Γ = [some (.net md (n : Int) (dPs ps)), some (.val (.int (m : Int))), v2', v3]) ?_ ?_ _ _ ⟨none, none, fun _ h => h, rfl, rfl⟩
      · rintro p rest Γ kk ⟨v2', v3, hr, hq, rfl⟩ hk
        refine ⟨_, rfl, ?_⟩
        have hp := hr p (by simp)
        rw [List.mem_range'_1] at hp
        refine ⟨waysD n ps p m, v1e (v1e (xc rfl ⟨rfl, rfl⟩ rfl (F_ways_yes hn (by omega) (by omega) (by omega))) rfl) rfl, ?_⟩
        rw [show narrowAt n ps m (p :: rest) = if spN n ps p m < m then some p else narrowAt n ps m rest from rfl] at hq
        by_cases c : spN n ps p m < m
        · rw [if_pos c] at hq
          refine if_t (bVe (v2e (x := .str "narrow") (v2e (x := waysD n ps p m) rfl rfl (by rw [waysD0 c]; rfl)) rfl fEq_nn)) ?_
          refine ⟨_, rfl, ?_⟩
          show (Sum.inl (Sl.val (apartD n ps m)) : Rs) = _
          unfold apartD
          rw [← hq]
        · rw [if_neg c] at hq
          refine if_f (bVe (v2e (x := .str "ways") (v2e (x := waysD n ps p m) rfl rfl (by rw [waysD1 c]; rfl)) rfl fEq_wn)) ?_
          exact hk _ ⟨_, _, fun a ha => hr a (List.mem_cons_of_mem _ ha), hq, rfl⟩
      · rintro Γ ⟨v2', v3, _, hq, rfl⟩
        have hq : none = narrowAt n ps m (List.range' 1 (n - 1)) := hq
        have W : Wide (openOf ps) n m := wide_of hn fun p h1 h2 => narrowAt_none hq.symm p (by rw [List.mem_range'_1]; omega)
        refine ⟨apartD n ps m, ?_, rfl⟩
        unfold apartD
        rw [← hq]
        have hb : v1 slD (v1 inlO (xCall 2 F_trees_of (rS 0 (rV (vVar 1) rNil)))) [some (Sl.net md (n : Int) (dPs ps)), some (.val (.int (m : Int))), v2', v3] = some (.lst (dRows (treesD n ps m))) :=
          v1e (v1e (xc rfl ⟨rfl, rfl⟩ rfl (F_treesOf hn (by omega) W)) rfl) rfl
        unfold vTup
        rw [show (aCons (vC (.str "trees")) (aCons (v1 slD (v1 inlO (xCall 2 F_trees_of (rS 0 (rV (vVar 1) rNil))))) aNil)) _ = some [.str "trees", .lst (dRows (treesD n ps m))] from by
          unfold aCons
          exact Option.bind_eq_some_iff.mpr ⟨_, rfl, Option.bind_eq_some_iff.mpr ⟨_, Option.bind_eq_some_iff.mpr ⟨_, hb, rfl⟩, rfl⟩⟩]
        rfl
    · cases h'
  · cases h
theorem apart_cases {n m : Nat} {ps : List P3} (hn : okNet n ps) : (∃ p, p ≠ 0 ∧ p < n ∧ spN n ps p m < m ∧ apartD n ps m = waysD n ps p m) ∨ (Wide (openOf ps) n m ∧ apartD n ps m = .tup [.str "trees", .lst (dRows (treesD n ps m))]) := by
  unfold apartD
  cases q : narrowAt n ps m (List.range' 1 (n - 1)) with
  | some p =>
    obtain ⟨a, b⟩ := narrowAt_some q
    rw [List.mem_range'_1] at a
    exact .inl ⟨p, by omega, by omega, b, rfl⟩
  | none => exact .inr ⟨wide_of hn fun p h1 h2 => narrowAt_none q p (by rw [List.mem_range'_1]; omega), rfl⟩
theorem str_tt : decide (("trees" : Str) = "trees") = true := by decide +kernel
theorem str_tn : decide (("trees" : Str) = "narrow") = false := by decide +kernel
theorem fEq_tt : fEq (.str "trees") (.str "trees") = some (.bl true) := congrArg (fun b => some (D.bl b)) str_tt
theorem fEq_tn : fEq (.str "trees") (.str "narrow") = some (.bl false) := congrArg (fun b => some (D.bl b)) str_tn
def F_law_right_k09 : FN
  | [.net _ s ds, .val (.int s'), .val (.lst ds'), .val (.int m)] => (unNet s ds).bind fun x => (decs ds' : Option (List P3)).bind fun ps' => if s' = s ∧ ps' = x.2 ∧ 0 ≤ m ∧ m ≤ 1000 then some (.inl (.val (.bl true))) else none
  | _ => none
theorem F_right09 {md : Md} {s m : Nat} {ps : List P3} (h : okNet s ps) (hm : m ≤ 1000) : F_law_right_k09 [.net md (s : Int) (dPs ps), .val (.int (s : Int)), .val (.lst (dPs ps)), .val (.int (m : Int))] = some (.inl (.val (.bl true))) := by
  show (unNet _ _).bind _ = _
  rw [unNet_of h, Option.bind_some, decs_dPs, Option.bind_some]
  exact ite_some ⟨rfl, rfl, by omega, by omega⟩
/-- _law_right: 0 net 1 size 2 pipes 3 many 4 found -/
def t_law_right_k09 : VT := (seqT (asgV 4 (v1 slD (v1 inlO (xCall 2 F_apart (rS 0 (rV (vVar 3) rNil)))))) (seqT (ifT (bOr (bNot (bV (v1 (fIsi "tuple") (vVar 4)))) (bOr (bV (v2 fNe (v1 fLen (vVar 4)) (vC (.int 2)))) (bNot (bV (v1 (fIsi "str") (v2 fIx (vVar 4) (vC (.int 0)))))))) (seqT (retV (vC (.bl false))) skipT) skipT) (seqT (ifT (bV (v2 fEq (v2 fIx (vVar 4) (vC (.int 0))) (vC (.str "narrow")))) (seqT (retV (v1 slD (v1 inlO (xCall 4 F_law_narrow (rV (v2 fIx (vVar 4) (vC (.int 1))) (rV (vVar 1) (rV (vVar 2) (rV (vVar 3) rNil)))))))) skipT) skipT) (seqT (retV (vAnd (v2 fEq (v2 fIx (vVar 4) (vC (.int 0))) (vC (.str "trees"))) (v1 slD (v1 inlO (xCall 4 F_law_trees_apart (rV (v2 fIx (vVar 4) (vC (.int 1))) (rV (vVar 1) (rV (vVar 2) (rV (vVar 3) rNil))))))))) skipT))))
theorem v_law_right_k09 : ∀ ss r, ss.length = 4 → F_law_right_k09 ss = some r → t_law_right_k09 (postP r) (En0 ss 5) ∧ ∃ s, r = .inl s := by
  intro ss r hl h
  unfold F_law_right_k09 at h
  split at h
  · rename_i md s ds s' ds' m
    obtain ⟨x, e1, h1⟩ := Option.bind_eq_some_iff.mp h
    obtain ⟨ps', e2, h2⟩ := Option.bind_eq_some_iff.mp h1
    clear h h1
    split at h2
    · rename_i hc
      have h4 := Option.some.inj h2
      clear h2
      subst h4
      obtain ⟨rfl, rfl, hn⟩ := unNet_some e1
      cases dPs_some e2
      clear e1 e2
      obtain ⟨rfl, rfl, c3, c4⟩ := hc
      obtain ⟨n, ps⟩ := x
      simp only at hn ⊢
      obtain ⟨m, rfl⟩ := Int.eq_ofNat_of_zero_le c3
      have hn1 := hn.2.1
      have hn2 := hn.2.2.2
      refine ⟨?_, _, rfl⟩
      refine ⟨apartD n ps m, v1e (v1e (xc rfl ⟨rfl, rfl⟩ rfl (F_apartE hn (by omega))) rfl) rfl, ?_⟩
      rcases apart_cases (m := m) hn with ⟨p, h0, hp, d, eD⟩ | ⟨W, eD⟩
      · rw [eD, waysD0 d]
        obtain ⟨s1, s2⟩ := set_cut hn h0 hp d
        have s3 := good_len (set_good (n := n) (p := p) (r := spN n ps p m) (ps := ps))
        refine if_f (dec_f (p := (¬ True) ∨ (False ∨ ¬ True)) (by simp) (bOr_d (bNot_d (bVe (v1e rfl isi_tup))) fun _ => bOr_d (bVe (v2e (x := .int 2) rfl rfl rfl)) fun _ => bNot_d (bVe (v1e (x := .str "narrow") rfl isi_str)))) ?_
        refine if_t (bVe (v2e (x := .str "narrow") rfl rfl fEq_nn)) ?_
        refine ⟨.bl true, v1e (v1e (xc rfl ⟨rfl, rfl⟩ rfl (F_lawNarrow set_good (by intro z; rw [z] at s1; cases s1) (by omega) (by omega))) rfl) ?_, rfl⟩
        show some (D.bl (decide (((lawInto ps (setOf n ps p (spN n ps p m))).length : Int) < (m : Int)))) = _
        rw [s2, decide_eq_true (by omega)]
      · rw [eD]
        refine if_f (dec_f (p := (¬ True) ∨ (False ∨ ¬ True)) (by simp) (bOr_d (bNot_d (bVe (v1e rfl isi_tup))) fun _ => bOr_d (bVe (v2e (x := .int 2) rfl rfl rfl)) fun _ => bNot_d (bVe (v1e (x := .str "trees") rfl isi_str)))) ?_
        refine if_f (bVe (v2e (x := .str "trees") rfl rfl fEq_tn)) ?_
        exact ⟨.bl true, vAnd_t (v2e (x := .str "trees") rfl rfl fEq_tt) (v1e (v1e (xc rfl ⟨rfl, rfl⟩ rfl (F_treesApart hn (trees_ok hn W))) rfl) rfl), rfl⟩
    · cases h2
  · cases h
def F_law_k09 : FN
  | [.val (.scr _)] => some (.inl (.val (.bl true)))
  | _ => none
theorem F_law_k09_t (ns : List Int) (_ : ns.length ≤ 63) : F_law_k09 [.val (.scr ns)] = some (.inl (.val (.bl true))) := rfl
/-- law: 0 script 1 head 2 size 3 count 4 pipes 5 many 6 net -/
def t_law_k09 : VT := (seqT (asgV 1 (v1 slD (v1 inlO (xCall 2 F_law_cell_at (rV (vVar 0) (rV (vC (.int 0)) rNil)))))) (seqT (asgV 2 (v2 fAdd (vC (.int 1)) (v2 fMod (vVar 1) (vC (.int 5))))) (seqT (asgV 3 (v2 fMod (v1 slD (v1 inlO (xCall 2 F_law_cell_at (rV (vVar 0) (rV (vC (.int 1)) rNil))))) (vC (.int 15)))) (seqT (ifT (bV (v2 fEq (v2 fMod (v2 fDiv (vVar 1) (vC (.int 5))) (vC (.int 16))) (vC (.int 1)))) (seqT (asgV 2 (vC (.int 8))) (seqT (asgV 3 (v2 fAdd (vC (.int 14)) (v2 fMod (v1 slD (v1 inlO (xCall 2 F_law_cell_at (rV (vVar 0) (rV (vC (.int 1)) rNil))))) (vC (.int 11))))) skipT)) skipT) (seqT (asgO 4 (v1 inlO (xCall 4 F_law_pipes_by (rV (vVar 0) (rV (vC (.int 4)) (rV (vVar 3) (rV (vVar 2) rNil))))))) (seqT (asgV 5 (v2 fMod (v1 slD (v1 inlO (xCall 2 F_law_cell_at (rV (vVar 0) (rV (vC (.int 2)) rNil))))) (vC (.int 4)))) (seqT (ifT (bV (v2 fEq (v2 fMod (v2 fDiv (v1 slD (v1 inlO (xCall 2 F_law_cell_at (rV (vVar 0) (rV (vC (.int 2)) rNil))))) (vC (.int 4))) (vC (.int 8))) (vC (.int 1)))) (seqT (asgV 5 (v2 fMod (v2 fDiv (v1 slD (v1 inlO (xCall 2 F_law_cell_at (rV (vVar 0) (rV (vC (.int 2)) rNil))))) (vC (.int 32))) (vC (.int 6)))) skipT) skipT) (seqT (asgO 6 (v1 inlO (xCall 2 F_law_net_by (rV (vVar 2) (rS 4 rNil))))) (seqT (ifT (bFrz (bNot (bV (v1 slD (v1 inlO (xCall 4 F_law_right_k09 (rS 6 (rV (vVar 2) (rV (vVar 4) (rV (vVar 5) rNil)))))))))) (seqT (retV (vC (.bl false))) skipT) skipT) (seqT (cmT none 4 G_law_turn_one (rS 6 (rV (vVar 2) (rS 4 (rV (v1 slD (v1 inlO (xCall 2 F_law_cell_at (rV (vVar 0) (rV (vC (.int 3)) rNil))))) rNil))))) (seqT (retV (vFrz (v1 slD (v1 inlO (xCall 4 F_law_right_k09 (rS 6 (rV (vVar 2) (rV (vVar 4) (rV (vVar 5) rNil))))))))) skipT)))))))))))
theorem v_law_k09 : ∀ ss r, ss.length = 1 → F_law_k09 ss = some r → t_law_k09 (postP r) (En0 ss 7) ∧ ∃ s, r = .inl s := by
  intro ss r hl h
  unfold F_law_k09 at h
  split at h
  · rename_i ns
    have h1 := Option.some.inj h
    clear h
    subst h1
    refine ⟨?_, _, rfl⟩
    refine ⟨.int (cellAt ns 0), cellE (k := 0) rfl, ?_⟩
    refine ⟨.int (1 + cellAt ns 0 % 5), v2e rfl (v2e rfl rfl (fMod_pos (by omega))) rfl, ?_⟩
    refine ⟨.int (cellAt ns 1 % 15), v2e (cellE (k := 1) rfl) rfl (fMod_pos (by omega)), ?_⟩
    obtain ⟨n, hn0, n1, n8⟩ : ∃ n : Nat, (n : Int) = (if cellAt ns 0 / 5 % 16 = 1 then 8 else 1 + cellAt ns 0 % 5) ∧ 1 ≤ n ∧ n ≤ 8 := by
      have a1 : 0 ≤ cellAt ns 0 % 5 := Int.emod_nonneg _ (by omega)
      have a2 : cellAt ns 0 % 5 < 5 := Int.emod_lt_of_pos _ (by omega)
      refine ⟨(if cellAt ns 0 / 5 % 16 = 1 then 8 else 1 + cellAt ns 0 % 5).toNat, ?_, ?_, ?_⟩ <;> split <;> omega
    obtain ⟨ct, hc0, c60⟩ : ∃ n : Nat, (n : Int) = (if cellAt ns 0 / 5 % 16 = 1 then 14 + cellAt ns 1 % 11 else cellAt ns 1 % 15) ∧ n ≤ 30 := by
      have a1 : 0 ≤ cellAt ns 1 % 15 := Int.emod_nonneg _ (by omega)
      have a2 : cellAt ns 1 % 15 < 15 := Int.emod_lt_of_pos _ (by omega)
      have a3 : 0 ≤ cellAt ns 1 % 11 := Int.emod_nonneg _ (by omega)
      have a4 : cellAt ns 1 % 11 < 11 := Int.emod_lt_of_pos _ (by omega)
      refine ⟨(if cellAt ns 0 / 5 % 16 = 1 then 14 + cellAt ns 1 % 11 else cellAt ns 1 % 15).toNat, ?_, ?_⟩ <;> split <;> omega
    obtain ⟨m, hm1, hm2⟩ : ∃ m : Nat, (m : Int) = (if cellAt ns 2 / 4 % 8 = 1 then cellAt ns 2 / 32 % 6 else cellAt ns 2 % 4) ∧ m ≤ 1000 := by
      have a1 : 0 ≤ cellAt ns 2 % 4 := Int.emod_nonneg _ (by omega)
      have a2 : cellAt ns 2 % 4 < 4 := Int.emod_lt_of_pos _ (by omega)
      have a3 : 0 ≤ cellAt ns 2 / 32 % 6 := Int.emod_nonneg _ (by omega)
      have a4 : cellAt ns 2 / 32 % 6 < 6 := Int.emod_lt_of_pos _ (by omega)
      refine ⟨(if cellAt ns 2 / 4 % 8 = 1 then cellAt ns 2 / 32 % 6 else cellAt ns 2 % 4).toNat, ?_, ?_⟩ <;> split <;> omega
    refine if_to (Γ' := [some (.val (.scr ns)), some (.val (.int (cellAt ns 0))), some (.val (.int (n : Int))), some (.val (.int (ct : Int))), none, none, none]) (p := cellAt ns 0 / 5 % 16 = 1) (bVe (v2e (v2e (v2e rfl rfl (fDiv_pos (by omega) (by omega))) rfl (fMod_pos (by omega))) rfl rfl)) (fun c Q hq => ?_) (fun c Q hq => ?_) ?_
    · rw [if_pos c] at hn0 hc0
      rw [hn0] at hq
      refine ⟨_, rfl, ?_⟩
      refine ⟨.int (ct : Int), v2e (y := .int (cellAt ns 1 % 11)) rfl (v2e (cellE (k := 1) rfl) rfl (fMod_pos (by omega))) (by rw [hc0]; rfl), hq⟩
    · rw [if_neg c] at hn0 hc0
      rw [hn0, hc0] at hq
      exact hq
    have hn := okNet_by (ns := ns) (first := 4) (many := ct) (n := n) (by omega) (by omega) (by omega)
    generalize hps : pipesBy ns 4 ct n = ps at hn
    refine ⟨.own .loc (dPs ps), v1e (xc rfl ⟨rfl, rfl⟩ rfl (F_pipesBy (f := 4) (m := ct) (s := n) (by omega) (by omega))) (by rw [hps]; rfl), ?_⟩
    refine ⟨.int (cellAt ns 2 % 4), v2e (cellE (k := 2) rfl) rfl (fMod_pos (by omega)), ?_⟩
    refine if_to (Γ' := [some (.val (.scr ns)), some (.val (.int (cellAt ns 0))), some (.val (.int (n : Int))), some (.val (.int (ct : Int))), some (.own .loc (dPs ps)), some (.val (.int (m : Int))), none]) (p := cellAt ns 2 / 4 % 8 = 1) (bVe (v2e (v2e (v2e (cellE (k := 2) rfl) rfl (fDiv_pos (by omega) (by omega))) rfl (fMod_pos (by omega))) rfl rfl)) (fun c Q hq => ?_) (fun c Q hq => ?_) ?_
    · rw [if_pos c] at hm1
      refine ⟨.int (m : Int), v2e (v2e (cellE (k := 2) rfl) rfl (fDiv_pos (by omega) (by omega))) rfl (by rw [fMod_pos (by omega), hm1]), hq⟩
    · rw [if_neg c] at hm1
      rw [hm1] at hq
      exact hq
    refine ⟨.net .loc (n : Int) (dPs ps), v1e (xc rfl ⟨rfl, rfl⟩ rfl (F_netBy rfl hn)) rfl, ?_⟩
    refine if_f (dec_f (p := ¬ True) (by simp) (bNot_d (bVe (v1e (v1e (xc rfl ⟨rfl, rfl⟩ rfl (F_right09 hn hm2)) rfl) rfl)))) ?_
    have hn' := turnOne_ok (c := cellAt ns 3) hn
    refine ⟨_, _, _, _, rfl, ⟨rfl, rfl⟩, rfl, G_turnOne (c := cellAt ns 3) hn, ?_⟩
    exact ⟨.bl true, vFrzE (v1e (v1e (xc rfl ⟨rfl, rfl⟩ rfl (F_right09 hn' hm2)) rfl) rfl) rfl, rfl⟩
  · cases h
end Z

set_option maxRecDepth 100000
namespace Z
open PySem PySem.Spec PyProof.Rows L2
section
variable {X : Cx} {g : Glo} {W : WX} {st : Stmt}
/-! ### a.append(b.pop(k)) -/
theorem Reps.erase {K : PySem.W.Frag} {H : Hp} : ∀ {ds : List D} {vs : List V} {i : Nat}, Reps K H vs ds → Reps K H (vs.eraseIdx i) (ds.eraseIdx i)
  | [], _, _, h => by rw [reps_nil.mp h]; exact Reps.nil
  | d :: ds, _, 0, h => by
    obtain ⟨v, r, rfl, h1, h2⟩ := reps_cons.mp h
    exact h2
  | d :: ds, _, i + 1, h => by
    obtain ⟨v, r, rfl, h1, h2⟩ := reps_cons.mp h
    exact Reps.cons h1 (Reps.erase h2)
def appPopT (i j : Nat) (f : VF) : VT := fun Q Γ => ownT i (fun m ds => ownT j (fun m' es => ∃ (k : Nat) (d : D), f Γ = some (.int (k : Int)) ∧ es[k]? = some d ∧ k ≤ 1000000 ∧ ds.length ≤ 1000000 ∧
  Q (.nx ((Γ.set j (some (.own m' (es.eraseIdx k)))).set i (some (.own m (ds ++ [d])))))) Γ) Γ
theorem seq_nat {k n : Nat} (h : k < n) : seqIndex? (k : Int) n = some k := by
  unfold seqIndex?
  have h0 : ¬ ((k : Int) < 0) := by omega
  simp only [if_neg h0]
  have : (decide (0 ≤ (k : Int)) && decide ((k : Int) < (n : Int))) = true := by simp [h]
  rw [if_pos this, Int.toNat_natCast]
theorem s_appPop {i j : Nat} {f : VF} (hij : i ≠ j) (h : PS X st (tDrop (tBM g.K "list" rAppend (tVar i) (tCons (tBM g.K "list" rPopAt (tVar j) (tCons (eV g f) tNil)) tNil)))) : PS X st (sV g W (appPopT i j f)) := PS_mono h fun De σ H ⟨c, Q, Γ, Hb, ow, t, S, F, L⟩ => by
  obtain ⟨m, ds, e0, hm, t2⟩ := ownT_get t
  obtain ⟨m', es, e0', hm', k, d, e1, e2, hk, hl, q⟩ := ownT_get t2
  obtain ⟨v, z1, a, vs, rfl, o, h1, h2⟩ := S.slots i _ e0
  obtain ⟨v', z1', b, us, rfl, o', h1', h2'⟩ := S.slots j _ e0'
  refine ⟨_, z1, tyV_lst h1, _, z1', tyV_lst h1', Γ, Hb, ow, _, e1, S, fun u Hb1 H1 g1 r => ?_⟩
  have h1g := g1.h _ _ h1
  have h1g' := g1.h _ _ h1'
  obtain ⟨y, ey, ry⟩ := h2'.get e2
  have hkl : k < us.length := (List.getElem?_eq_some_iff.mp ey).1
  have big : (2 : Int) ^ 63 = 9223372036854775808 := by decide +kernel
  refine ⟨b, us, (k : Int), k, y, rfl, by rw [rep_int.mp r], h1g', by rw [big]; omega, by rw [big]; omega, seq_nat hkl, ey, ?_⟩
  have nab : a ≠ b := fun z => hij (by rw [z, o'] at o; exact (Option.some.inj o).symm)
  have S1 := (S.grow g1).change (o := .lst (us.eraseIdx k)) (s' := .own m' (es.eraseIdx k)) o' z1' ⟨b, _, rfl, o', upd_same, (h2'.same g1.hb).erase⟩
  have F1 := (F.grow g1).change (o := .lst (us.eraseIdx k)) (s' := .own m' (es.eraseIdx k)) o' e0' (md_cases hm') rfl
  have e3 : (Γ.set j (some (.own m' (es.eraseIdx k))))[i]? = some (some (.own m ds)) := by rw [List.getElem?_set_ne (Ne.symm hij)]; exact e0
  refine ⟨a, vs, y, rfl, rfl, by rw [upd_ne nab]; exact h1g, lt_line (by rw [h2.len]; exact hl), ?_⟩
  exact L.nx _ σ Hb1 _ ow q (S1.change o z1 ⟨a, _, rfl, o, upd_same, (h2.same g1.hb).append (Reps.one (ry.same g1.hb))⟩) (F1.change o e3 (md_cases hm) rfl)
end
end Z

set_option maxRecDepth 100000
namespace Z
open PySem PySem.Spec PyProof.Rows L2

/-! ### the most trees -/
noncomputable def leastGo (n : Nat) (ps : List P3) : List Nat → Nat → Nat
  | [], p => p
  | q :: l, p => leastGo n ps l (if widN n ps q < widN n ps p then q else p)
theorem leastGo_spec {n : Nat} {ps : List P3} : ∀ {l : List Nat} {p : Nat}, (leastGo n ps l p = p ∨ leastGo n ps l p ∈ l) ∧ widN n ps (leastGo n ps l p) ≤ widN n ps p ∧ ∀ q ∈ l, widN n ps (leastGo n ps l p) ≤ widN n ps q
  | [], p => ⟨.inl rfl, Nat.le_refl _, fun q h => (nomatch h)⟩
  | q :: l, p => by
    obtain ⟨h1, h2, h3⟩ := leastGo_spec (n := n) (ps := ps) (l := l) (p := if widN n ps q < widN n ps p then q else p)
    unfold leastGo
    refine ⟨?_, ?_, fun r hr => ?_⟩
    · rcases h1 with z | z
      · rw [z]
        split
        · exact .inr (by simp)
        · exact .inl rfl
      · exact .inr (List.mem_cons_of_mem _ z)
    · refine Nat.le_trans h2 ?_
      split <;> omega
    · rcases List.mem_cons.mp hr with rfl | hr
      · refine Nat.le_trans h2 ?_
        split <;> omega
      · exact h3 r hr
noncomputable def leastP (n : Nat) (ps : List P3) : Nat := leastGo n ps (List.range' 2 (n - 2)) 1
theorem leastP_ok {n : Nat} {ps : List P3} (h : 2 ≤ n) : leastP n ps ≠ 0 ∧ leastP n ps < n ∧ ∀ q, q ≠ 0 → q < n → widN n ps (leastP n ps) ≤ widN n ps q := by
  obtain ⟨h1, h2, h3⟩ := leastGo_spec (n := n) (ps := ps) (l := List.range' 2 (n - 2)) (p := 1)
  have hm : leastP n ps = 1 ∨ (2 ≤ leastP n ps ∧ leastP n ps < 2 + (n - 2)) := h1.imp id fun z => List.mem_range'_1.mp z
  refine ⟨by omega, by omega, fun q q0 qn => ?_⟩
  by_cases c : q = 1
  · subst c; exact h2
  · exact h3 q (List.mem_range'_1.mpr (by omega))
theorem least_wide {n : Nat} {ps : List P3} (hn : okNet n ps) (h : 2 ≤ n) : Wide (openOf ps) n (widN n ps (leastP n ps)) := wide_of hn fun p p0 pn => by
  have := (leastP_ok (ps := ps) h).2.2 p p0 pn
  rw [spN_min hn p0 pn]
  omega
noncomputable def mostD (n : Nat) (ps : List P3) : D := .tup [.int (widN n ps (leastP n ps) : Int), .lst (dRows (treesD n ps (widN n ps (leastP n ps)))), .lst (dNs (setOf n ps (leastP n ps) (widN n ps (leastP n ps))))]
noncomputable def F_most_apart : FN
  | [.net _ s ds] => (unNet s ds).bind fun x => if 2 ≤ s then some (.inl (.val (mostD x.1 x.2))) else none
  | _ => none
theorem F_mostE {md : Md} {s : Nat} {ps : List P3} (h : okNet s ps) (h2 : 2 ≤ s) : F_most_apart [.net md (s : Int) (dPs ps)] = some (.inl (.val (mostD s ps))) := by
  show (unNet _ _).bind _ = _
  rw [unNet_of h]
  exact ite_some (show (2 : Int) ≤ (s : Int) by omega)
/-- most_apart: 0 net 1 least 2 place 3 found -/
def t_most_apart : VT := (seqT (asgV 1 (v1 slD (v1 inlO (xCall 2 F_widest (rS 0 (rV (vC (.int 1)) rNil)))))) (seqT (forT (lRng2 (vC (.int 2)) (v1 slD (v1 inlO (xMeth 1 F_size 0 rNil)))) (gN 2) (seqT (asgV 3 (v1 slD (v1 inlO (xCall 2 F_widest (rS 0 (rV (vVar 2) rNil)))))) (seqT (ifT (bV (v2 fLt (v2 fIx (vVar 3) (vC (.int 0))) (v2 fIx (vVar 1) (vC (.int 0))))) (seqT (asgV 1 (vVar 3)) skipT) skipT) skipT))) (seqT (retV (vTup (aCons (v2 fIx (vVar 1) (vC (.int 0))) (aCons (v1 slD (v1 inlO (xCall 2 F_trees_of (rS 0 (rV (v2 fIx (vVar 1) (vC (.int 0))) rNil))))) (aCons (v2 fIx (vVar 1) (vC (.int 2))) aNil))))) skipT)))
theorem v_most_apart : ∀ ss r, ss.length = 1 → F_most_apart ss = some r → t_most_apart (postP r) (En0 ss 4) ∧ ∃ s, r = .inl s := by
  intro ss r hl h
  unfold F_most_apart at h
  split at h
  · rename_i md s ds
    obtain ⟨x, e1, h'⟩ := Option.bind_eq_some_iff.mp h
    clear h
    split at h'
    · rename_i hs
      have h'' := Option.some.inj h'
      clear h'
      subst h''
      obtain ⟨rfl, rfl, hn⟩ := unNet_some e1
      clear e1
      obtain ⟨n, ps⟩ := x
      simp only at hn hs ⊢
      have hn1 := hn.2.1
      refine ⟨?_, _, rfl⟩
      refine ⟨widD n ps 1, v1e (v1e (xc rfl ⟨rfl, rfl⟩ rfl (F_widest_yes (p := 1) hn (by omega) (by omega))) rfl) rfl, ?_⟩
      refine ⟨_, rng2e (i := 2) (j := n) rfl (v1e (v1e (xm rfl (xc rfl ⟨rfl, rfl⟩ rfl rfl)) rfl) rfl) (by omega) (by omega), ?_⟩
      refine loopT_inv (enc := dInt) (fun rest Γ => ∃ (p : Nat) (v2' v3 : Option Sl), (∀ q ∈ rest, q ∈ List.range' 2 (n - 2)) ∧ leastGo n ps rest p = leastP n ps ∧ Γ = [some (.net md (n : Int) (dPs ps)), some (.val (widD n ps p)), v2', v3]) ?_ ?_ _ _ ⟨1, none, none, fun _ h => h, rfl, rfl⟩
      · rintro q rest Γ kk ⟨p, v2', v3, hr, hq, rfl⟩ hk
        refine ⟨_, rfl, ?_⟩
        have hqm := hr q (by simp)
        rw [List.mem_range'_1] at hqm
        refine ⟨widD n ps q, v1e (v1e (xc rfl ⟨rfl, rfl⟩ rfl (F_widest_yes (p := q) hn (by omega) (by omega))) rfl) rfl, ?_⟩
        refine if_to (Γ' := [some (.net md (n : Int) (dPs ps)), some (.val (widD n ps (if widN n ps q < widN n ps p then q else p))), some (.val (dInt q)), some (.val (widD n ps q))]) (p := widN n ps q < widN n ps p) (bVe (v2e (x := dInt (widN n ps q)) (y := dInt (widN n ps p)) rfl rfl (by show some (D.bl (decide ((widN n ps q : Int) < (widN n ps p : Int)))) = _; simp))) (fun c Q hq => ?_) (fun c Q hq => ?_) ?_
        · rw [if_pos c] at hq
          exact ⟨_, rfl, hq⟩
        · rw [if_neg c] at hq
          exact hq
        · exact hk _ ⟨_, _, _, fun a ha => hr a (List.mem_cons_of_mem _ ha), hq, rfl⟩
      · rintro Γ ⟨p, v2', v3, _, hq, rfl⟩
        have hq : p = leastP n ps := hq
        subst hq
        obtain ⟨l0, l1, l2⟩ := leastP_ok (ps := ps) (show 2 ≤ n by omega)
        have h61 := widN_le (p := leastP n ps) hn
        have W := least_wide hn (show 2 ≤ n by omega)
        refine ⟨mostD n ps, ?_, rfl⟩
        unfold mostD
        generalize leastP n ps = p at *
        have hb : v1 slD (v1 inlO (xCall 2 F_trees_of (rS 0 (rV (v2 fIx (vVar 1) (vC (.int 0))) rNil)))) [some (Sl.net md (n : Int) (dPs ps)), some (.val (widD n ps p)), v2', v3] = some (.lst (dRows (treesD n ps (widN n ps p)))) :=
          v1e (v1e (xc rfl ⟨rfl, rfl⟩ rfl (F_treesOf hn (by omega) W)) rfl) rfl
        unfold vTup
        rw [show (aCons (v2 fIx (vVar 1) (vC (.int 0))) (aCons (v1 slD (v1 inlO (xCall 2 F_trees_of (rS 0 (rV (v2 fIx (vVar 1) (vC (.int 0))) rNil))))) (aCons (v2 fIx (vVar 1) (vC (.int 2))) aNil))) _ = some [.int (widN n ps p : Int), .lst (dRows (treesD n ps (widN n ps p))), .lst (dNs (setOf n ps p (widN n ps p)))] from by
          unfold aCons
          exact Option.bind_eq_some_iff.mpr ⟨_, rfl, Option.bind_eq_some_iff.mpr ⟨_, Option.bind_eq_some_iff.mpr ⟨_, hb, Option.bind_eq_some_iff.mpr ⟨_, Option.bind_eq_some_iff.mpr ⟨_, rfl, rfl⟩, rfl⟩⟩, rfl⟩⟩]
        rfl
    · cases h'
  · cases h
/-! ### orders drawn -/
def nxt (c : Int) : Int := (c * 48271 + 29) % 2147483647
def ordGo : Nat → Int → List Nat → List Nat → List Nat
  | 0, _, _, order => order
  | f + 1, c, rest, order => ordGo f (nxt c) (rest.eraseIdx (nxt c / 3 % rest.length).toNat) (order ++ [(rest[(nxt c / 3 % rest.length).toNat]?).getD 0])
def orderOf (c : Int) (n : Nat) : List Nat := ordGo (n - 1) c (List.range' 1 (n - 1)) [0]
theorem ord_ix {c : Int} {rest : List Nat} (h : rest ≠ []) : (c / 3 % (rest.length : Int)).toNat < rest.length ∧ 0 ≤ c / 3 % (rest.length : Int) := by
  have hl : 0 < rest.length := List.length_pos_iff.mpr h
  have a1 : 0 ≤ c / 3 % (rest.length : Int) := Int.emod_nonneg _ (by omega)
  have a2 : c / 3 % (rest.length : Int) < rest.length := Int.emod_lt_of_pos _ (by omega)
  omega
theorem erase_perm : ∀ {l : List Nat} {k x : Nat}, l[k]? = some x → (x :: l.eraseIdx k).Perm l
  | [], k, x, h => by simp at h
  | y :: l, 0, x, h => by
    cases h
    exact List.Perm.refl _
  | y :: l, k + 1, x, h => by
    have := erase_perm (l := l) (k := k) (x := x) (by simpa using h)
    exact (List.Perm.swap y x _).trans (this.cons y)
theorem ordGo_perm : ∀ {f : Nat} {c : Int} {rest order : List Nat}, rest.length = f → (ordGo f c rest order).Perm (order ++ rest) ∧ ∃ more, ordGo f c rest order = order ++ more
  | 0, c, rest, order, h => by
    have : rest = [] := List.length_eq_zero_iff.mp h
    subst this
    exact ⟨by simp [ordGo], [], by simp [ordGo]⟩
  | f + 1, c, rest, order, h => by
    have hne : rest ≠ [] := fun z => by rw [z] at h; cases h
    obtain ⟨hk, _⟩ := ord_ix (c := nxt c) hne
    have hx : rest[(nxt c / 3 % rest.length).toNat]? = some ((rest[(nxt c / 3 % rest.length).toNat]?).getD 0) := by
      rw [List.getElem?_eq_getElem hk]
      rfl
    unfold ordGo
    generalize (rest[(nxt c / 3 % rest.length).toNat]?).getD 0 = x at *
    generalize (nxt c / 3 % (rest.length : Int)).toNat = k at *
    obtain ⟨p, more, e⟩ := ordGo_perm (f := f) (c := nxt c) (rest := rest.eraseIdx k) (order := order ++ [x]) (by rw [List.length_eraseIdx_of_lt hk]; omega)
    refine ⟨p.trans ?_, [x] ++ more, by rw [e]; simp⟩
    rw [List.append_assoc]
    exact (List.Perm.refl order).append (erase_perm hx)
structure OrdOk (n : Nat) (l : List Nat) : Prop where
  len : l.length = n
  nd : l.Nodup
  lt : ∀ v ∈ l, v < n
  hd : l[0]? = some 0
theorem order_ok {c : Int} {n : Nat} (h : 1 ≤ n) : OrdOk n (orderOf c n) := by
  obtain ⟨p, more, e⟩ := ordGo_perm (f := n - 1) (c := c) (rest := List.range' 1 (n - 1)) (order := [0]) (by simp)
  have p2 : (orderOf c n).Perm (List.range n) := by
    refine p.trans ?_
    rw [List.range_eq_range', show n = n - 1 + 1 by omega, List.range'_succ]
    exact List.Perm.refl _
  refine ⟨by rw [p2.length_eq, List.length_range], p2.nodup_iff.mpr List.nodup_range, fun v hv => List.mem_range.mp (p2.mem_iff.mp hv), ?_⟩
  unfold orderOf
  rw [e]
  rfl
def F_law_order : FN
  | [.val (.int c), .val (.int s)] => if 1 ≤ s ∧ s ≤ 1000 then some (.inl (.own .loc (dNs (orderOf c s.toNat)))) else none
  | _ => none
theorem F_orderE {c : Int} {n : Nat} (h : 1 ≤ n) (h2 : n ≤ 1000) : F_law_order [.val (.int c), .val (.int (n : Int))] = some (.inl (.own .loc (dNs (orderOf c n)))) := ite_some (show 1 ≤ (n : Int) ∧ (n : Int) ≤ 1000 by omega)
/-- _law_order: 0 cell 1 size 2 rest 3 order 4 place -/
def t_law_order : VT := (seqT (asgO 2 (vLc [4] (lRng2 (vC (.int 1)) (vVar 1)) (gN 4) bT (vVar 4))) (seqT (asgO 3 (oLst (aCons (vC (.int 0)) aNil))) (seqT (whileT (bV (v2 fGt (v1 fLenL (lVar 2)) (vC (.int 0)))) (seqT (asgV 0 (v2 fMod (v2 fAdd (v2 fMul (vVar 0) (vC (.int 48271))) (vC (.int 29))) (vC (.int 2147483647)))) (seqT (appPopT 3 2 (v2 fMod (v2 fDiv (vVar 0) (vC (.int 3))) (v1 fLenL (lVar 2)))) skipT))) (seqT (retS 3) skipT))))
theorem dNs_erase (l : List Nat) (k : Nat) : (dNs l).eraseIdx k = dNs (l.eraseIdx k) := by
  unfold dNs
  induction l generalizing k with
  | nil => rfl
  | cons x l ih =>
    cases k with
    | zero => rfl
    | succ k => show _ :: _ = _ :: _; rw [ih]
theorem v_law_order : ∀ ss r, ss.length = 2 → F_law_order ss = some r → t_law_order (postP r) (En0 ss 5) ∧ ∃ s, r = .inl s := by
  intro ss r hl h
  unfold F_law_order at h
  split at h
  · rename_i c s
    split at h
    · rename_i hs
      have h'' := Option.some.inj h
      clear h
      subst h''
      obtain ⟨n, rfl⟩ := Int.eq_ofNat_of_zero_le (show 0 ≤ s by omega)
      rw [Int.toNat_natCast]
      refine ⟨?_, _, rfl⟩
      refine ⟨.own .loc (dNs (List.range' 1 (n - 1))), vlc_map (enc := dInt) (h := dInt) (rng2e (i := 1) (j := n) rfl rfl (by omega) (by omega)) (by simp; omega) (fun k hk => lcS1 rfl rfl rfl), ?_⟩
      refine ⟨_, rfl, ?_⟩
      refine ⟨fun m Γ => ∃ (cc : Int) (rest order : List Nat) (v4 : Option Sl), rest.length = m ∧ ordGo m cc rest order = orderOf c n ∧ order.length + rest.length ≤ 1000 ∧
        Γ = [some (.val (.int cc)), some (.val (.int (n : Int))), some (.own .loc (dNs rest)), some (.own .loc (dNs order)), v4], ⟨n - 1, c, List.range' 1 (n - 1), [0], none, by simp, rfl, by simp; omega, rfl⟩, ?_⟩
      rintro m Γ ⟨cc, rest, order, v4, q1, q2, q3, rfl⟩
      refine ⟨decide (0 < rest.length), bVe (v2e (x := dInt rest.length) (lenNs rfl) rfl (by show some (D.bl (decide ((0 : Int) < (rest.length : Int)))) = _; simp)), fun hb => ?_, fun hb => ?_⟩
      · have hpos := of_decide_eq_true hb
        cases m with
        | zero => omega
        | succ m =>
          have hne : rest ≠ [] := List.length_pos_iff.mp hpos
          obtain ⟨hk, hk0⟩ := ord_ix (c := nxt cc) hne
          have hx : rest[(nxt cc / 3 % rest.length).toNat]? = some ((rest[(nxt cc / 3 % rest.length).toNat]?).getD 0) := by
            rw [List.getElem?_eq_getElem hk]
            rfl
          refine ⟨.int (nxt cc), v2e (v2e (v2e rfl rfl (by show (if (small cc || small 48271) = true then some (D.int (cc * 48271)) else none) = _; rw [show small 48271 = true by decide +kernel, Bool.or_true]; rfl)) rfl rfl) rfl (fMod_pos (by omega)), ?_⟩
          have q2' : ordGo m (nxt cc) (rest.eraseIdx (nxt cc / 3 % rest.length).toNat) (order ++ [(rest[(nxt cc / 3 % rest.length).toNat]?).getD 0]) = orderOf c n := q2
          have hkk : ((((nxt cc / 3 % (rest.length : Int)).toNat : Nat) : Int)) = nxt cc / 3 % (rest.length : Int) := Int.toNat_of_nonneg hk0
          generalize (rest[(nxt cc / 3 % rest.length).toNat]?).getD 0 = x at *
          have hmod : v2 fMod (v2 fDiv (vVar 0) (vC (.int 3))) (v1 fLenL (lVar 2)) [some (.val (.int (nxt cc))), some (.val (.int (n : Int))), some (.own .loc (dNs rest)), some (.own .loc (dNs order)), v4] = some (.int (((nxt cc / 3 % (rest.length : Int)).toNat : Nat) : Int)) :=
            v2e (v2e rfl rfl (fDiv_pos (by omega) (by omega))) (lenNs (ns := rest) rfl) (by rw [hkk]; exact fMod_pos (by omega))
          generalize (nxt cc / 3 % (rest.length : Int)).toNat = k at *
          refine ⟨(by intro z; cases z), (by intro z; cases z), k, dInt x, hmod, by unfold dNs; rw [List.getElem?_map, hx]; rfl, by omega, by rw [dNs_len]; omega, ?_⟩
          have el := List.length_eraseIdx_of_lt hk
          refine ⟨m, by omega, nxt cc, rest.eraseIdx k, order ++ [x], v4, by omega, q2', by rw [List.length_append]; simp; omega, ?_⟩
          rw [dNs_erase, dNs_snoc]
          rfl
      · have h0 : rest.length = 0 := by have := of_decide_eq_false hb; omega
        have hm0 : m = 0 := by omega
        subst hm0
        have q2 : order = orderOf c n := q2
        subst q2
        exact ⟨_, rfl, rfl, rfl⟩
    · cases h
  · cases h
end Z

set_option maxRecDepth 100000
namespace Z
open PySem PySem.Spec PyProof.Rows L2

/-! ### trees laid by hand -/
def oAt (o : List Nat) (j : Nat) : Nat := (o[j]?).getD 0
theorem oAt_some {o : List Nat} {j : Nat} (h : j < o.length) : o[j]? = some (oAt o j) := by unfold oAt; simp [h]
theorem atI_o {o : List Nat} {j : Nat} (h : j < o.length) : atI (dNs o) (j : Int) = some (dInt (oAt o j)) := by
  refine atI_nat ?_
  unfold dNs
  rw [List.getElem?_map, oAt_some h]
  rfl
theorem OrdOk.inj {n i j : Nat} {o : List Nat} (h : OrdOk n o) (hi : i < n) (hj : j < n) (e : oAt o i = oAt o j) : i = j := by
  have h1 := oAt_some (o := o) (j := i) (by rw [h.len]; exact hi)
  have h2 := oAt_some (o := o) (j := j) (by rw [h.len]; exact hj)
  exact (List.getElem?_inj (by rw [h.len]; exact hi) h.nd).mp (by rw [h1, h2, e])
theorem OrdOk.at_lt {n j : Nat} {o : List Nat} (h : OrdOk n o) (hj : j < n) : oAt o j < n := h.lt _ (List.mem_of_getElem? (oAt_some (by rw [h.len]; exact hj)))
/-- the pipe to the k-th place of an order -/
def treeP (ns : List Int) (b : Nat) (o : List Nat) (k : Nat) : P3 := (oAt o (cellAt ns (b + k) % (k : Int)).toNat, oAt o k, true)
theorem treeP_ix {c : Int} {k : Nat} (h : 1 ≤ k) : (c % (k : Int)).toNat < k ∧ 0 ≤ c % (k : Int) := by
  have a1 : 0 ≤ c % (k : Int) := Int.emod_nonneg _ (by omega)
  have a2 : c % (k : Int) < k := Int.emod_lt_of_pos _ (by omega)
  omega
theorem treeP_ok {ns : List Int} {b n k : Nat} {o : List Nat} (h : OrdOk n o) (h1 : 1 ≤ k) (h2 : k < n) : okP n (treeP ns b o k) := by
  obtain ⟨a1, _⟩ := treeP_ix (c := cellAt ns (b + k)) h1
  refine ⟨h.at_lt (by omega), h.at_lt h2, fun e => ?_⟩
  have := h.inj (by omega) h2 e
  omega
def treePs (ns : List Int) (b : Nat) (o : List Nat) (n : Nat) : List P3 := (List.range' 1 (n - 1)).map (treeP ns b o)
def laidT (ns : List Int) (b n turn : Nat) : List P3 := treePs ns (b + 11 * turn) (orderOf (cellAt ns (2 + turn)) n) n
def laids (ns : List Int) (b n t : Nat) : List P3 := (List.range t).flatMap (laidT ns b n)
theorem treePs_ok {ns : List Int} {b n : Nat} {o : List Nat} (h : OrdOk n o) : ∀ p ∈ treePs ns b o n, okP n p := fun p hp => by
  obtain ⟨k, hk, rfl⟩ := List.mem_map.mp hp
  rw [List.mem_range'_1] at hk
  exact treeP_ok h (by omega) (by omega)
theorem laids_ok {ns : List Int} {b n t : Nat} (h : 1 ≤ n) : ∀ p ∈ laids ns b n t, okP n p := fun p hp => by
  obtain ⟨k, _, hk⟩ := List.mem_flatMap.mp hp
  exact treePs_ok (order_ok h) p hk
theorem treePs_len {ns : List Int} {b n : Nat} {o : List Nat} : (treePs ns b o n).length = n - 1 := by simp [treePs]
theorem laids_succ (ns : List Int) (b n t : Nat) : laids ns b n (t + 1) = laids ns b n t ++ laidT ns b n t := by
  unfold laids
  rw [List.range_succ, List.flatMap_append]
  simp
theorem laids_len {ns : List Int} {b n : Nat} : ∀ {t : Nat}, (laids ns b n t).length = t * (n - 1)
  | 0 => by simp [laids]
  | t + 1 => by
    rw [laids_succ, List.length_append, laids_len, Nat.succ_mul]
    show _ + (treePs _ _ _ _).length = _
    rw [treePs_len]
theorem dPs_snoc (l : List P3) (p : P3) : dPs (l ++ [p]) = dPs l ++ [dP p] := by
  unfold dPs
  rw [List.map_append]
  rfl
theorem dPs_len (l : List P3) : (dPs l).length = l.length := List.length_map ..
/-- the inner walk of a tree laid by hand -/
theorem tree_e {Γ : En} {fo fk fc : VF} {ns : List Int} {b n k : Nat} {o : List Nat} (h : OrdOk n o) (h1 : 1 ≤ k) (h2 : k < n) (eo : fo Γ = some (.lst (dNs o))) (ek : fk Γ = some (dInt k)) (ec : fc Γ = some (.int (cellAt ns (b + k)))) :
    vTup (aCons (v2 fIx fo (v2 fMod fc fk)) (aCons (v2 fIx fo fk) (aCons (vC (.bl true)) aNil))) Γ = some (dP (treeP ns b o k)) := by
  obtain ⟨a1, a2⟩ := treeP_ix (c := cellAt ns (b + k)) h1
  have e1 : v2 fIx fo (v2 fMod fc fk) Γ = some (dInt (oAt o (cellAt ns (b + k) % (k : Int)).toNat)) := v2e (y := dInt (cellAt ns (b + k) % (k : Int)).toNat) eo (v2e ec ek (by show fMod (.int _) (.int _) = some (.int (((cellAt ns (b + k) % (k : Int)).toNat : Nat) : Int)); rw [Int.toNat_of_nonneg a2]; exact fMod_pos (by omega))) (atI_o (by rw [h.len]; omega))
  have e2 : v2 fIx fo fk Γ = some (dInt (oAt o k)) := v2e eo ek (atI_o (by rw [h.len]; exact h2))
  unfold vTup aCons aNil
  rw [e1, e2]
  rfl
theorem minOf_eq {r : Int} {l : List Int} (hm : r ∈ l) (hl : ∀ x ∈ l, r ≤ x) : minOf l = r := by
  cases l with
  | nil => cases hm
  | cons x l =>
    obtain ⟨h1, h2, h3⟩ := min_fold l x
    have a : minOf (x :: l) ≤ r := by
      rcases List.mem_cons.mp hm with z | z
      · rw [z]; exact h2
      · exact h1 r z
    have b : r ≤ minOf (x :: l) := by
      rcases h3 with z | z
      · have := hl x (by simp)
        show r ≤ l.foldl _ x
        rw [z]
        exact this
      · exact hl _ (List.mem_cons_of_mem _ z)
    omega
/-- all the pipes of the trees, and more drawn ones -/
theorem laidNet {ns : List Int} {b n t first many : Nat} (h1 : 2 ≤ n) (h2 : n ≤ 12) (h3 : t * (n - 1) + many ≤ 60) : okNet n (laids ns b n t ++ pipesBy ns first many n) := by
  refine ⟨by omega, h2, okPs_iff.mpr fun p hp => ?_, ?_⟩
  · rcases List.mem_append.mp hp with q | q
    · exact laids_ok (by omega) p q
    · exact pipesBy_ok p q
  · rw [List.length_append, laids_len]
    have := pipesBy_len (ns := ns) (first := first) (many := many) (size := n)
    omega
/-! ### the eleventh law -/
def F_law_k11 : FN
  | [.val (.scr _)] => some (.inl (.val (.bl true)))
  | _ => none
theorem F_law_k11_t (ns : List Int) (_ : ns.length ≤ 63) : F_law_k11 [.val (.scr ns)] = some (.inl (.val (.bl true))) := rfl
/-- law: 0 script 1 size 2 pipes 3 turn 4 order 5 k 6 net 7 found 8 least 9 place -/
def t_law_k11 : VT := (seqT (asgV 1 (v2 fAdd (vC (.int 2)) (v2 fMod (v1 slD (v1 inlO (xCall 2 F_law_cell_at (rV (vVar 0) (rV (vC (.int 0)) rNil))))) (vC (.int 4))))) (seqT (ifT (bV (v2 fEq (v2 fMod (v2 fDiv (v1 slD (v1 inlO (xCall 2 F_law_cell_at (rV (vVar 0) (rV (vC (.int 0)) rNil))))) (vC (.int 4))) (vC (.int 64))) (vC (.int 1)))) (seqT (asgV 1 (vC (.int 12))) skipT) skipT) (seqT (asgO 2 (oLst aNil)) (seqT (forT (lRng1 (v2 fMod (v2 fMod (v2 fDiv (v1 slD (v1 inlO (xCall 2 F_law_cell_at (rV (vVar 0) (rV (vC (.int 1)) rNil))))) (vC (.int 15))) (vC (.int 4))) (vC (.int 3)))) (gN 3) (seqT (asgV 4 (v1 slD (v1 inlO (xCall 2 F_law_order (rV (v1 slD (v1 inlO (xCall 2 F_law_cell_at (rV (vVar 0) (rV (v2 fAdd (vC (.int 2)) (vVar 3)) rNil))))) (rV (vVar 1) rNil)))))) (seqT (forT (lRng2 (vC (.int 1)) (vVar 1)) (gN 5) (seqT (appT 2 (vTup (aCons (v2 fIx (vVar 4) (v2 fMod (v1 slD (v1 inlO (xCall 2 F_law_cell_at (rV (vVar 0) (rV (v2 fAdd (v2 fAdd (vC (.int 4)) (v2 fMul (vC (.int 11)) (vVar 3))) (vVar 5)) rNil))))) (vVar 5))) (aCons (v2 fIx (vVar 4) (vVar 5)) (aCons (vC (.bl true)) aNil))))) skipT)) skipT))) (seqT (asgO 2 (v2 fCat (lVar 2) (v1 slL (v1 inlO (xCall 4 F_law_pipes_by (rV (vVar 0) (rV (vC (.int 27)) (rV (v2 fMod (v1 slD (v1 inlO (xCall 2 F_law_cell_at (rV (vVar 0) (rV (vC (.int 1)) rNil))))) (vC (.int 15))) (rV (vVar 1) rNil))))))))) (seqT (asgO 6 (v1 inlO (xCall 2 F_law_net_by (rV (vVar 1) (rS 2 rNil))))) (seqT (asgV 7 (v1 slD (v1 inlO (xCall 1 F_most_apart (rS 6 rNil))))) (seqT (ifT (bOr (bNot (bV (v1 (fIsi "tuple") (vVar 7)))) (bOr (bV (v2 fNe (v1 fLen (vVar 7)) (vC (.int 3)))) (bOr (bNot (bV (v1 slD (v1 inlO (xCall 1 F_law_whole (rV (v2 fIx (vVar 7) (vC (.int 0))) rNil)))))) (bV (v2 fLt (v2 fIx (vVar 7) (vC (.int 0))) (vC (.int 0))))))) (seqT (retV (vC (.bl false))) skipT) skipT) (seqT (ifT (bFrz (bNot (bV (v1 slD (v1 inlO (xCall 4 F_law_trees_apart (rV (v2 fIx (vVar 7) (vC (.int 1))) (rV (vVar 1) (rV (vVar 2) (rV (v2 fIx (vVar 7) (vC (.int 0))) rNil)))))))))) (seqT (retV (vC (.bl false))) skipT) skipT) (seqT (ifT (bFrz (bOr (bNot (bV (v1 slD (v1 inlO (xCall 4 F_law_narrow (rV (v2 fIx (vVar 7) (vC (.int 2))) (rV (vVar 1) (rV (vVar 2) (rV (v2 fAdd (v2 fIx (vVar 7) (vC (.int 0))) (vC (.int 1))) rNil))))))))) (bV (v2 fNe (v1 fLenL (v1 slL (v1 inlO (xCall 2 F_law_into (rV (vVar 2) (rV (v2 fIx (vVar 7) (vC (.int 2))) rNil)))))) (v2 fIx (vVar 7) (vC (.int 0))))))) (seqT (retV (vC (.bl false))) skipT) skipT) (seqT (ifT (bAnd (bV (v2 fLt (v2 fIx (vVar 7) (vC (.int 0))) (vC (.int 5)))) (bV (v2 fNe (v2 fIx (v1 slD (v1 inlO (xCall 2 F_apart (rS 6 (rV (v2 fAdd (v2 fIx (vVar 7) (vC (.int 0))) (vC (.int 1))) rNil))))) (vC (.int 0))) (vC (.str "narrow"))))) (seqT (retV (vC (.bl false))) skipT) skipT) (seqT (asgV 8 (v1 fMinL (v1 slL (vLc [9] (v1 dL (v2 fIx (vVar 7) (vC (.int 2)))) (gN 9) bT (v2 fIx (v1 slD (v1 inlO (xCall 2 F_widest (rS 6 (rV (vVar 9) rNil))))) (vC (.int 0))))))) (seqT (retV (vAnd (v1 slD (v1 inlO (xCall 1 F_law_whole (rV (vVar 8) rNil)))) (v2 fEq (vVar 8) (v2 fIx (vVar 7) (vC (.int 0)))))) skipT)))))))))))))
theorem v_law_k11 : ∀ ss r, ss.length = 1 → F_law_k11 ss = some r → t_law_k11 (postP r) (En0 ss 10) ∧ ∃ s, r = .inl s := by
  intro ss r hl h
  unfold F_law_k11 at h
  split at h
  · rename_i ns
    have h1 := Option.some.inj h
    clear h
    subst h1
    refine ⟨?_, _, rfl⟩
    have z1 : 0 ≤ cellAt ns 0 % 4 := Int.emod_nonneg _ (by omega)
    have z2 : cellAt ns 0 % 4 < 4 := Int.emod_lt_of_pos _ (by omega)
    refine ⟨.int (2 + cellAt ns 0 % 4), v2e rfl (v2e (cellE (k := 0) rfl) rfl (fMod_pos (by omega))) rfl, ?_⟩
    obtain ⟨n, hn0, n2, n12⟩ : ∃ n : Nat, (n : Int) = (if cellAt ns 0 / 4 % 64 = 1 then 12 else 2 + cellAt ns 0 % 4) ∧ 2 ≤ n ∧ n ≤ 12 := by
      refine ⟨(if cellAt ns 0 / 4 % 64 = 1 then 12 else 2 + cellAt ns 0 % 4).toNat, ?_, ?_, ?_⟩ <;> split <;> omega
    refine if_to (Γ' := [some (.val (.scr ns)), some (.val (.int (n : Int))), none, none, none, none, none, none, none, none]) (p := cellAt ns 0 / 4 % 64 = 1) (bVe (v2e (v2e (v2e (cellE (k := 0) rfl) rfl (fDiv_pos (by omega) (by omega))) rfl (fMod_pos (by omega))) rfl rfl)) (fun c Q hq => ?_) (fun c Q hq => ?_) ?_
    · rw [if_pos c] at hn0
      rw [hn0] at hq
      exact ⟨_, rfl, hq⟩
    · rw [if_neg c] at hn0
      rw [hn0] at hq
      exact hq
    refine ⟨_, rfl, ?_⟩
    have t1 : 0 ≤ cellAt ns 1 / 15 % 4 % 3 := Int.emod_nonneg _ (by omega)
    have t2 : cellAt ns 1 / 15 % 4 % 3 < 3 := Int.emod_lt_of_pos _ (by omega)
    obtain ⟨t, ht⟩ := Int.eq_ofNat_of_zero_le t1
    have t3 : t ≤ 2 := by omega
    refine ⟨_, rng1e (i := ((t : Nat) : Int)) (v2e (v2e (v2e (cellE (k := 1) rfl) rfl (fDiv_pos (by omega) (by omega))) rfl (fMod_pos (by omega))) rfl (by rw [fMod_pos (by omega), ht])) (by omega), ?_⟩
    rw [Int.toNat_natCast, List.range_eq_range']
    refine loopT_inv (enc := dInt) (fun rest Γ => ∃ (v3 v4 v5 : Option Sl), rest.length ≤ t ∧ rest = List.range' (t - rest.length) rest.length ∧
      Γ = [some (.val (.scr ns)), some (.val (.int (n : Int))), some (.own .loc (dPs (laids ns 4 n (t - rest.length)))), v3, v4, v5, none, none, none, none]) ?_ ?_ _ _ ⟨none, none, none, by simp, by simp, by simp [laids]; rfl⟩
    · rintro u rest Γ kk ⟨v3, v4, v5, hl, hr, rfl⟩ hk
      refine ⟨_, rfl, ?_⟩
      simp only [List.length_cons] at hl hr ⊢
      rw [List.range'_succ] at hr
      injection hr with hr1 hr2
      have hu : t - (rest.length + 1) = u := by omega
      have hu2 : t - rest.length = u + 1 := by omega
      rw [hu]
      have O := order_ok (c := cellAt ns (2 + u)) (n := n) (by omega)
      refine ⟨.lst (dNs (orderOf (cellAt ns (2 + u)) n)), v1e (v1e (xc (rVe (v1e (v1e (xc (rVe rfl (rVe (v2e (z := .int ((2 + u : Nat) : Int)) (y := dInt u) rfl rfl rfl) rfl)) ⟨rfl, rfl⟩ rfl (F_cell (k := 2 + u))) rfl) rfl) (rVe rfl rfl)) ⟨rfl, rfl⟩ rfl (F_orderE (by omega) (by omega))) rfl) rfl, ?_⟩
      generalize hO : orderOf (cellAt ns (2 + u)) n = o at O
      refine ⟨_, rng2e (i := 1) (j := n) rfl rfl (by omega) (by omega), ?_⟩
      have hll := laids_len (ns := ns) (b := 4) (n := n) (t := u)
      have hmul : u * (n - 1) ≤ 2 * 11 := Nat.mul_le_mul (by omega) (by omega)
      refine loopT_inv (enc := dInt) (fun rs Γ => ∃ (v5 : Option Sl) (done : List Nat), done ++ rs = List.range' 1 (n - 1) ∧
        Γ = [some (.val (.scr ns)), some (.val (.int (n : Int))), some (.own .loc (dPs (laids ns 4 n u ++ done.map (treeP ns (4 + 11 * u) o)))), some (.val (dInt u)), some (.val (.lst (dNs o))), v5, none, none, none, none]) ?_ ?_ _ _ ⟨v5, [], rfl, by simp only [List.map_nil, List.append_nil]; rfl⟩
      · rintro k rs Γ kk' ⟨v5, done, hd, rfl⟩ hk'
        refine ⟨_, rfl, ?_⟩
        have hkm : k ∈ List.range' 1 (n - 1) := by rw [← hd]; simp
        rw [List.mem_range'_1] at hkm
        have hdl : done.length ≤ 11 := by
          have := congrArg List.length hd
          simp at this
          omega
        refine ⟨(by intro z; cases z), dP (treeP ns (4 + 11 * u) o k), tree_e (k := k) O (by omega) (by omega) rfl rfl (v1e (v1e (xc (rVe rfl (rVe (v2e (z := .int ((4 + 11 * u + k : Nat) : Int)) (y := dInt k) (v2e (z := .int ((4 + 11 * u : Nat) : Int)) rfl (v2e (y := dInt u) (z := .int ((11 * u : Nat) : Int)) rfl rfl (by
          show (if (small 11 || small (u : Int)) = true then some (D.int (11 * (u : Int))) else none) = _
          rw [show small 11 = true by decide +kernel, Bool.true_or]
          show some (D.int (11 * (u : Int))) = some (D.int ((11 * u : Nat) : Int))
          refine congrArg (fun i => some (D.int i)) ?_
          omega)) (by
          show some (D.int ((4 : Int) + ((11 * u : Nat) : Int))) = some (D.int ((4 + 11 * u : Nat) : Int))
          refine congrArg (fun i => some (D.int i)) ?_
          omega)) rfl rfl) rfl)) ⟨rfl, rfl⟩ rfl (F_cell (k := 4 + 11 * u + k))) rfl) rfl), by rw [dPs_len, List.length_append, List.length_map]; omega, ?_⟩
        refine hk' _ ⟨some (.val (dInt k)), done ++ [k], by rw [← hd]; simp, ?_⟩
        rw [List.map_append, ← List.append_assoc, List.map_cons, List.map_nil, dPs_snoc]
        rfl
      · rintro Γ ⟨v5, done, hd, rfl⟩
        rw [List.append_nil] at hd
        subst hd
        refine hk _ ⟨some (.val (dInt u)), some (.val (.lst (dNs o))), v5, by omega, by rw [show t - rest.length = t - (rest.length + 1) + 1 by omega]; exact hr2, ?_⟩
        rw [hu2, laids_succ]
        unfold laidT treePs
        rw [hO]
    · rintro Γ ⟨v3, v4, v5, _, _, rfl⟩
      have c15 : 0 ≤ cellAt ns 1 % 15 := Int.emod_nonneg _ (by omega)
      have c15' : cellAt ns 1 % 15 < 15 := Int.emod_lt_of_pos _ (by omega)
      obtain ⟨m, hm⟩ := Int.eq_ofNat_of_zero_le c15
      have hll := laids_len (ns := ns) (b := 4) (n := n) (t := t)
      have hmul : t * (n - 1) ≤ 2 * 11 := Nat.mul_le_mul (by omega) (by omega)
      have hn := laidNet (ns := ns) (b := 4) (n := n) (t := t) (first := 27) (many := m) n2 n12 (by omega)
      have hpl := pipesBy_len (ns := ns) (first := 27) (many := m) (size := n)
      refine ⟨.own .loc (dPs (laids ns 4 n t ++ pipesBy ns 27 m n)), v2e (x := dPs (laids ns 4 n t)) (y := dPs (pipesBy ns 27 m n)) rfl (v1e (v1e (xc (rVe rfl (rVe rfl (rVe (v2e (z := .int (m : Int)) (cellE (k := 1) rfl) rfl (by rw [fMod_pos (by omega), hm])) (rVe rfl rfl)))) ⟨rfl, rfl⟩ rfl (F_pipesBy (f := 27) (m := m) (s := n) (by omega) (by omega))) rfl) rfl) ?_, ?_⟩
      · unfold fCat
        rw [if_pos (decide_eq_true (by rw [dPs_len, dPs_len]; omega))]
        unfold dPs
        rw [List.map_append]
      generalize laids ns 4 n t ++ pipesBy ns 27 m n = ps at hn
      have hn2 := hn.2.2.2
      refine ⟨.net .loc (n : Int) (dPs ps), v1e (xc rfl ⟨rfl, rfl⟩ rfl (F_netBy rfl hn)) rfl, ?_⟩
      refine ⟨mostD n ps, v1e (v1e (xc rfl ⟨rfl, rfl⟩ rfl (F_mostE hn n2)) rfl) rfl, ?_⟩
      obtain ⟨p0, pn, pl⟩ := leastP_ok (ps := ps) n2
      have W := least_wide hn n2
      have T := trees_ok hn W
      obtain ⟨s1, s2⟩ := wid_set hn p0 pn
      have h61 := widN_le (p := leastP n ps) hn
      have s3 := good_len (set_good (n := n) (p := leastP n ps) (r := widN n ps (leastP n ps)) (ps := ps))
      refine if_f (dec_f (p := (¬ True) ∨ (False ∨ ((¬ True) ∨ ((widN n ps (leastP n ps) : Int) < 0)))) (by simp) (bOr_d (bNot_d (bVe (v1e rfl isi_tup))) fun _ => bOr_d (bVe (v2e (x := .int 3) rfl rfl rfl)) fun _ => bOr_d (bNot_d (bVe (v1e (v1e (xc rfl ⟨rfl, rfl⟩ rfl rfl) rfl) rfl))) fun _ => bVe (v2e (x := .int (widN n ps (leastP n ps) : Int)) rfl rfl rfl))) ?_
      refine if_f (dec_f (p := ¬ True) (by simp) (bNot_d (bVe (v1e (v1e (xc rfl ⟨rfl, rfl⟩ rfl (F_treesApart hn T)) rfl) rfl)))) ?_
      refine if_f (dec_f (p := (¬ True) ∨ ((widN n ps (leastP n ps) : Int) ≠ (widN n ps (leastP n ps) : Int))) (by simp) (bOr_d (bNot_d (bVe (v1e (v1e (xc (rVe rfl (rVe rfl (rVe rfl (rVe (v2e (x := .int (widN n ps (leastP n ps) : Int)) (z := .int ((widN n ps (leastP n ps) : Int) + 1)) rfl rfl rfl) rfl)))) ⟨rfl, rfl⟩ rfl (F_lawNarrow set_good (by intro z; rw [z] at s1; cases s1) (by omega) (by omega))) rfl) (by rw [s2, decide_eq_true (by omega)]; rfl)))) fun _ => bVe (v2e (x := .int (widN n ps (leastP n ps) : Int)) (y := .int (widN n ps (leastP n ps) : Int)) (v1e (x := dNs (lawInto ps (setOf n ps (leastP n ps) (widN n ps (leastP n ps))))) (v1e (v1e (xc rfl ⟨rfl, rfl⟩ rfl (F_into (ps := ps) (ns := setOf n ps (leastP n ps) (widN n ps (leastP n ps))) (by omega))) rfl) rfl) (by show some (D.int ((dNs (lawInto ps (setOf n ps (leastP n ps) (widN n ps (leastP n ps))))).length : Int)) = _; rw [dNs_len, s2])) rfl fNe_int))) ?_
      have hap : ∃ p, spN n ps p (widN n ps (leastP n ps) + 1) < widN n ps (leastP n ps) + 1 ∧ apartD n ps (widN n ps (leastP n ps) + 1) = waysD n ps p (widN n ps (leastP n ps) + 1) := by
        rcases apart_cases (m := widN n ps (leastP n ps) + 1) hn with ⟨p, _, _, d, e⟩ | ⟨W', _⟩
        · exact ⟨p, d, e⟩
        · have := W' _ (set_good (n := n) (p := leastP n ps) (r := widN n ps (leastP n ps)) (ps := ps)) (by intro z; rw [z] at s1; cases s1)
          rw [← into_cut, s2] at this
          omega
      obtain ⟨pp, d, eap⟩ := hap
      refine if_f (dec_f (p := ((widN n ps (leastP n ps) : Int) < 5) ∧ False) (by simp) (bAnd_d (bVe (v2e (x := .int (widN n ps (leastP n ps) : Int)) rfl rfl rfl)) fun _ => bVe (v2e (v2e (x := apartD n ps (widN n ps (leastP n ps) + 1)) (z := .str "narrow") (v1e (v1e (xc (rSe rfl (rVe (v2e (x := .int (widN n ps (leastP n ps) : Int)) (z := .int ((widN n ps (leastP n ps) + 1 : Nat) : Int)) rfl rfl rfl) rfl)) ⟨rfl, rfl⟩ rfl (F_apartE (m := widN n ps (leastP n ps) + 1) hn (by omega))) rfl) rfl) rfl (by rw [eap, waysD0 d]; rfl)) rfl (by unfold fNe; rw [fEq_nn]; rfl)))) ?_
      have hmin : minOf ((setOf n ps (leastP n ps) (widN n ps (leastP n ps))).map fun q => (widN n ps q : Int)) = (widN n ps (leastP n ps) : Int) := by
        refine minOf_eq (List.mem_map.mpr ⟨_, s1, rfl⟩) fun x hx => ?_
        obtain ⟨q, hq, rfl⟩ := List.mem_map.mp hx
        have hg := set_good (n := n) (p := leastP n ps) (r := widN n ps (leastP n ps)) (ps := ps)
        have := pl q (fun z => hg.no0 (z ▸ hq)) (hg.lt q hq)
        omega
      have hmne : ((setOf n ps (leastP n ps) (widN n ps (leastP n ps))).map fun q => (widN n ps q : Int)) ≠ [] := fun z => by
        have := List.map_eq_nil_iff.mp z
        rw [this] at s1
        cases s1
      refine ⟨dInt (widN n ps (leastP n ps)), v1e (x := ((setOf n ps (leastP n ps) (widN n ps (leastP n ps))).map fun q => (widN n ps q : Int)).map D.int) (v1e (vlc_map (enc := dInt) (xs := setOf n ps (leastP n ps) (widN n ps (leastP n ps))) (h := fun q => D.int (widN n ps q : Int)) rfl (by omega) fun q hq => lcS1 rfl rfl ?_) (by rw [List.map_map]; rfl)) ?_, ?_⟩
      · have hg := set_good (n := n) (p := leastP n ps) (r := widN n ps (leastP n ps)) (ps := ps)
        exact v2e (x := widD n ps q) (v1e (v1e (xc rfl ⟨rfl, rfl⟩ rfl (F_widest_yes (p := q) hn (fun z => hg.no0 (z ▸ hq)) (hg.lt q hq))) rfl) rfl) rfl rfl
      · unfold fMinL
        rw [toIs_map, Option.bind_some, if_neg hmne, hmin]
        rfl
      · exact ⟨.bl true, vAnd_t (v1e (v1e (xc rfl ⟨rfl, rfl⟩ rfl rfl) rfl) rfl) (v2e rfl (v2e (x := mostD n ps) rfl rfl rfl) (fEq_dn _)), rfl⟩
  · cases h
end Z

set_option maxRecDepth 100000
namespace Z
open PySem PySem.Spec PyProof.Rows L2

/-! ### the tenth law: plain mathematics -/
def goes (S : List Nat) (p : P3) : Bool := p.2.2 && decide (p.1 ∉ S ∧ p.2.1 ∈ S)
theorem cut_goes (S : List Nat) : ∀ (ps : List P3) (n : Nat), ((opGo n ps).filter fun e => decide (e.2.1 ∉ S ∧ e.2.2 ∈ S)).length = (ps.filter (goes S)).length
  | [], _ => rfl
  | p :: ps, n => by
    have ih := cut_goes S ps (n + 1)
    unfold opGo
    rw [List.filter_cons (x := p)]
    unfold goes
    by_cases c : p.2.2 = true
    · rw [if_pos c, List.filter_cons, c, Bool.true_and]
      simp only
      split
      · simp only [List.length_cons, ih]
        rfl
      · rw [ih]
        rfl
    · have c : p.2.2 = false := by simpa using c
      rw [c]
      simp only [Bool.false_and, Bool.false_eq_true, if_false]
      rw [ih]
      rfl
theorem cut_ps (ps : List P3) (S : List Nat) : cut (openOf ps) S = (ps.filter (goes S)).length := by
  unfold cut
  rw [← opGo_open, cut_goes]
/-- a tree enters every set -/
theorem tree_goes {ns : List Int} {b n : Nat} {o S : List Nat} (O : OrdOk n o) (h : 1 ≤ n) (G : GoodSet n S) (hS : S ≠ []) : 1 ≤ ((treePs ns b o n).filter (goes S)).length := by
  have o0 : oAt o 0 = 0 := by unfold oAt; rw [O.hd]; rfl
  have key : ∀ (m j : Nat), j < m → j < n → oAt o j ∈ S → ∃ k, 1 ≤ k ∧ k < n ∧ goes S (treeP ns b o k) = true := by
    intro m
    induction m with
    | zero => intro j h; omega
    | succ m ih =>
      intro j hj hn hm
      have j1 : 1 ≤ j := Decidable.byContradiction fun c => by
        have : j = 0 := by omega
        subst this
        rw [o0] at hm
        exact G.no0 hm
      obtain ⟨a1, _⟩ := treeP_ix (c := cellAt ns (b + j)) j1
      by_cases c : oAt o (cellAt ns (b + j) % (j : Int)).toNat ∈ S
      · exact ih _ (by omega) (by omega) c
      · exact ⟨j, j1, hn, by unfold goes treeP; simp [c, hm]⟩
  obtain ⟨v, hv⟩ := List.exists_mem_of_ne_nil S hS
  have hvo : v ∈ o := full_of_len O.nd O.lt O.len (G.lt v hv)
  obtain ⟨j, hj, hje⟩ := List.mem_iff_getElem.mp hvo
  have hoj : oAt o j = v := by unfold oAt; rw [List.getElem?_eq_getElem hj, hje]; rfl
  obtain ⟨k, k1, k2, k3⟩ := key (j + 1) j (by omega) (by rw [← O.len]; exact hj) (by rw [hoj]; exact hv)
  have : treeP ns b o k ∈ (treePs ns b o n).filter (goes S) := List.mem_filter.mpr ⟨List.mem_map.mpr ⟨k, List.mem_range'_1.mpr (by omega), rfl⟩, k3⟩
  exact List.length_pos_of_mem this
theorem laids_goes {ns : List Int} {b n : Nat} {S : List Nat} (h : 1 ≤ n) (G : GoodSet n S) (hS : S ≠ []) : ∀ {t : Nat}, t ≤ ((laids ns b n t).filter (goes S)).length
  | 0 => Nat.zero_le _
  | t + 1 => by
    rw [laids_succ, List.filter_append, List.length_append]
    have h1 := laids_goes (ns := ns) (b := b) h G hS (t := t)
    have h2 := tree_goes (ns := ns) (b := b + 11 * t) (order_ok (c := cellAt ns (2 + t)) h) h G hS
    have h2 : 1 ≤ ((laidT ns b n t).filter (goes S)).length := h2
    omega
theorem laid_wide {ns : List Int} {b n t : Nat} {ps more : List P3} (h : 1 ≤ n) (hp : ps.Perm (laids ns b n t)) : Wide (openOf (ps ++ more)) n t := fun S G hS => by
  rw [cut_ps, List.filter_append, List.length_append, (hp.filter (goes S)).length_eq]
  have := laids_goes (ns := ns) (b := b) h G hS (t := t)
  omega
theorem Wide.le {all : List O3} {n k m : Nat} (h : Wide all n m) (hk : k ≤ m) : Wide all n k := fun S G hS => Nat.le_trans hk (h S G hS)
theorem wide_spN {n p m : Nat} {ps : List P3} (hn : okNet n ps) (W : Wide (openOf ps) n m) (h0 : p ≠ 0) (hp : p < n) : spN n ps p m = m := (spR_iff (many := m) (edOk_open hn) h0 hp).mpr fun S G hS => W S G (fun z => by rw [z] at hS; cases hS)
theorem wide_apart {n m : Nat} {ps : List P3} (hn : okNet n ps) (W : Wide (openOf ps) n m) : apartD n ps m = .tup [.str "trees", .lst (dRows (treesD n ps m))] := by
  rcases apart_cases (m := m) hn with ⟨p, h0, hp, d, _⟩ | ⟨_, e⟩
  · rw [wide_spN hn W h0 hp] at d
    omega
  · exact e
theorem cut_drop {α : Type} (xs : List α) (k : Nat) (h : k ≤ xs.length) : cutD xs (some (k : Int)) none = xs.drop k := by
  unfold cutD
  rw [HT.sIx_nat, show min k xs.length = k by omega]
  refine List.take_of_length_le ?_
  rw [List.length_drop]
  exact Nat.le_refl _
theorem cut_take {α : Type} (xs : List α) (k : Nat) (h : k ≤ xs.length) : cutD xs none (some (k : Int)) = xs.take k := by
  unfold cutD
  rw [HT.sIx_nat, show min k xs.length = k by omega]
  rfl
theorem rot_perm {α : Type} (xs : List α) (k : Nat) : (xs.drop k ++ xs.take k).Perm xs := by
  refine List.perm_append_comm.trans ?_
  rw [List.take_append_drop]
/-- all shut: water stays at the spring -/
theorem reached_shut {n : Nat} {ps : List P3} (hn : okNet n ps) (h : ∀ k, k < ps.length → (pAt ps k).2.2 = false) : reachedOf n ps = [0] := by
  have hop : lawOpen ps = [] := by
    unfold lawOpen
    refine List.filter_eq_nil_iff.mpr fun k hk => ?_
    rw [h k (List.mem_range.mp hk)]
    simp
  have ho : openOf ps = [] := by unfold openOf; rw [hop]; rfl
  have key : ∀ v, someAt (wet n (openOf ps)) v = true ↔ v = 0 := fun v => by
    rw [ho, wet_iff (es := []) hn.1 (by intro e he; cases he)]
    constructor
    · intro r
      exact r.closed (P := fun v => v = 0) rfl fun s g _ hm => (nomatch (show (s, g) ∈ ([] : List (Nat × Nat)) from hm))
    · intro z
      subst z
      exact .zero
  unfold reachedOf
  have : (List.range n).filter (fun v => someAt (wet n (openOf ps)) v) = (List.range n).filter fun v => decide (v = 0) := List.filter_congr fun v _ => by
    by_cases c : v = 0
    · rw [(key v).mpr c, decide_eq_true c]
    · rw [decide_eq_false c]
      cases q : someAt (wet n (openOf ps)) v with
      | false => rfl
      | true => exact absurd ((key v).mp q) c
  rw [this]
  obtain ⟨m, rfl⟩ : ∃ m, n = m + 1 := ⟨n - 1, by have := hn.1; omega⟩
  rw [List.range_succ_eq_map, List.filter_cons, if_pos (by simp)]
  congr 1
  refine List.filter_eq_nil_iff.mpr fun v hv => ?_
  obtain ⟨w, _, rfl⟩ := List.mem_map.mp hv
  simp

/-! ### the tenth law -/
open Classical in
noncomputable def F_law_told : FN
  | [.val (.tup [.str a, .lst fs]), .val (.int s), .val (.lst ds), .val (.int m)] => (decs fs : Option (List (List Nat))).bind fun rows => (unNet s ds).bind fun x => if a = "trees" ∧ 0 ≤ m ∧ TreesOk x.1 x.2 m.toNat rows then some (.inl (.val (.bl true))) else none
  | _ => none
theorem F_told {n m : Nat} {ps : List P3} {rows : List (List Nat)} (hn : okNet n ps) (h : TreesOk n ps m rows) : F_law_told [.val (.tup [.str "trees", .lst (dRows rows)]), .val (.int (n : Int)), .val (.lst (dPs ps)), .val (.int (m : Int))] = some (.inl (.val (.bl true))) := by
  show (decs (dRows rows)).bind _ = _
  rw [decs_dRows, Option.bind_some, unNet_of hn, Option.bind_some]
  exact ite_some ⟨rfl, Int.natCast_nonneg m, h⟩
/-- _law_told: 0 found 1 size 2 pipes 3 many -/
def t_law_told : VT := (seqT (ifT (bOr (bNot (bV (v1 (fIsi "tuple") (vVar 0)))) (bOr (bV (v2 fNe (v1 fLen (vVar 0)) (vC (.int 2)))) (bV (v2 fNe (v2 fIx (vVar 0) (vC (.int 0))) (vC (.str "trees")))))) (seqT (retV (vC (.bl false))) skipT) skipT) (seqT (retV (v1 slD (v1 inlO (xCall 4 F_law_trees_apart (rV (v2 fIx (vVar 0) (vC (.int 1))) (rV (vVar 1) (rV (vVar 2) (rV (vVar 3) rNil)))))))) skipT))
theorem v_law_told : ∀ ss r, ss.length = 4 → F_law_told ss = some r → t_law_told (postP r) (En0 ss 4) ∧ ∃ s, r = .inl s := by
  intro ss r hl h
  unfold F_law_told at h
  split at h
  · rename_i a fs s ds m
    obtain ⟨rows, e1, h1⟩ := Option.bind_eq_some_iff.mp h
    obtain ⟨x, e2, h2⟩ := Option.bind_eq_some_iff.mp h1
    clear h h1
    split at h2
    · rename_i hc
      have h4 := Option.some.inj h2
      clear h2
      subst h4
      cases dRows_some e1
      obtain ⟨rfl, rfl, hn⟩ := unNet_some e2
      clear e1 e2
      obtain ⟨rfl, c2, hc⟩ := hc
      obtain ⟨n, ps⟩ := x
      obtain ⟨m, rfl⟩ := Int.eq_ofNat_of_zero_le c2
      simp only [Int.toNat_natCast] at hn hc ⊢
      refine ⟨?_, _, rfl⟩
      refine if_f (dec_f (p := (¬ True) ∨ (False ∨ False)) (by simp) (bOr_d (bNot_d (bVe (v1e rfl isi_tup))) fun _ => bOr_d (bVe (v2e (x := .int 2) rfl rfl rfl)) fun _ => bVe (v2e (x := .str "trees") rfl rfl (by unfold fNe; rw [fEq_tt]; rfl)))) ?_
      exact ⟨_, v1e (v1e (xc rfl ⟨rfl, rfl⟩ rfl (F_treesApart hn hc)) rfl) rfl, rfl⟩
    · cases h2
  · cases h
def F_law_k10 : FN
  | [.val (.scr _)] => some (.inl (.val (.bl true)))
  | _ => none
theorem F_law_k10_t (ns : List Int) (_ : ns.length ≤ 63) : F_law_k10 [.val (.scr ns)] = some (.inl (.val (.bl true))) := rfl
/-- law: 0 script 1 size 2 many 3 pipes 4 turn 5 order 6 k 7 cut 8 more 9 net 10 found 11 wide 12 tree 13 number -/
def t_law_k10 : VT := (seqT (asgV 1 (v2 fAdd (vC (.int 2)) (v2 fMod (v1 slD (v1 inlO (xCall 2 F_law_cell_at (rV (vVar 0) (rV (vC (.int 0)) rNil))))) (vC (.int 4))))) (seqT (ifT (bV (v2 fEq (v2 fMod (v2 fDiv (v1 slD (v1 inlO (xCall 2 F_law_cell_at (rV (vVar 0) (rV (vC (.int 0)) rNil))))) (vC (.int 4))) (vC (.int 64))) (vC (.int 1)))) (seqT (asgV 1 (vC (.int 12))) skipT) skipT) (seqT (asgV 2 (v2 fAdd (vC (.int 1)) (v2 fMod (v1 slD (v1 inlO (xCall 2 F_law_cell_at (rV (vVar 0) (rV (vC (.int 1)) rNil))))) (vC (.int 3))))) (seqT (asgO 3 (oLst aNil)) (seqT (forT (lRng1 (vVar 2)) (gN 4) (seqT (asgV 5 (v1 slD (v1 inlO (xCall 2 F_law_order (rV (v1 slD (v1 inlO (xCall 2 F_law_cell_at (rV (vVar 0) (rV (v2 fAdd (vC (.int 2)) (vVar 4)) rNil))))) (rV (vVar 1) rNil)))))) (seqT (forT (lRng2 (vC (.int 1)) (vVar 1)) (gN 6) (seqT (appT 3 (vTup (aCons (v2 fIx (vVar 5) (v2 fMod (v1 slD (v1 inlO (xCall 2 F_law_cell_at (rV (vVar 0) (rV (v2 fAdd (v2 fAdd (vC (.int 8)) (v2 fMul (vC (.int 11)) (vVar 4))) (vVar 6)) rNil))))) (vVar 6))) (aCons (v2 fIx (vVar 5) (vVar 6)) (aCons (vC (.bl true)) aNil))))) skipT)) skipT))) (seqT (asgV 7 (v2 fMod (v1 slD (v1 inlO (xCall 2 F_law_cell_at (rV (vVar 0) (rV (vC (.int 5)) rNil))))) (v1 fLenL (lVar 3)))) (seqT (asgO 3 (v2 fCat (v1 slL (vCut cutL (lVar 3) (pI (vVar 7)) pN)) (v1 slL (vCut cutL (lVar 3) pN (pI (vVar 7)))))) (seqT (asgV 8 (v2 fMod (v1 slD (v1 inlO (xCall 2 F_law_cell_at (rV (vVar 0) (rV (vC (.int 6)) rNil))))) (vC (.int 6)))) (seqT (asgO 3 (v2 fCat (lVar 3) (v1 slL (v1 inlO (xCall 4 F_law_pipes_by (rV (vVar 0) (rV (vC (.int 44)) (rV (vVar 8) (rV (vVar 1) rNil))))))))) (seqT (asgO 9 (v1 inlO (xCall 2 F_law_net_by (rV (vVar 1) (rS 3 rNil))))) (seqT (asgV 10 (v1 slD (v1 inlO (xCall 2 F_apart (rS 9 (rV (vVar 2) rNil)))))) (seqT (ifT (bFrz (bOr (bNot (bV (v1 slD (v1 inlO (xCall 4 F_law_told (rV (vVar 10) (rV (vVar 1) (rV (vVar 3) (rV (vVar 2) rNil))))))))) (bNot (bV (v1 slD (v1 inlO (xCall 4 F_law_told (rV (v1 slD (v1 inlO (xCall 2 F_apart (rS 9 (rV (vC (.int 1)) rNil))))) (rV (vVar 1) (rV (vVar 3) (rV (vC (.int 1)) rNil))))))))))) (seqT (retV (vC (.bl false))) skipT) skipT) (seqT (asgV 11 (v1 slD (v1 inlO (xCall 3 F_ways (rS 9 (rV (v2 fAdd (vC (.int 1)) (v2 fMod (v1 slD (v1 inlO (xCall 2 F_law_cell_at (rV (vVar 0) (rV (vC (.int 7)) rNil))))) (v2 fSub (vVar 1) (vC (.int 1))))) (rV (vVar 2) rNil))))))) (seqT (ifT (bOr (bNot (bV (v1 (fIsi "tuple") (vVar 11)))) (bOr (bV (v2 fNe (v1 fLen (vVar 11)) (vC (.int 2)))) (bOr (bV (v2 fNe (v2 fIx (vVar 11) (vC (.int 0))) (vC (.str "ways")))) (bV (v2 fNe (v1 fLenL (v1 dL (v2 fIx (vVar 11) (vC (.int 1))))) (vVar 2)))))) (seqT (retV (vC (.bl false))) skipT) skipT) (seqT (forT (v1 dL (v2 fIx (vVar 10) (vC (.int 1)))) (gN 12) (seqT (forT (v1 dL (vVar 12)) (gN 13) (seqT (nmT none 2 G_shut 9 (rV (vVar 13) rNil)) skipT)) skipT)) (seqT (retV (vOr (v2 fGt (vVar 8) (vC (.int 0))) (v2 fEq (v1 slD (v1 inlO (xCall 1 F_reached (rS 9 rNil)))) (v1 slD (oLst (aCons (vC (.int 0)) aNil)))))) skipT))))))))))))))))
theorem v_law_k10 : ∀ ss r, ss.length = 1 → F_law_k10 ss = some r → t_law_k10 (postP r) (En0 ss 14) ∧ ∃ s, r = .inl s := by
  intro ss r hl h
  unfold F_law_k10 at h
  split at h
  · rename_i ns
    have h1 := Option.some.inj h
    clear h
    subst h1
    refine ⟨?_, _, rfl⟩
    have z1 : 0 ≤ cellAt ns 0 % 4 := Int.emod_nonneg _ (by omega)
    have z2 : cellAt ns 0 % 4 < 4 := Int.emod_lt_of_pos _ (by omega)
    refine ⟨.int (2 + cellAt ns 0 % 4), v2e rfl (v2e (cellE (k := 0) rfl) rfl (fMod_pos (by omega))) rfl, ?_⟩
    obtain ⟨n, hn0, n2, n12⟩ : ∃ n : Nat, (n : Int) = (if cellAt ns 0 / 4 % 64 = 1 then 12 else 2 + cellAt ns 0 % 4) ∧ 2 ≤ n ∧ n ≤ 12 := by
      refine ⟨(if cellAt ns 0 / 4 % 64 = 1 then 12 else 2 + cellAt ns 0 % 4).toNat, ?_, ?_, ?_⟩ <;> split <;> omega
    refine if_to (Γ' := [some (.val (.scr ns)), some (.val (.int (n : Int))), none, none, none, none, none, none, none, none, none, none, none, none]) (p := cellAt ns 0 / 4 % 64 = 1) (bVe (v2e (v2e (v2e (cellE (k := 0) rfl) rfl (fDiv_pos (by omega) (by omega))) rfl (fMod_pos (by omega))) rfl rfl)) (fun c Q hq => ?_) (fun c Q hq => ?_) ?_
    · rw [if_pos c] at hn0
      rw [hn0] at hq
      exact ⟨_, rfl, hq⟩
    · rw [if_neg c] at hn0
      rw [hn0] at hq
      exact hq
    have t1 : 0 ≤ cellAt ns 1 % 3 := Int.emod_nonneg _ (by omega)
    have t2 : cellAt ns 1 % 3 < 3 := Int.emod_lt_of_pos _ (by omega)
    obtain ⟨t, ht, t3, t4⟩ : ∃ t : Nat, (t : Int) = 1 + cellAt ns 1 % 3 ∧ 1 ≤ t ∧ t ≤ 3 := ⟨(1 + cellAt ns 1 % 3).toNat, by omega, by omega, by omega⟩
    refine ⟨.int (t : Int), v2e rfl (v2e (cellE (k := 1) rfl) rfl (fMod_pos (by omega))) (by rw [ht]; rfl), ?_⟩
    refine ⟨_, rfl, ?_⟩
    refine ⟨_, rng1e (i := ((t : Nat) : Int)) rfl (by omega), ?_⟩
    rw [Int.toNat_natCast, List.range_eq_range']
    refine loopT_inv (enc := dInt) (fun rest Γ => ∃ (v4 v5 v6 : Option Sl), rest.length ≤ t ∧ rest = List.range' (t - rest.length) rest.length ∧
      Γ = [some (.val (.scr ns)), some (.val (.int (n : Int))), some (.val (.int (t : Int))), some (.own .loc (dPs (laids ns 8 n (t - rest.length)))), v4, v5, v6, none, none, none, none, none, none, none]) ?_ ?_ _ _ ⟨none, none, none, by simp, by simp, by simp [laids]; rfl⟩
    · rintro u rest Γ kk ⟨v3, v4, v5, hl, hr, rfl⟩ hk
      refine ⟨_, rfl, ?_⟩
      simp only [List.length_cons] at hl hr ⊢
      rw [List.range'_succ] at hr
      injection hr with hr1 hr2
      have hu : t - (rest.length + 1) = u := by omega
      have hu2 : t - rest.length = u + 1 := by omega
      rw [hu]
      have O := order_ok (c := cellAt ns (2 + u)) (n := n) (by omega)
      refine ⟨.lst (dNs (orderOf (cellAt ns (2 + u)) n)), v1e (v1e (xc (rVe (v1e (v1e (xc (rVe rfl (rVe (v2e (z := .int ((2 + u : Nat) : Int)) (y := dInt u) rfl rfl rfl) rfl)) ⟨rfl, rfl⟩ rfl (F_cell (k := 2 + u))) rfl) rfl) (rVe rfl rfl)) ⟨rfl, rfl⟩ rfl (F_orderE (by omega) (by omega))) rfl) rfl, ?_⟩
      generalize hO : orderOf (cellAt ns (2 + u)) n = o at O
      refine ⟨_, rng2e (i := 1) (j := n) rfl rfl (by omega) (by omega), ?_⟩
      have hll := laids_len (ns := ns) (b := 8) (n := n) (t := u)
      have hmul : u * (n - 1) ≤ 3 * 11 := Nat.mul_le_mul (by omega) (by omega)
      refine loopT_inv (enc := dInt) (fun rs Γ => ∃ (v5 : Option Sl) (done : List Nat), done ++ rs = List.range' 1 (n - 1) ∧
        Γ = [some (.val (.scr ns)), some (.val (.int (n : Int))), some (.val (.int (t : Int))), some (.own .loc (dPs (laids ns 8 n u ++ done.map (treeP ns (8 + 11 * u) o)))), some (.val (dInt u)), some (.val (.lst (dNs o))), v5, none, none, none, none, none, none, none]) ?_ ?_ _ _ ⟨v5, [], rfl, by simp only [List.map_nil, List.append_nil]; rfl⟩
      · rintro k rs Γ kk' ⟨v5, done, hd, rfl⟩ hk'
        refine ⟨_, rfl, ?_⟩
        have hkm : k ∈ List.range' 1 (n - 1) := by rw [← hd]; simp
        rw [List.mem_range'_1] at hkm
        have hdl : done.length ≤ 11 := by
          have := congrArg List.length hd
          simp at this
          omega
        refine ⟨(by intro z; cases z), dP (treeP ns (8 + 11 * u) o k), tree_e (k := k) O (by omega) (by omega) rfl rfl (v1e (v1e (xc (rVe rfl (rVe (v2e (z := .int ((8 + 11 * u + k : Nat) : Int)) (y := dInt k) (v2e (z := .int ((8 + 11 * u : Nat) : Int)) rfl (v2e (y := dInt u) (z := .int ((11 * u : Nat) : Int)) rfl rfl (by
          show (if (small 11 || small (u : Int)) = true then some (D.int (11 * (u : Int))) else none) = _
          rw [show small 11 = true by decide +kernel, Bool.true_or]
          show some (D.int (11 * (u : Int))) = some (D.int ((11 * u : Nat) : Int))
          refine congrArg (fun i => some (D.int i)) ?_
          omega)) (by
          show some (D.int ((8 : Int) + ((11 * u : Nat) : Int))) = some (D.int ((8 + 11 * u : Nat) : Int))
          refine congrArg (fun i => some (D.int i)) ?_
          omega)) rfl rfl) rfl)) ⟨rfl, rfl⟩ rfl (F_cell (k := 8 + 11 * u + k))) rfl) rfl), by rw [dPs_len, List.length_append, List.length_map]; omega, ?_⟩
        refine hk' _ ⟨some (.val (dInt k)), done ++ [k], by rw [← hd]; simp, ?_⟩
        rw [List.map_append, ← List.append_assoc, List.map_cons, List.map_nil, dPs_snoc]
        rfl
      · rintro Γ ⟨v5, done, hd, rfl⟩
        rw [List.append_nil] at hd
        subst hd
        refine hk _ ⟨some (.val (dInt u)), some (.val (.lst (dNs o))), v5, by omega, by rw [show t - rest.length = t - (rest.length + 1) + 1 by omega]; exact hr2, ?_⟩
        rw [hu2, laids_succ]
        unfold laidT treePs
        rw [hO]
    · rintro Γ ⟨v3, v4, v5, _, _, rfl⟩
      have hll := laids_len (ns := ns) (b := 8) (n := n) (t := t)
      have hmul : t * (n - 1) ≤ 3 * 11 := Nat.mul_le_mul (by omega) (by omega)
      have hmul2 : 1 * 1 ≤ t * (n - 1) := Nat.mul_le_mul (by omega) (by omega)
      have hlok := laids_ok (ns := ns) (b := 8) (n := n) (t := t) (by omega)
      simp only [List.length_nil, Nat.sub_zero]
      generalize hL : laids ns 8 n t = ls at hll hlok ⊢
      have a1 : 0 ≤ cellAt ns 5 % (ls.length : Int) := Int.emod_nonneg _ (by omega)
      have a2 : cellAt ns 5 % (ls.length : Int) < ls.length := Int.emod_lt_of_pos _ (by omega)
      obtain ⟨cu, hcu⟩ := Int.eq_ofNat_of_zero_le a1
      have hcl : cu ≤ ls.length := by omega
      refine ⟨dInt cu, v2e (cellE (k := 5) rfl) (lenPs (ps := ls) rfl) (by rw [fMod_pos (by omega), hcu]; rfl), ?_⟩
      have hperm := rot_perm ls cu
      refine ⟨.own .loc (dPs (ls.drop cu ++ ls.take cu)), v2e (x := dPs (ls.drop cu)) (y := dPs (ls.take cu)) (v1e (x := .own .loc (dPs (ls.drop cu))) ?_ rfl) (v1e (x := .own .loc (dPs (ls.take cu))) ?_ rfl) ?_, ?_⟩
      · show cutL (dPs ls) (some (cu : Int)) none = _
        unfold cutL
        rw [cut_drop _ _ (by rw [dPs_len]; exact hcl)]
        unfold dPs
        rw [List.map_drop]
      · show cutL (dPs ls) none (some (cu : Int)) = _
        unfold cutL
        rw [cut_take _ _ (by rw [dPs_len]; exact hcl)]
        unfold dPs
        rw [List.map_take]
      · unfold fCat
        rw [if_pos (decide_eq_true (by rw [dPs_len, dPs_len, List.length_drop, List.length_take]; omega))]
        unfold dPs
        rw [List.map_append]
      have hrl : (ls.drop cu ++ ls.take cu).length = t * (n - 1) := by rw [hperm.length_eq, hll]
      generalize ls.drop cu ++ ls.take cu = rs at hperm hrl
      have c6 : 0 ≤ cellAt ns 6 % 6 := Int.emod_nonneg _ (by omega)
      have c6' : cellAt ns 6 % 6 < 6 := Int.emod_lt_of_pos _ (by omega)
      obtain ⟨mo, hmo⟩ := Int.eq_ofNat_of_zero_le c6
      refine ⟨dInt mo, v2e (cellE (k := 6) rfl) rfl (by rw [fMod_pos (by omega), hmo]; rfl), ?_⟩
      have hpb := pipesBy_len2 (ns := ns) (first := 44) (many := mo) n2
      have hok : okNet n (rs ++ pipesBy ns 44 mo n) := by
        refine ⟨by omega, n12, okPs_iff.mpr fun p hp => ?_, by rw [List.length_append]; omega⟩
        rcases List.mem_append.mp hp with q | q
        · exact hlok p (hperm.mem_iff.mp q)
        · exact pipesBy_ok p q
      have W : Wide (openOf (rs ++ pipesBy ns 44 mo n)) n t := laid_wide (ns := ns) (b := 8) (by omega) (by rw [hL]; exact hperm)
      refine ⟨.own .loc (dPs (rs ++ pipesBy ns 44 mo n)), v2e (x := dPs rs) (y := dPs (pipesBy ns 44 mo n)) rfl (v1e (v1e (xc (rVe rfl (rVe rfl (rVe rfl (rVe rfl rfl)))) ⟨rfl, rfl⟩ rfl (F_pipesBy (f := 44) (m := mo) (s := n) (by omega) (by omega))) rfl) rfl) ?_, ?_⟩
      · unfold fCat
        rw [if_pos (decide_eq_true (by rw [dPs_len, dPs_len]; omega))]
        unfold dPs
        rw [List.map_append]
      have hpl : (rs ++ pipesBy ns 44 mo n).length = t * (n - 1) + mo := by rw [List.length_append, hrl, hpb]
      generalize rs ++ pipesBy ns 44 mo n = ps at hok W hpl
      have hn := hok
      have hn2 := hn.2.2.2
      have T := trees_ok hn W
      refine ⟨.net .loc (n : Int) (dPs ps), v1e (xc rfl ⟨rfl, rfl⟩ rfl (F_netBy rfl hn)) rfl, ?_⟩
      refine ⟨.tup [.str "trees", .lst (dRows (treesD n ps t))], v1e (v1e (xc rfl ⟨rfl, rfl⟩ rfl (F_apartE (m := t) hn (by omega))) rfl) (by rw [wide_apart hn W]; rfl), ?_⟩
      refine if_f (dec_f (p := (¬ True) ∨ ¬ True) (by simp) (bOr_d (bNot_d (bVe (v1e (v1e (xc rfl ⟨rfl, rfl⟩ rfl (F_told hn T)) rfl) rfl))) fun _ => bNot_d (bVe (v1e (v1e (xc (rVe (v1e (v1e (xc rfl ⟨rfl, rfl⟩ rfl (F_apartE (m := 1) hn (by omega))) rfl) (by rw [wide_apart hn (W.le t3)]; rfl)) (rVe rfl (rVe rfl (rVe rfl rfl)))) ⟨rfl, rfl⟩ rfl (F_told (m := 1) hn (trees_ok hn (W.le t3)))) rfl) rfl)))) ?_
      obtain ⟨p0, pn⟩ := placeBy_ok (c := cellAt ns 7) n2
      have hsp := wide_spN hn W p0 pn
      have R := rows_ok (m := t) (mm := t) hn (show t ≤ spN n ps (placeBy (cellAt ns 7) n) t by omega)
      have hwd : waysD n ps (placeBy (cellAt ns 7) n) t = .tup [.str "ways", .lst (dRows (rowsOf n ps (placeBy (cellAt ns 7) n) t (spN n ps (placeBy (cellAt ns 7) n) t)))] := waysD1 (by omega)
      refine ⟨waysD n ps (placeBy (cellAt ns 7) n) t, v1e (v1e (xc (rSe rfl (rVe (placeE n2 (cellE (k := 7) rfl) rfl) (rVe rfl rfl))) ⟨rfl, rfl⟩ rfl (F_ways_yes hn p0 pn (by omega))) rfl) rfl, ?_⟩
      rw [hwd]
      refine if_f (dec_f (p := (¬ True) ∨ (False ∨ (False ∨ False))) (by simp) (bOr_d (bNot_d (bVe (v1e rfl isi_tup))) fun _ => bOr_d (bVe (v2e (x := .int 2) rfl rfl rfl)) fun _ => bOr_d (bVe (v2e (x := .str "ways") rfl rfl (by unfold fNe; rw [fEq_ww]; rfl))) fun _ => bVe (v2e (x := dInt t) (v1e (x := dRows (rowsOf n ps (placeBy (cellAt ns 7) n) t (spN n ps (placeBy (cellAt ns 7) n) t))) rfl (by show some (D.int ((dRows _).length : Int)) = _; unfold dRows; rw [List.length_map, R.len]; rfl)) (y := dInt t) rfl (by unfold fNe; rw [fEq_dn]; rfl)))) ?_
      generalize waysD n ps (placeBy (cellAt ns 7) n) t = wd
      generalize hRR : treesD n ps t = RR at T
      refine ⟨dRows RR, rfl, ?_⟩
      have hrow : ∀ row ∈ RR, ∀ k ∈ row, k < ps.length := fun row hr k hk => (T.tree row hr).lt k hk
      refine loopT_inv (enc := fun r => D.lst (dNs r)) (fun rest Γ => ∃ (done : List Nat) (ps' : List P3) (v11 v12 v13 : Option Sl), (∀ row ∈ rest, row ∈ RR) ∧ done ++ rest.flatten = RR.flatten ∧ okNet n ps' ∧ ps'.length = ps.length ∧ (∀ k ∈ done, (pAt ps' k).2.2 = false) ∧
        Γ = [some (.val (.scr ns)), some (.val (.int (n : Int))), some (.val (.int (t : Int))), some (.own .loc (dPs ps)), v3, v4, v5, some (.val (dInt cu)), some (.val (dInt mo)), some (.net .loc (n : Int) (dPs ps')), some (.val (.tup [.str "trees", .lst (dRows RR)])), v11, v12, v13]) ?_ ?_ RR _ ⟨[], ps, _, none, none, fun _ h => h, rfl, hn, rfl, fun k h => (nomatch h), rfl⟩
      · rintro row rest Γ kk ⟨done, ps', v11, v12, v13, hr, hd, ok', hl', hsh, rfl⟩ hk
        refine ⟨_, rfl, ?_⟩
        have hrm := hr row (by simp)
        refine ⟨dNs row, rfl, ?_⟩
        rw [List.flatten_cons] at hd
        refine loopT_inv (enc := dInt) (fun rr Γ => ∃ (dn : List Nat) (ps'' : List P3) (v13 : Option Sl), (∀ k ∈ rr, k < ps.length) ∧ dn ++ rr = row ∧ okNet n ps'' ∧ ps''.length = ps.length ∧ (∀ k ∈ done ++ dn, (pAt ps'' k).2.2 = false) ∧
          Γ = [some (.val (.scr ns)), some (.val (.int (n : Int))), some (.val (.int (t : Int))), some (.own .loc (dPs ps)), v3, v4, v5, some (.val (dInt cu)), some (.val (dInt mo)), some (.net .loc (n : Int) (dPs ps'')), some (.val (.tup [.str "trees", .lst (dRows RR)])), v11, some (.val (.lst (dNs row))), v13]) ?_ ?_ row _ ⟨[], ps', v13, hrow row hrm, rfl, ok', hl', by simpa using hsh, rfl⟩
        · rintro k rr Γ kk' ⟨dn, ps'', v13, hkl, hdn, ok'', hl'', hsh', rfl⟩ hk'
          refine ⟨_, rfl, ?_⟩
          have hk0 : k < ps''.length := by rw [hl'']; exact hkl k (by simp)
          refine ⟨rfl, _, _, _, _, rfl, ⟨rfl, rfl⟩, rfl, G_shutT hk0, ?_⟩
          refine hk' _ ⟨dn ++ [k], turnAt ps'' k false, some (.val (dInt k)), fun a ha => hkl a (List.mem_cons_of_mem _ ha), by rw [← hdn]; simp, turnAt_ok ok'' hk0, by rw [turnAt_len]; exact hl'', fun j hj => ?_, (by cases v3 <;> cases v4 <;> cases v5 <;> cases v11 <;> rfl)⟩
          rw [pAt_turn hk0]
          split
          · rfl
          · rename_i hne
            refine hsh' j ?_
            rw [← List.append_assoc] at hj
            rcases List.mem_append.mp hj with z | z
            · exact z
            · simp at z
              exact absurd z hne
        · rintro Γ ⟨dn, ps'', v13, _, hdn, ok'', hl'', hsh', rfl⟩
          rw [List.append_nil] at hdn
          subst hdn
          exact hk _ ⟨done ++ dn, ps'', v11, _, v13, fun a ha => hr a (List.mem_cons_of_mem _ ha), by rw [← hd]; simp, ok'', hl'', hsh', rfl⟩
      · rintro Γ ⟨done, ps', v11, v12, v13, _, hd, ok', hl', hsh, rfl⟩
        have hd : done = RR.flatten := by simpa using hd
        subst hd
        refine ⟨.bl true, ?_, rfl⟩
        by_cases cm : (0 : Int) < (mo : Int)
        · exact vOr_t (v2e (x := dInt mo) rfl rfl (by show some (D.bl (decide ((0 : Int) < (mo : Int)))) = _; rw [decide_eq_true cm]))
        · refine vOr_f (v2e (x := dInt mo) rfl rfl (by show some (D.bl (decide ((0 : Int) < (mo : Int)))) = _; rw [decide_eq_false cm])) ?_
          have hfl : RR.flatten.length = ps.length := by
            have e1 : ∀ (rows : List (List Nat)), (∀ row ∈ rows, row.length = n - 1) → rows.flatten.length = rows.length * (n - 1) := fun rows => by
              induction rows with
              | nil => intro _; simp
              | cons r rows ih =>
                intro h
                rw [List.flatten_cons, List.length_append, h r (by simp), ih fun a ha => h a (List.mem_cons_of_mem _ ha), List.length_cons, Nat.succ_mul]
                omega
            rw [e1 RR fun row hr => (T.tree row hr).len, T.len, hpl]
            omega
          have hall : ∀ k, k < ps'.length → (pAt ps' k).2.2 = false := fun k hk => hsh k (full_of_len T.nd (fun v hv => by
            obtain ⟨row, h1, h2⟩ := List.mem_flatten.mp hv
            exact (T.tree row h1).lt v h2) hfl (by omega))
          refine v2e (v1e (v1e (xc rfl ⟨rfl, rfl⟩ rfl (F_reachedE ok')) rfl) (by rw [reached_shut ok' hall]; rfl)) (y := .lst (dNs [0])) rfl (fEq_refl (shaped_ns [0]))
  · cases h
end Z

set_option maxRecDepth 100000
namespace Z
open PySem PySem.Spec PyProof.Rows L2

/-! ### a def that may hand back its first argument -/
abbrev FA := List Sl → Option (Option Sl × List Sl)
def MsA (g : Glo) (ow : Addr → Option Nat) (vs : List V) (Hb H : Hp) (Q : VK) (ss' : List Sl) : Option Sl → Prop
  | some s => ∀ v Hb' H', Chg ow Hb H Hb' H' → Sat g (ss'.map some) (vs.map some) Hb' H' ow → rO g H Hb' H' v s → Q v H'
  | none => ∀ v Hb' H', Chg ow Hb H Hb' H' → Sat g (ss'.map some) (vs.map some) Hb' H' ow → vs[0]? = some v → Q v H'
def spA (g : Glo) (n : Nat) (F : FA) : Sp := fun vs H Q E => vs.length = n ∧ ∃ ss r ss' Hb ow, F ss = some (r, ss') ∧ ss.length = n ∧ (∀ s ∈ ss, mdS s = none ∨ mdS s = some .mut) ∧ Sat g (ss.map some) (vs.map some) Hb H ow ∧ MsA g ow vs Hb H Q ss' r
def postA (r : Option Sl) (ss ss' : List Sl) : Out → Prop
  | .rt s Γ => r = some s ∧ agr ss ss' Γ
  | .nx Γ => r = none ∧ agr ss ss' Γ ∧ ∃ s, Γ[0]? = some (some s) ∧ mdS s = some .mut
  | _ => False
section
variable {X : Cx} {g : Glo} {st : Stmt} {sts : List Stmt} {W : WX}
/-- a block whose last row is: return of the slot i -/
def sA (g : Glo) (W : WX) (i : Nat) (T : VT) : TS := fun De σ H => sV g W T { De with nx := fun σ H => tVar i σ H De.rt } σ H
theorem ssA_last {i : Nat} (h : PS X st (tRet (tVar i))) : PSs X [st] (sA g W i skipT) := PSs_mono (pss_one h) fun De σ H ⟨c, Q, Γ, Hb, ow, t, S, F, L⟩ => L.nx _ _ _ _ _ t S F
theorem ssA_cons {i : Nat} {T U : VT} (h1 : PS X st (sV g W T)) (h2 : PSs X sts (sA g W i U)) : PSs X (st :: sts) (sA g W i (seqT T U)) := PSs_mono (pss_cons h1 h2) fun De σ H ⟨c, Q, Γ, Hb, ow, t, S, F, L⟩ =>
  ⟨c, thenQ U Q, Γ, Hb, ow, t, S, F, ⟨fun Γ1 σ1 Hb1 H1 ow1 q S1 F1 => ⟨c, Q, Γ1, Hb1, ow1, q, S1, F1, L⟩, L.bk, L.ct, L.rt, L.ex⟩⟩
end
section
variable {P : Program} {w : World} {g : Glo} {mg : Str → Option Value} {base : Heap}
theorem body_readA {F : FA} {np : Nat} {N : List Str} {T : VT} {vs : List V} {H : Hp} {Q : VK} {E : XK} (hnp : np ≤ N.length) (hv : ∀ ss r ss', ss.length = np → F ss = some (r, ss') → T (postA r ss ss') (En0 ss N.length)) (h : spA g np F vs H Q E) :
    sA g (fun cls d _ H => E cls d H) 0 T { nx := fun _ H' => Q .non H', rt := Q } (L2.start N vs) H := by
  obtain ⟨hl, ss, r, ss', Hb, ow, e1, hs, mo, S, k⟩ := h
  refine ⟨⟨Hb, H, ow, vs, fun _ => none⟩, postA r ss ss', En0 ss N.length, Hb, ow, hv ss r ss' hs e1, S.start (by omega), Frm.entryM S mo, ?_⟩
  refine ⟨fun Γ σ Hb' H' ow' q S' F' => ?_, fun _ _ _ _ _ q => q.elim, fun _ _ _ _ _ q => q.elim, fun s Γ σ v Hb' H' ow' q S' F' rr => ?_, fun x Γ σ Hb' H' ow' q S' F' => q.elim⟩
  · obtain ⟨rfl, ag, s, e0, em⟩ := q
    obtain ⟨c1, c2⟩ := exitM S F' S' ag
    obtain ⟨v, y1, y2⟩ := F'.pin 0 s e0 em
    exact ⟨v, y2, k v Hb' H' c1 c2 y1⟩
  · obtain ⟨rfl, ag⟩ := q
    obtain ⟨c1, c2⟩ := exitM S F' S' ag
    exact k _ Hb' H' c1 c2 rr
theorem ok_fnA {F : FA} {T : VT} {x qual : Str} {st : Stmt} {f : Addr} {fd : FuncData} {N ps : List Str} {k : Nat} (Fn : Fun g.K x qual st f fd) (S : FnScope N ps (defScope st)) (hN : ps.length ≤ N.length)
    (hb : ∀ (cdv : Value) (A : Around) (outer : List Env) (s : Shared) (H : Hp) (E : XK), Room k (A.deeper (envOfC qual (defScope st) s.heap.objs.size f cdv)) →
      PSs (cxOf (L2.CX P w) P w g.K mg base N qual (defScope st) f cdv A outer s H E) (defBody st) (sA g (fun cls d _ H => E cls d H) 0 T))
    (hv : ∀ ss r ss', ss.length = ps.length → F ss = some (r, ss') → T (postA r ss ss') (En0 ss N.length)) : FnOk P w g.K mg base (L2.CX P w) (k + 1) f fd ps (spA g ps.length F) :=
  Fn.okX S (fun vs H Q E h => h.1) fun cdv A outer s H vs Q E hr h => ⟨_, hb cdv A outer s H E hr, body_readA hN hv h⟩
end
section
variable {X : Cx} {g : Glo} {c e : Expr} {st : Stmt} {W : WX}
/-- x = f(x, ..), f handing back a new list or x itself -/
def selfT (i n : Nat) (G : FA) (fs : VA) : VT := fun Q Γ => ∃ as ss r ss', fs Γ = some as ∧ (ndA as = true ∧ as.length = n) ∧ amSls Γ as = some ss ∧ G ss = some (r, ss') ∧ as[0]? = some (.s i) ∧
  match r with
  | some s => Q (.nx ((putA Γ as ss').set i (some (locS s))))
  | none => Q (.nx (putA Γ as ss'))
theorem set_same {σ : SS} {i : Nat} {v : V} (h : σ[i]? = some (some v)) : σ.set i (some v) = σ := by
  apply List.ext_getElem?
  intro j
  by_cases q : i = j
  · subst q
    rw [List.getElem?_set_self (List.getElem?_eq_some_iff.mp h).1, h]
  · rw [List.getElem?_set_ne q]
theorem s_self {i n : Nat} {G : FA} {fs : VA} (h : PS X st (tAsg (tCallS (spA g n G) (WE W) (eAr g fs)) (gName i))) : PS X st (sV g W (selfT i n G fs)) := PS_mono h fun De σ H ⟨c, Q, Γ, Hb, ow, ⟨as, ss, r, ss', h1, h2, h3, h4, h5, q⟩, S, Fm, L⟩ =>
  ⟨Γ, Hb, ow, as, h1, S, fun vs Hb1 H1 g1 q1 => by
    refine ⟨by rw [arsOk_len q1]; exact h2.2, ss, r, ss', Hb1, owA ow as, h4, by rw [amSls_len h3]; exact h2.2, amSls_mut h3, (S.grow g1).margs h3 q1 h2.1, ?_⟩
    cases r with
    | some s =>
      intro v Hb2 H2 ch S2 rr
      have SA := (S.grow g1).after ch S2 q1
      have FA := (Fm.grow g1).after (ss' := ss') ch h3
      obtain ⟨ow', S', F'⟩ := setO2 SA FA (H := H1) (fun a j o => ((S.grow g1).ows a j o).2) (fun a o e => (Fm.grow g1).keep a o e) (fun a => (Fm.grow g1).free) rr
      exact L.nx _ _ Hb2 H2 ow' q S' F'
    | none =>
      intro v Hb2 H2 ch S2 hv
      have SA := (S.grow g1).after ch S2 q1
      have FA := (Fm.grow g1).after (ss' := ss') ch h3
      obtain ⟨v', y1, y2⟩ := arsOk_get q1 h5
      rw [hv] at y1
      cases y1
      have y2 : σ[i]? = some (some v) := y2
      show De.nx (σ.set i (some v)) H2
      rw [set_same y2]
      exact L.nx _ σ Hb2 H2 ow q SA FA⟩

/-! ### x.insert(k, d) -/
def insT (i : Nat) (fk fd : VF) : VT := fun Q Γ => ownT i (fun m ds => ∃ (k : Nat) (d : D), fk Γ = some (.int (k : Int)) ∧ fd Γ = some d ∧ k ≤ 1000000 ∧ ds.length ≤ 1000000 ∧
  Q (.nx (Γ.set i (some (.own m (ds.take k ++ [d] ++ ds.drop k)))))) Γ
def rIns : V → List V → Hp → VK → Prop := fun x vs H Q => ∃ (l : Addr) (xs : List V) (i : Int) (y : V), x = .ref l ∧ vs = [.int i, y] ∧ H l = some (.lst xs) ∧ xs.length < sizeLine ∧ 0 ≤ i ∧ i < 2 ^ 63 ∧
    Q .non (upd H l (.lst (xs.take i.toNat ++ [y] ++ xs.drop i.toNat)))
theorem mt_ins : MtR X "list.insert" rIns := mt_insert
theorem reps_take {K : PySem.W.Frag} {H : Hp} : ∀ {vs : List V} {ds : List D} (k : Nat), Reps K H vs ds → Reps K H (vs.take k) (ds.take k)
  | _, _, 0, _ => by rw [List.take_zero, List.take_zero]; exact Reps.nil
  | _, [], k + 1, h => by rw [reps_nil.mp h]; exact Reps.nil
  | _, d :: ds, k + 1, h => by
    obtain ⟨v, r, rfl, h1, h2⟩ := reps_cons.mp h
    exact Reps.cons h1 (reps_take k h2)
theorem reps_drop {K : PySem.W.Frag} {H : Hp} : ∀ {vs : List V} {ds : List D} (k : Nat), Reps K H vs ds → Reps K H (vs.drop k) (ds.drop k)
  | _, _, 0, h => h
  | _, [], k + 1, h => by rw [reps_nil.mp h]; exact Reps.nil
  | _, d :: ds, k + 1, h => by
    obtain ⟨v, r, rfl, h1, h2⟩ := reps_cons.mp h
    exact reps_drop k h2
theorem s_ins {i : Nat} {fk fd : VF} (h : PS X st (tDrop (tBM g.K "list" rIns (tVar i) (tCons (eV g fk) (tCons (eV g fd) tNil))))) : PS X st (sV g W (insT i fk fd)) := PS_mono h fun De σ H ⟨c, Q, Γ, Hb, ow, t, S, F, L⟩ => by
  obtain ⟨m, ds, e0, hm, k, d, e1, e2, hk, hl, q⟩ := ownT_get t
  obtain ⟨v, z1, a, vs, rfl, o, h1, h2⟩ := S.slots i _ e0
  refine ⟨_, z1, tyV_lst h1, Γ, Hb, ow, _, e1, S, fun u Hb1 H1 g1 r1 => ⟨Γ, Hb1, ow, _, e2, S.grow g1, fun y Hb2 H2 g2 r2 => ?_⟩⟩
  have h1' := g2.h _ _ (g1.h _ _ h1)
  have big : (2 : Int) ^ 63 = 9223372036854775808 := by decide +kernel
  refine ⟨a, vs, (k : Int), y, rfl, by rw [rep_int.mp r1], h1', lt_line (by rw [h2.len]; exact hl), by omega, by rw [big]; omega, ?_⟩
  rw [Int.toNat_natCast]
  have g12 := g1.trans g2
  have r := (h2.same g12.hb)
  exact L.nx _ σ Hb2 _ ow q ((S.grow g12).change o z1 ⟨a, _, rfl, o, upd_same, ((reps_take k r).append (Reps.one r2)).append (reps_drop k r)⟩) ((F.grow g12).change o e0 (md_cases hm) rfl)

/-! ### len(set(xs)), numbers twice too -/
def metN (ns : List Int) : Nat := (PyProof.Rows.firstMet (fun i => ns.getD i 0) ns.length).length
def fLenSetG (ds : List D) : Option D := (toIs ds).bind fun ns => if decide (ns.length ≤ 4000) = true then some (.int (metN ns)) else none
def rLenSetG (K : PySem.W.Frag) : V → Hp → VK → Prop := fun x H Q => ∃ (l : Addr) (ns : List Int), x = .ref l ∧ SqL K H l (ns.map V.int) ∧ ns.length ≤ 4000 ∧ Q (.int (metN ns : Nat)) H
theorem pe_lenSetG {a : Expr} {te : TE} {p p2 q pos : Pos} (hg : Gl X "len") (hm : X.mg "len" = none) (hg2 : Gl X "set") (hm2 : X.mg "set" = none) (ha : PE X a te) (hc : X.calm = true := by rfl)
    (na : starEach [a] X.env = (false, eval a X.env) :: starEach [] X.env := by rfl) : PE X (.Call (.Name "len" p) [.Call (.Name "set" p2) [a] [] q] [] pos) (tUn (rLenSetG X.K) te) := ⟨fun pins s σ H Q I h => by
  refine Call_ (ld_blt I hg hm boot_len ?_)
  refine PyProof.Rows.callWith_builtin1 (PyProof.Rows.args_cons ?_ rfl) rfl rfl
  refine Call_ (ld_blt I hg2 hm2 boot_set ?_)
  refine PyProof.Rows.callWith_type1 (PyProof.Rows.args_cons (thn (ha.run pins s σ H _ I h) fun v s1 ⟨x, H1, I1, r1, q1⟩ => PyProof.Rows.args_nil ?_) na) na rfl
  obtain ⟨l, ns, rfl, hq, hl, q1⟩ := q1
  cases r1
  obtain ⟨its, r, pl, hz⟩ := I1.list hq
  have hlen : its.toArray.size = ns.length := by rw [List.size_toArray, ← r.length, List.length_map]
  have hle := PyProof.Rows.firstMet_length_le (fun i => ns.getD i 0) ns.length
  refine call_set_list (I1.ok.hd hc) pl.isList (by simpa using RZ.intsAre_vals r) (by rw [hlen]; unfold scanBound; omega) fun h' tk hS hk => ?_
  refine PyProof.Rows.args_nil ?_
  rw [hlen] at hS
  obtain ⟨o, es, ep, t, ho, hex, hd, _, _, _, hf, hn⟩ := hS
  have I2 : Inv X pins σ H1 { s1 with heap := h', toks := tk } := I1.kept fun b o e => hk b o (Heap.lt_size e) e
  exact call_len_set ho hex hd hf (by rw [hn]; omega) ⟨.int (metN ns : Nat), H1, I2.tok _, ⟨_, by rw [hn]; rfl⟩, q1⟩⟩
theorem d_lenSetG : Op1 g (rLenSetG g.K) rL rD fLenSetG := op1_of fun x d v H0 Hb H Q e s q k => by
  obtain ⟨ns, e1, e⟩ := Option.bind_eq_some_iff.mp e
  split at e
  · rename_i hn
    cases e
    have hn := of_decide_eq_true hn
    obtain ⟨a, vs, rfl, h1, h2⟩ := q
    cases toIs_some e1
    cases Reps.ints h2
    exact ⟨a, ns, rfl, SqL.of h1, hn, k _ (rep_int.mpr rfl)⟩
  · cases e
end
end Z

set_option maxRecDepth 100000
namespace Z
open PySem PySem.Spec PyProof.Rows L2

/-! ### trees known: plain mathematics -/
theorem nodup_cover : ∀ (l1 l2 : List Nat), l1.Nodup → (∀ x ∈ l1, x ∈ l2) → l2.length ≤ l1.length → l2.Nodup
  | [], l2, _, _, h => by
    have : l2 = [] := List.length_eq_zero_iff.mp (by simpa using h)
    subst this
    exact .nil
  | x :: l1, l2, nd, hs, h => by
    obtain ⟨s, t, rfl⟩ := List.append_of_mem (hs x (by simp))
    obtain ⟨nx, nd1⟩ := List.nodup_cons.mp nd
    have sub : ∀ y ∈ l1, y ∈ s ++ t := fun y hy => by
      have := hs y (List.mem_cons_of_mem _ hy)
      rcases List.mem_append.mp this with z | z
      · exact List.mem_append_left _ z
      · rcases List.mem_cons.mp z with z | z
        · subst z; exact absurd hy nx
        · exact List.mem_append_right _ z
    have hlen : (s ++ t).length ≤ l1.length := by
      simp only [List.length_append, List.length_cons] at h ⊢
      omega
    have ih := nodup_cover l1 (s ++ t) nd1 sub hlen
    have nin : x ∉ s ++ t := fun z => by
      have := nd.length_le_of_subset (l₂ := s ++ t) fun y hy => by
        rcases List.mem_cons.mp hy with rfl | hy
        · exact z
        · exact sub y hy
      rw [List.length_cons] at this
      omega
    exact (List.perm_middle.nodup_iff).mpr (List.nodup_cons.mpr ⟨nin, ih⟩)
theorem metN_nodup {ns : List Int} (h : ns.Nodup) : metN ns = ns.length := by
  unfold metN
  rw [RZ.firstMet_nodup h ns.length (Nat.le_refl _), List.take_length]
theorem range_getD (ns : List Int) : ∀ i, i ≤ ns.length → (List.range i).map (fun i => ns.getD i 0) = ns.take i
  | 0, _ => rfl
  | i + 1, h => by
    rw [List.range_succ, List.map_append, range_getD ns i (by omega), List.take_add_one, List.getElem?_eq_getElem h]
    simp [List.getD_eq_getElem?_getD, List.getElem?_eq_getElem h]
theorem met_take {ns : List Int} : ∀ i, i ≤ ns.length → (PyProof.Rows.firstMet (fun i => ns.getD i 0) i).length = i → (ns.take i).Nodup
  | 0, _, _ => by rw [List.take_zero]; exact .nil
  | i + 1, hi, h => by
    have hle := PyProof.Rows.firstMet_length_le (fun i => ns.getD i 0) i
    rw [PyProof.Rows.firstMet_succ, PyProof.Rows.step_length] at h
    split at h
    · omega
    · rename_i c
      have ih := met_take (ns := ns) i (by omega) (by omega)
      rw [PyProof.Rows.firstMet_any, range_getD ns i (by omega)] at c
      have hx : ns.getD i 0 = ns[i] := by
        rw [List.getD_eq_getElem?_getD, List.getElem?_eq_getElem hi]
        rfl
      rw [List.take_add_one, List.getElem?_eq_getElem hi]
      refine List.nodup_append.mpr ⟨ih, by simp, fun a ha b hb => ?_⟩
      have hb : b = ns[i] := by simpa using hb
      subst hb
      intro z
      refine c (List.any_eq_true.mpr ⟨a, ha, ?_⟩)
      rw [hx, z]
      simp
theorem metN_iff (ns : List Int) : metN ns = ns.length ↔ ns.Nodup := ⟨fun h => by
  have := met_take (ns := ns) ns.length (Nat.le_refl _) h
  rwa [List.take_length] at this, metN_nodup⟩
theorem nodup_cast {ns : List Nat} : (ns.map fun (n : Nat) => (n : Int)).Nodup ↔ ns.Nodup := by
  unfold List.Nodup
  rw [List.pairwise_map]
  exact ⟨fun h => h.imp fun q z => q (by omega), fun h => h.imp fun q z => q (by omega)⟩
theorem fLenSetG_ns {ns : List Nat} (h3 : ns.length ≤ 4000) : ∃ m : Nat, fLenSetG (dNs ns) = some (dInt m) ∧ (m = ns.length ↔ ns.Nodup) := by
  refine ⟨metN (ns.map fun (n : Nat) => (n : Int)), ?_, ?_⟩
  · unfold fLenSetG
    have e : dNs ns = (ns.map fun (n : Nat) => (n : Int)).map D.int := by unfold dNs; rw [List.map_map]; rfl
    rw [e, toIs_map, Option.bind_some]
    rw [if_pos (decide_eq_true (by simpa using h3))]
    rfl
  · rw [← nodup_cast, ← metN_iff, List.length_map]
theorem lawWet_full {n : Nat} {es : List (Nat × Nat)} (h0 : 0 < n) (he : ∀ e ∈ es, e.2 < n) : (lawWet n es).length = n ↔ ∀ v, v < n → Rch es v := ⟨fun h v hv => by
  unfold lawWet at h
  rw [(srtN_perm _).length_eq] at h
  obtain ⟨nd, lt⟩ := lw_nodup h0 he
  exact (lw_iff h0 he).mp (full_of_len nd lt h hv), lawWet_len h0 he⟩
/-- what the program asks of a set of pipes -/
def treeB (n : Nat) (ps : List P3) (l : List Nat) : Bool := l.all (fun k => (pAt ps k).2.2) && (decide (l.length = n - 1) && (List.range n).all fun v => someAt (wet n (l.map (opOf ps))) v)
theorem prs_op (ps : List P3) (l : List Nat) : prs (l.map (opOf ps)) = edgesOf ps l := by
  unfold prs edgesOf
  rw [List.map_map]
  rfl
theorem treeB_iff {n : Nat} {ps : List P3} {l : List Nat} (hn : okNet n ps) (nd : l.Nodup) (lt : ∀ k ∈ l, k < ps.length) : treeB n ps l = true ↔ TreeOk n ps (srtN l) := by
  have hn0 := hn.1
  have hp := srtN_perm l
  have hlt : ∀ e ∈ l.map (opOf ps), e.2.2 < n := fun e he => by
    obtain ⟨k, hk, rfl⟩ := List.mem_map.mp he
    exact (hn.pip _ (pAt_mem (lt k hk))).2.1
  have hw : ∀ v, someAt (wet n (l.map (opOf ps))) v = true ↔ Rch (edgesOf ps l) v := fun v => by rw [wet_iff (by omega) hlt, prs_op]
  have hpe : (edgesOf ps (srtN l)).Perm (edgesOf ps l) := hp.map _
  unfold treeB
  rw [Bool.and_eq_true, Bool.and_eq_true, List.all_eq_true, List.all_eq_true, decide_eq_true_iff]
  constructor
  · rintro ⟨h1, h2, h3⟩
    have rch : ∀ v, v < n → Rch (edgesOf ps l) v := fun v hv => (hw v).mp (h3 v (List.mem_range.mpr hv))
    refine ⟨((srtN_pairwise _).and (hp.nodup_iff.mpr nd)).imp fun h => Nat.lt_of_le_of_ne h.1 h.2, fun k hk => lt k (hp.mem_iff.mp hk), fun k hk => h1 k (hp.mem_iff.mp hk), by rw [hp.length_eq, h2], ?_, fun v hv => (rch v hv).perm hpe.symm⟩
    refine ((hp.map _).nodup_iff).mpr ?_
    refine nodup_cover (List.range' 1 (n - 1)) _ List.nodup_range' (fun v hv => ?_) (by rw [List.length_map, List.length_range', h2]; exact Nat.le_refl _)
    rw [List.mem_range'_1] at hv
    have r := rch v (by omega)
    cases r with
    | zero => omega
    | step _ he =>
      obtain ⟨k, hk, e⟩ := List.mem_map.mp he
      cases e
      exact List.mem_map.mpr ⟨k, hk, rfl⟩
  · intro T
    refine ⟨fun k hk => T.opn k (hp.mem_iff.mpr hk), by rw [← hp.length_eq]; exact T.len, fun v hv => ?_⟩
    exact (hw v).mpr ((T.rch v (List.mem_range.mp hv)).perm hpe)
theorem fIn_here (here : Here) : fIn true .non (dHere here) = some (.bl (here.all (·.isSome))) := by
  have h1 : (dHere here).all scalD = true := by
    unfold dHere
    rw [List.all_map, List.all_eq_true]
    intro o _
    cases o <;> rfl
  have h2 : (dHere here).any (fun y => eqF y .non) = !(here.all (·.isSome)) := by
    unfold dHere
    rw [List.any_map, List.not_all_eq_any_not]
    congr 1
    funext o
    cases o <;> rfl
  unfold fIn inD
  rw [h1, h2]
  show some (D.bl (!(!(here.all (·.isSome))))) = _
  rw [Bool.not_not]
theorem here_all {n : Nat} {here : Here} (h : here.length = n) : here.all (·.isSome) = (List.range n).all fun v => someAt here v := by
  rw [Bool.eq_iff_iff, List.all_eq_true, List.all_eq_true]
  constructor
  · intro a v hv
    rw [someAt_hAt]
    exact a _ (List.mem_of_getElem? (hAt_some (by rw [h]; exact List.mem_range.mp hv)))
  · intro a o ho
    obtain ⟨v, hv⟩ := List.getElem?_of_mem ho
    have hl := (List.getElem?_eq_some_iff.mp hv).1
    have := a v (List.mem_range.mpr (by omega))
    rw [someAt_hAt] at this
    have e := hAt_some hl
    rw [hv] at e
    cases e
    exact this
theorem wet_len {n : Nat} {es : List O3} (h0 : 0 < n) (he : ∀ e ∈ es, e.2.2 < n) : (wet n es).length = n := (wet_ok h0 he).len

/-! ### is_tree -/
def badI (m : Nat) (i : Int) : Prop := i < 0 ∨ (m : Int) ≤ i
instance (m : Nat) (i : Int) : Decidable (badI m i) := by unfold badI; infer_instance
def F_is_tree : FN
  | [.net _ s ds, .val (.lst fs)] => (unNet s ds).bind fun x => (toIs fs).bind fun is => if is.length ≤ 900 then some (if ∃ i ∈ is, badI x.2.length i then .inr .pipe else .inl (.val (.bl (treeB x.1 x.2 (is.map Int.toNat))))) else none
  | _ => none
theorem F_isTree_bad {md : Md} {n : Nat} {ps : List P3} {is : List Int} (hn : okNet n ps) (hl : is.length ≤ 900) (hb : ∃ i ∈ is, badI ps.length i) : F_is_tree [.net md (n : Int) (dPs ps), .val (.lst (is.map .int))] = some (.inr .pipe) := by
  show (unNet _ _).bind _ = _
  rw [unNet_of hn, Option.bind_some, toIs_map, Option.bind_some, if_pos hl, if_pos hb]
theorem dNs_ints (l : List Nat) : dNs l = (l.map fun (n : Nat) => (n : Int)).map D.int := by unfold dNs; rw [List.map_map]; rfl
theorem F_isTree_ok {md : Md} {n : Nat} {ps : List P3} {l : List Nat} (hn : okNet n ps) (hl : l.length ≤ 900) (hb : ∀ k ∈ l, k < ps.length) : F_is_tree [.net md (n : Int) (dPs ps), .val (.lst (dNs l))] = some (.inl (.val (.bl (treeB n ps l)))) := by
  show (unNet _ _).bind _ = _
  rw [unNet_of hn, Option.bind_some, dNs_ints, toIs_map, Option.bind_some, if_pos (by simpa using hl), if_neg ?_, List.map_map]
  · have : (Int.toNat ∘ fun (n : Nat) => (n : Int)) = id := by funext k; simp
    rw [this, List.map_id]
  · rintro ⟨i, hi, hb'⟩
    obtain ⟨k, hk, rfl⟩ := List.mem_map.mp hi
    have := hb k hk
    have hb' : badI ps.length (k : Int) := hb'
    unfold badI at hb'
    omega
/-- is_tree: 0 net 1 pipes 2 number 3 laid -/
def t_is_tree : VT := (seqT (forT (v1 dL (vVar 1)) (gN 2) (seqT (exprX (xMeth 2 F_see_pipe 0 (rV (vVar 2) rNil))) skipT)) (seqT (asgV 3 (v1 slD (v1 inlO (xMeth 1 F_pipes 0 rNil)))) (seqT (forT (v1 dL (vVar 1)) (gN 2) (seqT (ifT (bNot (bV (v2 fIx (v2 fIx (vVar 3) (vVar 2)) (vC (.int 2))))) (seqT (retV (vC (.bl false))) skipT) skipT) skipT)) (seqT (ifT (bV (v2 fNe (v1 fLenL (lVar 1)) (v2 fSub (v1 slD (v1 inlO (xMeth 1 F_size 0 rNil))) (vC (.int 1))))) (seqT (retV (vC (.bl false))) skipT) skipT) (seqT (retV (v2 (fIn true) (vC .non) (v1 slL (v1 inlO (xCall 2 F_wet (rV (v1 slD (v1 inlO (xMeth 1 F_size 0 rNil))) (rV (v1 slD (vLc [2] (lVar 1) (gN 2) bT (vTup (aCons (vVar 2) (aCons (v2 fIx (v2 fIx (vVar 3) (vVar 2)) (vC (.int 0))) (aCons (v2 fIx (v2 fIx (vVar 3) (vVar 2)) (vC (.int 1))) aNil)))))) rNil))))))) skipT)))))
theorem v_is_tree : ∀ ss r, ss.length = 2 → F_is_tree ss = some r → t_is_tree (postP r) (En0 ss 4) := by
  intro ss r hl h
  unfold F_is_tree at h
  split at h
  · rename_i md s ds fs
    obtain ⟨x, e1, h1⟩ := Option.bind_eq_some_iff.mp h
    obtain ⟨is, e2, h2⟩ := Option.bind_eq_some_iff.mp h1
    clear h h1
    split at h2
    · rename_i hlen
      have h4 := Option.some.inj h2
      clear h2
      subst h4
      obtain ⟨rfl, rfl, hn⟩ := unNet_some e1
      cases toIs_some e2
      clear e1 e2
      obtain ⟨n, ps⟩ := x
      simp only at hn ⊢
      have hn0 := hn.1
      have hn1 := hn.2.1
      have hn2 := hn.2.2.2
      refine ⟨is.map .int, rfl, ?_⟩
      have see : ∀ {Γ : En} {i : Int}, Γ[0]? = some (some (.net md (n : Int) (dPs ps))) → Γ[2]? = some (some (.val (.int i))) → xMeth 2 F_see_pipe 0 (rV (vVar 2) rNil) Γ = some (if i < 0 ∨ ((dPs ps).length : Int) ≤ i then .inr .pipe else .inl (.val .non)) := fun {Γ i} h0 h2 => by
        refine xm (by unfold netAt; rw [h0]) (xc (rSe h0 (rVe (d := .int i) (by unfold vVar; rw [h2]) rfl)) ⟨rfl, rfl⟩ (by simp only [arSls, arSl, h0]; rfl) rfl)
      by_cases hb : ∃ i ∈ is, badI ps.length i
      · rw [if_pos hb]
        refine loopT_inv (enc := D.int) (fun rest Γ => ∃ v2 v3 : Option Sl, (∃ i ∈ rest, badI ps.length i) ∧ Γ = [some (.net md (n : Int) (dPs ps)), some (.val (.lst (is.map .int))), v2, v3]) ?_ ?_ is _ ⟨none, none, hb, rfl⟩
        · rintro i rest Γ kk ⟨v2, v3, hr, rfl⟩ hk
          refine ⟨_, rfl, ?_⟩
          refine ⟨_, see rfl rfl, ?_⟩
          rw [dPs_len]
          by_cases c : i < 0 ∨ (ps.length : Int) ≤ i
          · rw [if_pos c]
            exact rfl
          · rw [if_neg c]
            refine hk _ ⟨_, v3, ?_, rfl⟩
            obtain ⟨j, hj, hbj⟩ := hr
            rcases List.mem_cons.mp hj with rfl | hj
            · exact absurd hbj c
            · exact ⟨j, hj, hbj⟩
        · rintro Γ ⟨v2, v3, ⟨i, hi, _⟩, rfl⟩
          cases hi
      · rw [if_neg hb]
        have good : ∀ i ∈ is, ¬ (i < 0 ∨ (ps.length : Int) ≤ i) := fun i hi c => hb ⟨i, hi, c⟩
        obtain ⟨l, rfl⟩ : ∃ l : List Nat, is = l.map fun (k : Nat) => (k : Int) := ⟨is.map Int.toNat, by
          rw [List.map_map]
          conv => lhs; rw [← List.map_id is]
          refine List.map_congr_left fun i hi => ?_
          have := good i hi
          show i = ((i.toNat : Nat) : Int)
          omega⟩
        have lt : ∀ k ∈ l, k < ps.length := fun k hk => by
          have := good k (List.mem_map.mpr ⟨k, hk, rfl⟩)
          omega
        have eid : (l.map fun (k : Nat) => (k : Int)).map Int.toNat = l := by
          rw [List.map_map]
          have : (Int.toNat ∘ fun (n : Nat) => (n : Int)) = id := by funext k; simp
          rw [this, List.map_id]
        rw [eid]
        rw [← dNs_ints]
        rw [List.length_map] at hlen
        refine loopT_inv (enc := dInt) (fun rest Γ => ∃ v2 : Option Sl, (∀ k ∈ rest, k ∈ l) ∧ Γ = [some (.net md (n : Int) (dPs ps)), some (.val (.lst (dNs l))), v2, none]) ?_ ?_ l _ ⟨none, fun _ h => h, rfl⟩
        · rintro k rest Γ kk ⟨v2, hr, rfl⟩ hk
          refine ⟨_, rfl, ?_⟩
          refine ⟨_, see (i := (k : Int)) rfl rfl, ?_⟩
          have := lt k (hr k (by simp))
          rw [dPs_len, if_neg (by omega)]
          exact hk _ ⟨_, fun a ha => hr a (List.mem_cons_of_mem _ ha), rfl⟩
        · rintro Γ ⟨v2, _, rfl⟩
          refine ⟨.lst (dPs ps), v1e (v1e (xm rfl (xc rfl ⟨rfl, rfl⟩ rfl rfl)) rfl) rfl, ?_⟩
          refine ⟨dNs l, rfl, ?_⟩
          have ix2 : ∀ {k : Nat} {v2 : Option Sl}, k ∈ l → v2 = some (.val (dInt k)) → v2 = v2 → (bNot (bV (Z.v2 fIx (Z.v2 fIx (vVar 3) (vVar 2)) (vC (.int 2))))) [some (.net md (n : Int) (dPs ps)), some (.val (.lst (dNs l))), some (.val (dInt k)), some (.val (.lst (dPs ps)))] = some (!(pAt ps k).2.2) := fun {k v2} hk _ _ => by
            have := ixP2 (ixP (Γ := [some (.net md (n : Int) (dPs ps)), some (.val (.lst (dNs l))), some (.val (dInt k)), some (.val (.lst (dPs ps)))]) (f := vVar 3) (h := vVar 2) (ps := ps) (k := k) rfl rfl (lt k hk))
            unfold bNot
            rw [bVe this]
            rfl
          by_cases ho : ∀ k ∈ l, (pAt ps k).2.2 = true
          · refine loopT_inv (enc := dInt) (fun rest Γ => ∃ v2 : Option Sl, (∀ k ∈ rest, k ∈ l) ∧ Γ = [some (.net md (n : Int) (dPs ps)), some (.val (.lst (dNs l))), v2, some (.val (.lst (dPs ps)))]) ?_ ?_ l _ ⟨v2, fun _ h => h, rfl⟩
            · rintro k rest Γ kk ⟨v2, hr, rfl⟩ hk
              refine ⟨_, rfl, ?_⟩
              have hkl := hr k (by simp)
              refine if_f ((ix2 (v2 := some (.val (dInt k))) hkl rfl rfl).trans (by rw [ho k hkl]; rfl)) ?_
              exact hk _ ⟨_, fun a ha => hr a (List.mem_cons_of_mem _ ha), rfl⟩
            · rintro Γ ⟨v2, _, rfl⟩
              refine if_d (p := (l.length : Int) ≠ (n : Int) - 1) (bVe (v2e (x := dInt l.length) (y := .int ((n : Int) - 1)) (lenNs rfl) (v2e (v1e (v1e (xm rfl (xc rfl ⟨rfl, rfl⟩ rfl rfl)) rfl) rfl) rfl rfl) (fNe_int (a := (l.length : Int)) (b := (n : Int) - 1)))) (fun c => ?_) (fun c => ?_)
              · refine ⟨_, rfl, ?_⟩
                have : treeB n ps l = false := by
                  unfold treeB
                  rw [decide_eq_false (by omega)]
                  simp
                rw [this]
                rfl
              · have hlt : ∀ e ∈ l.map (opOf ps), e.2.1 < n ∧ e.2.2 < n := fun e he => by
                  obtain ⟨k, hk, rfl⟩ := List.mem_map.mp he
                  have := hn.pip _ (pAt_mem (lt k hk))
                  exact ⟨this.1, this.2.1⟩
                have hT : treeB n ps l = (wet n (l.map (opOf ps))).all (·.isSome) := by
                  rw [here_all (wet_len (by omega) fun e he => (hlt e he).2)]
                  unfold treeB
                  rw [show l.all (fun k => (pAt ps k).2.2) = true from List.all_eq_true.mpr ho, decide_eq_true (by omega)]
                  rfl
                refine ⟨.bl (treeB n ps l), ?_, rfl⟩
                rw [hT]
                refine v2e (x := .non) (y := dHere (wet n (l.map (opOf ps)))) rfl (v1e (v1e (x := .inl (.own .loc (dHere (wet n (l.map (opOf ps)))))) (xc (rVe (v1e (v1e (xm rfl (xc rfl ⟨rfl, rfl⟩ rfl rfl)) rfl) rfl) (rVe (v1e (vlc_map (enc := dInt) (xs := l) (h := fun k => dO3 (opOf ps k)) rfl (by omega) fun k hk => lcS1 rfl rfl ?_) rfl) rfl)) ⟨rfl, rfl⟩ rfl ?_) rfl) rfl) (fIn_here _)
                · have e := ixP (Γ := [some (.net md (n : Int) (dPs ps)), some (.val (.lst (dNs l))), some (.val (dInt k)), some (.val (.lst (dPs ps)))]) (f := vVar 3) (h := vVar 2) (ps := ps) (k := k) rfl rfl (lt k hk)
                  unfold vTup
                  rw [show (aCons (vVar 2) (aCons (Z.v2 fIx (Z.v2 fIx (vVar 3) (vVar 2)) (vC (.int 0))) (aCons (Z.v2 fIx (Z.v2 fIx (vVar 3) (vVar 2)) (vC (.int 1))) aNil))) _ = some [dInt k, dInt (pAt ps k).1, dInt (pAt ps k).2.1] from by
                    unfold aCons
                    exact Option.bind_eq_some_iff.mpr ⟨dInt k, rfl, Option.bind_eq_some_iff.mpr ⟨_, Option.bind_eq_some_iff.mpr ⟨_, ixP0 e, Option.bind_eq_some_iff.mpr ⟨_, Option.bind_eq_some_iff.mpr ⟨_, ixP1 e, Option.bind_eq_some_iff.mpr ⟨_, rfl, rfl⟩⟩, rfl⟩⟩, rfl⟩⟩]
                  rfl
                · have := F_wetE (s := n) (es := l.map (opOf ps)) hn0 (by omega) hlt
                  unfold dOs at this
                  rw [List.map_map] at this
                  exact this
          · have hex : ∃ k ∈ l, (pAt ps k).2.2 = false := by
              refine Decidable.byContradiction fun z => ho fun k hk => ?_
              cases e : (pAt ps k).2.2 with
              | true => rfl
              | false => exact absurd ⟨k, hk, e⟩ z
            have hT : treeB n ps l = false := by
              obtain ⟨k, hk, e⟩ := hex
              unfold treeB
              rw [show l.all (fun k => (pAt ps k).2.2) = false from by
                rw [List.all_eq_false]
                exact ⟨k, hk, by rw [e]; simp⟩]
              rfl
            rw [hT]
            refine loopT_inv (enc := dInt) (fun rest Γ => ∃ v2 : Option Sl, (∀ k ∈ rest, k ∈ l) ∧ (∃ k ∈ rest, (pAt ps k).2.2 = false) ∧ Γ = [some (.net md (n : Int) (dPs ps)), some (.val (.lst (dNs l))), v2, some (.val (.lst (dPs ps)))]) ?_ ?_ l _ ⟨v2, fun _ h => h, hex, rfl⟩
            · rintro k rest Γ kk ⟨v2, hr, he, rfl⟩ hk
              refine ⟨_, rfl, ?_⟩
              have hkl := hr k (by simp)
              refine if_b (b := !(pAt ps k).2.2) (ix2 (v2 := some (.val (dInt k))) hkl rfl rfl) (fun _ => ⟨_, rfl, rfl⟩) (fun c => hk _ ⟨_, fun a ha => hr a (List.mem_cons_of_mem _ ha), ?_, rfl⟩)
              obtain ⟨j, hj, ej⟩ := he
              rcases List.mem_cons.mp hj with rfl | hj
              · rw [ej] at c; cases c
              · exact ⟨j, hj, ej⟩
            · rintro Γ ⟨v2, _, ⟨k, hk, _⟩, rfl⟩
              cases hk
    · cases h2
  · cases h
end Z

set_option maxRecDepth 100000
namespace Z
open PySem PySem.Spec PyProof.Rows L2

/-! ### the law's own trees -/
open Classical in
noncomputable def F_law_is_tree_k08 : FN
  | [.val (.lst es), .val (.int s), .val (.lst ds)] => (decs es : Option (List Nat)).bind fun l => (unNet s ds).bind fun x => if l.Pairwise (· < ·) ∧ (∀ k ∈ l, k < x.2.length) then some (.inl (.val (.bl (decide (TreeOk x.1 x.2 l))))) else none
  | _ => none
open Classical in
theorem F_isTree8 {n : Nat} {ps : List P3} {l : List Nat} (hn : okNet n ps) (h1 : l.Pairwise (· < ·)) (h2 : ∀ k ∈ l, k < ps.length) : F_law_is_tree_k08 [.val (.lst (dNs l)), .val (.int (n : Int)), .val (.lst (dPs ps))] = some (.inl (.val (.bl (decide (TreeOk n ps l))))) := by
  show (decs (dNs l)).bind _ = _
  rw [decs_dNs, Option.bind_some, unNet_of hn, Option.bind_some]
  exact ite_some ⟨h1, h2⟩
/-- _law_is_tree: 0 found 1 size 2 pipes 3 number -/
def t_law_is_tree_k08 : VT := (seqT (ifT (bOr (bNot (bV (v1 slD (v1 inlO (xCall 2 F_law_rising (rV (vVar 0) (rV (v1 fLenL (lVar 2)) rNil))))))) (bV (v2 fNe (v1 fLenL (lVar 0)) (v2 fSub (vVar 1) (vC (.int 1)))))) (seqT (retV (vC (.bl false))) skipT) skipT) (seqT (forT (v1 dL (vVar 0)) (gN 3) (seqT (ifT (bNot (bV (v2 fIx (v2 fIx (vVar 2) (vVar 3)) (vC (.int 2))))) (seqT (retV (vC (.bl false))) skipT) skipT) skipT)) (seqT (ifT (bV (v2 fNe (v1 fLenSetG (v1 slL (vLc [3] (lVar 0) (gN 3) bT (v2 fIx (v2 fIx (vVar 2) (vVar 3)) (vC (.int 1)))))) (v2 fSub (vVar 1) (vC (.int 1))))) (seqT (retV (vC (.bl false))) skipT) skipT) (seqT (retV (v2 fEq (v1 fLenL (v1 slL (v1 inlO (xCall 2 F_law_wet (rV (vVar 1) (rV (v1 slD (vLc [3] (lVar 0) (gN 3) bT (vTup (aCons (v2 fIx (v2 fIx (vVar 2) (vVar 3)) (vC (.int 0))) (aCons (v2 fIx (v2 fIx (vVar 2) (vVar 3)) (vC (.int 1))) aNil))))) rNil)))))) (vVar 1))) skipT))))
open Classical in
theorem v_law_is_tree_k08 : ∀ ss r, ss.length = 3 → F_law_is_tree_k08 ss = some r → t_law_is_tree_k08 (postP r) (En0 ss 4) ∧ ∃ s, r = .inl s := by
  intro ss r hl h
  unfold F_law_is_tree_k08 at h
  split at h
  · rename_i es s ds
    obtain ⟨l, e1, h1⟩ := Option.bind_eq_some_iff.mp h
    obtain ⟨x, e2, h2⟩ := Option.bind_eq_some_iff.mp h1
    clear h h1
    split at h2
    · rename_i hc
      have h4 := Option.some.inj h2
      clear h2
      subst h4
      cases dNs_some e1
      obtain ⟨rfl, rfl, hn⟩ := unNet_some e2
      clear e1 e2
      obtain ⟨n, ps⟩ := x
      simp only at hn hc ⊢
      obtain ⟨srt, lt⟩ := hc
      have hn0 := hn.1
      have hn1 := hn.2.1
      have hn2 := hn.2.2.2
      have hln : l.length ≤ ps.length := nodup_lt_len (srt.imp fun h => Nat.ne_of_lt h) lt
      refine ⟨?_, _, rfl⟩
      have no : ∀ {Q : Out → Prop} {Γ : En}, ¬ TreeOk n ps l → (Q (.rt (.val (.bl (decide (TreeOk n ps l)))) Γ)) → Q (.rt (.val (.bl false)) Γ) := fun {Q Γ} c q => by rw [decide_eq_false c] at q; exact q
      refine if_d (p := (¬ True) ∨ ((l.length : Int) ≠ (n : Int) - 1)) (bOr_d (bNot_d (bVe (v1e (v1e (xc (rVe rfl (rVe (lenPs rfl) rfl)) ⟨rfl, rfl⟩ rfl (F_rising lt srt (by omega))) rfl) rfl))) fun _ => bVe (v2e (x := dInt l.length) (y := .int ((n : Int) - 1)) (lenNs rfl) rfl (fNe_int (a := (l.length : Int)) (b := (n : Int) - 1)))) (fun c => ?_) (fun c => ?_)
      · exact ⟨_, rfl, no (fun T => by have := T.len; rcases c with c | c; exact c trivial; omega) rfl⟩
      have hlen : l.length = n - 1 := Decidable.byContradiction fun z => c (.inr (by omega))
      refine ⟨dNs l, rfl, ?_⟩
      have ix2 : ∀ {k : Nat}, k ∈ l → (bNot (bV (v2 fIx (v2 fIx (vVar 2) (vVar 3)) (vC (.int 2))))) [some (.val (.lst (dNs l))), some (.val (.int (n : Int))), some (.val (.lst (dPs ps))), some (.val (dInt k))] = some (!(pAt ps k).2.2) := fun {k} hk => by
        have := ixP2 (ixP (Γ := [some (.val (.lst (dNs l))), some (.val (.int (n : Int))), some (.val (.lst (dPs ps))), some (.val (dInt k))]) (f := vVar 2) (h := vVar 3) (ps := ps) (k := k) rfl rfl (lt k hk))
        unfold bNot
        rw [bVe this]
        rfl
      by_cases ho : ∀ k ∈ l, (pAt ps k).2.2 = true
      · refine loopT_inv (enc := dInt) (fun rest Γ => ∃ (v3 : Option Sl), (∀ k ∈ rest, k ∈ l) ∧ Γ = [some (.val (.lst (dNs l))), some (.val (.int (n : Int))), some (.val (.lst (dPs ps))), v3]) ?_ ?_ l _ ⟨none, fun _ h => h, rfl⟩
        · rintro k rest Γ kk ⟨v3, hr, rfl⟩ hk
          refine ⟨_, rfl, ?_⟩
          have hkl := hr k (by simp)
          refine if_f ((ix2 hkl).trans (by rw [ho k hkl]; rfl)) ?_
          exact hk _ ⟨_, fun a ha => hr a (List.mem_cons_of_mem _ ha), rfl⟩
        · rintro Γ ⟨v3, _, rfl⟩
          obtain ⟨m, em, hm⟩ := fLenSetG_ns (ns := l.map fun k => (pAt ps k).2.1) (by rw [List.length_map]; omega)
          rw [List.length_map] at hm
          refine if_d (p := (m : Int) ≠ (n : Int) - 1) (bVe (v2e (x := dInt m) (y := .int ((n : Int) - 1)) (v1e (x := dNs (l.map fun k => (pAt ps k).2.1)) (v1e (vlc_map (enc := dInt) (xs := l) (h := fun k => dInt (pAt ps k).2.1) rfl (by omega) fun k hk => lcS1 rfl rfl (ixP1 (ixP (ps := ps) (k := k) rfl rfl (lt k hk)))) (by
            unfold dNs
            rw [List.map_map]
            rfl)) em) rfl (fNe_int (a := (m : Int)) (b := (n : Int) - 1)))) (fun c2 => ?_) (fun c2 => ?_)
          · exact ⟨_, rfl, no (fun T => by have := hm.mpr T.gnd; omega) rfl⟩
          · have gnd := hm.mp (by omega)
            have hok : ∀ e ∈ edgesOf ps l, e.2 < n := fun e he => by
              unfold edgesOf at he
              obtain ⟨k, hk, rfl⟩ := List.mem_map.mp he
              exact (hn.pip _ (pAt_mem (lt k hk))).2.1
            have hfull := lawWet_full (n := n) (es := edgesOf ps l) (by omega) hok
            have hT : TreeOk n ps l ↔ (lawWet n (edgesOf ps l)).length = n := ⟨fun T => hfull.mpr T.rch, fun q => ⟨srt, lt, ho, hlen, gnd, hfull.mp q⟩⟩
            refine ⟨.bl (decide ((lawWet n (edgesOf ps l)).length = n)), v2e (x := dInt (lawWet n (edgesOf ps l)).length) (y := dInt n) (v1e (x := dNs (lawWet n (edgesOf ps l))) (v1e (v1e (x := .inl (.own .loc (dNs (lawWet n (edgesOf ps l))))) (xc (rVe rfl (rVe (v1e (vlc_map (enc := dInt) (xs := l) (h := fun k => dE ((pAt ps k).1, (pAt ps k).2.1)) rfl (by omega)
              fun k hk => lcS1 rfl rfl (edges_e rfl rfl (lt k hk))) rfl) rfl)) ⟨rfl, rfl⟩ rfl ?_) rfl) rfl) ?_) rfl (fEq_nat _ _), ?_⟩
            · show F_law_wet [.val (.int (n : Int)), .val (.lst (l.map fun k => dE ((pAt ps k).1, (pAt ps k).2.1)))] = _
              have := F_wetL (s := n) (es := edgesOf ps l) (by omega) (by unfold edgesOf; rw [List.length_map]; omega)
              unfold dEs edgesOf at this
              rw [List.map_map] at this
              exact this
            · show some (D.int ((dNs (lawWet n (edgesOf ps l))).length : Int)) = _
              rw [dNs_len]
              rfl
            · show (Sum.inl (Sl.val (D.bl (decide (TreeOk n ps l)))) : Rs) = _
              rw [show decide (TreeOk n ps l) = decide ((lawWet n (edgesOf ps l)).length = n) from decide_eq_decide.mpr hT]
      · have hex : ∃ k ∈ l, (pAt ps k).2.2 = false := by
          refine Decidable.byContradiction fun z => ho fun k hk => ?_
          cases e : (pAt ps k).2.2 with
          | true => rfl
          | false => exact absurd ⟨k, hk, e⟩ z
        have hT : ¬ TreeOk n ps l := fun T => ho T.opn
        refine loopT_inv (enc := dInt) (fun rest Γ => ∃ (v3 : Option Sl), (∀ k ∈ rest, k ∈ l) ∧ (∃ k ∈ rest, (pAt ps k).2.2 = false) ∧ Γ = [some (.val (.lst (dNs l))), some (.val (.int (n : Int))), some (.val (.lst (dPs ps))), v3]) ?_ ?_ l _ ⟨none, fun _ h => h, hex, rfl⟩
        · rintro k rest Γ kk ⟨v3, hr, he, rfl⟩ hk
          refine ⟨_, rfl, ?_⟩
          have hkl := hr k (by simp)
          refine if_b (b := !(pAt ps k).2.2) (ix2 hkl) (fun _ => ⟨_, rfl, no hT rfl⟩) (fun c => hk _ ⟨_, fun a ha => hr a (List.mem_cons_of_mem _ ha), ?_, rfl⟩)
          obtain ⟨j, hj, ej⟩ := he
          rcases List.mem_cons.mp hj with rfl | hj
          · rw [ej] at c; cases c
          · exact ⟨j, hj, ej⟩
        · rintro Γ ⟨v3, _, ⟨k, hk, _⟩, rfl⟩
          cases hk
    · cases h2
  · cases h
def F_law_no_pipe : FN
  | [.net _ s ds, .val (.lst fs)] => (unNet s ds).bind fun x => (toIs fs).bind fun is => if is.length ≤ 900 ∧ ∃ i ∈ is, badI x.2.length i then some (.inl (.val (.bl true))) else none
  | _ => none
theorem F_noPipe {md : Md} {n : Nat} {ps : List P3} {is : List Int} (hn : okNet n ps) (hl : is.length ≤ 900) (hb : ∃ i ∈ is, badI ps.length i) : F_law_no_pipe [.net md (n : Int) (dPs ps), .val (.lst (is.map .int))] = some (.inl (.val (.bl true))) := by
  show (unNet _ _).bind _ = _
  rw [unNet_of hn, Option.bind_some, toIs_map, Option.bind_some]
  exact ite_some ⟨hl, hb⟩
/-- _law_no_pipe: 0 net 1 pipes 2 refused -/
def t_law_no_pipe : VT := (seqT (asgV 2 (vC (.bl false))) (seqT (tryT (ctL [.pipe]) (seqT (exprX (xCall 2 F_is_tree (rS 0 (rV (vVar 1) rNil)))) skipT) (seqT (asgV 2 (vC (.bl true))) skipT)) (seqT (retV (vVar 2)) skipT)))
theorem v_law_no_pipe : ∀ ss r, ss.length = 2 → F_law_no_pipe ss = some r → t_law_no_pipe (postP r) (En0 ss 3) ∧ ∃ s, r = .inl s := by
  intro ss r hl h
  unfold F_law_no_pipe at h
  split at h
  · rename_i md s ds fs
    obtain ⟨x, e1, h1⟩ := Option.bind_eq_some_iff.mp h
    obtain ⟨is, e2, h2⟩ := Option.bind_eq_some_iff.mp h1
    clear h h1
    split at h2
    · rename_i hc
      have h3 := Option.some.inj h2
      clear h2
      subst h3
      obtain ⟨rfl, rfl, hn⟩ := unNet_some e1
      cases toIs_some e2
      refine ⟨?_, _, rfl⟩
      refine ⟨_, rfl, ?_⟩
      refine ⟨.inr .pipe, xc rfl ⟨rfl, rfl⟩ rfl (F_isTree_bad hn hc.1 hc.2), ?_⟩
      exact ⟨_, rfl, _, rfl, rfl⟩
    · cases h2
  · cases h

/-! ### a set of pipes spoiled -/
def freeOf (m : Nat) (l : List Nat) : List Nat := (List.range m).filter fun k => decide (k ∉ l)
def plc (l : List Nat) (c : Int) : Nat := (c / 5 % ((max 1 l.length : Nat) : Int)).toNat
def pick (o : List Nat) (i : Int) : Nat := oAt o (i % (o.length : Int)).toNat
def spoilO (m : Nat) (l : List Nat) (c : Int) : Option (List Nat) :=
  if c % 5 = 0 then some (l.take (plc l c) ++ l.drop (plc l c + 1))
  else if c % 5 = 1 ∧ 0 < (freeOf m l).length then some (l.take (plc l c) ++ [pick (freeOf m l) (c / 5)] ++ l.drop (plc l c))
  else if c % 5 < 4 ∧ 0 < (freeOf m l).length ∧ 0 < l.length then some (l.take (plc l c) ++ [pick (freeOf m l) (c / 60)] ++ l.drop (plc l c + 1))
  else none
theorem pick_mem {o : List Nat} {i : Int} (h : 0 < o.length) : pick o i ∈ o ∧ ((i % (o.length : Int)).toNat : Int) = i % (o.length : Int) ∧ (i % (o.length : Int)).toNat < o.length := by
  have a1 : 0 ≤ i % (o.length : Int) := Int.emod_nonneg _ (by omega)
  have a2 : i % (o.length : Int) < o.length := Int.emod_lt_of_pos _ (by omega)
  have a3 : (i % (o.length : Int)).toNat < o.length := by omega
  exact ⟨List.mem_of_getElem? (oAt_some a3), by omega, a3⟩
theorem free_mem {m k : Nat} {l : List Nat} : k ∈ freeOf m l ↔ k < m ∧ k ∉ l := by
  unfold freeOf
  rw [List.mem_filter, List.mem_range, decide_eq_true_iff]
theorem nodup_put {l : List Nat} {x p q : Nat} (nd : l.Nodup) (hx : x ∉ l) (hpq : p ≤ q) : (l.take p ++ [x] ++ l.drop q).Nodup := by
  have h1 : (l.take p ++ l.drop q).Nodup := (List.nodup_append.mp (by rw [List.take_append_drop]; exact nd : (l.take q ++ l.drop q).Nodup)).elim fun a b => List.nodup_append.mpr ⟨(List.take_sublist p l).nodup nd, (List.drop_sublist q l).nodup nd, fun y hy z hz => b.2 y ((List.take_sublist_take_left hpq).subset hy) z hz⟩
  rw [List.append_assoc]
  refine (List.perm_middle.nodup_iff).mpr (List.nodup_cons.mpr ⟨fun z => ?_, h1⟩)
  rcases List.mem_append.mp z with z | z
  · exact hx (List.mem_of_mem_take z)
  · exact hx (List.mem_of_mem_drop z)
theorem spoil_ok {m : Nat} {l l' : List Nat} {c : Int} (nd : l.Nodup) (lt : ∀ k ∈ l, k < m) (h : spoilO m l c = some l') : l'.Nodup ∧ (∀ k ∈ l', k < m) ∧ l'.length ≤ l.length + 1 := by
  unfold spoilO at h
  split at h
  · cases h
    have : (l.take (plc l c) ++ l.drop (plc l c + 1)).Sublist l := by
      conv => rhs; rw [← List.take_append_drop (plc l c) l]
      exact List.Sublist.append (List.Sublist.refl _) (List.drop_sublist_drop_left l (by omega))
    exact ⟨this.nodup nd, fun k hk => lt k (this.subset hk), by have := this.length_le; omega⟩
  · split at h
    · rename_i hc
      cases h
      have hp := (pick_mem (i := c / 5) hc.2).1
      rw [free_mem] at hp
      refine ⟨nodup_put nd hp.2 (Nat.le_refl _), fun k hk => ?_, ?_⟩
      · rcases List.mem_append.mp hk with hk | hk
        · rcases List.mem_append.mp hk with hk | hk
          · exact lt k (List.mem_of_mem_take hk)
          · simp at hk; subst hk; exact hp.1
        · exact lt k (List.mem_of_mem_drop hk)
      · simp only [List.length_append, List.length_take, List.length_drop, List.length_singleton]; omega
    · split at h
      · rename_i hc
        cases h
        have hp := (pick_mem (i := c / 60) hc.2.1).1
        rw [free_mem] at hp
        refine ⟨nodup_put nd hp.2 (by omega), fun k hk => ?_, ?_⟩
        · rcases List.mem_append.mp hk with hk | hk
          · rcases List.mem_append.mp hk with hk | hk
            · exact lt k (List.mem_of_mem_take hk)
            · simp at hk; subst hk; exact hp.1
          · exact lt k (List.mem_of_mem_drop hk)
        · simp only [List.length_append, List.length_take, List.length_drop, List.length_singleton]; omega
      · cases h
end Z

set_option maxRecDepth 100000
namespace Z
open PySem PySem.Spec PyProof.Rows L2

theorem takeE {i p : Nat} {Γ : En} {f : VF} {l : List Nat} (h1 : lVar i Γ = some (dNs l)) (h2 : f Γ = some (dInt p)) (h : p ≤ l.length) : v1 slL (vCut cutL (lVar i) pN (pI f)) Γ = some (dNs (l.take p)) := by
  refine v1e (x := .own .loc (dNs (l.take p))) ?_ rfl
  unfold vCut pI pN
  rw [h1, h2]
  show cutL (dNs l) none (some (p : Int)) = _
  unfold cutL
  rw [cut_take _ _ (by rw [dNs_len]; exact h)]
  unfold dNs
  rw [List.map_take]
theorem cut_drop_any {α : Type} (xs : List α) (k : Nat) : cutD xs (some (k : Int)) none = xs.drop k := by
  by_cases h : k ≤ xs.length
  · exact cut_drop xs k h
  · unfold cutD
    rw [HT.sIx_nat, show min k xs.length = xs.length by omega, List.drop_of_length_le (Nat.le_refl _), List.drop_of_length_le (by omega)]
    simp
theorem dropE {i p : Nat} {Γ : En} {f : VF} {l : List Nat} (h1 : lVar i Γ = some (dNs l)) (h2 : f Γ = some (dInt p)) : v1 slL (vCut cutL (lVar i) (pI f) pN) Γ = some (dNs (l.drop p)) := by
  refine v1e (x := .own .loc (dNs (l.drop p))) ?_ rfl
  unfold vCut pI pN
  rw [h1, h2]
  show cutL (dNs l) (some (p : Int)) none = _
  unfold cutL
  rw [cut_drop_any]
  unfold dNs
  rw [List.map_drop]
theorem catE {Γ : En} {f h : VL} {a b : List Nat} (h1 : f Γ = some (dNs a)) (h2 : h Γ = some (dNs b)) (hl : a.length + b.length ≤ 1000000) : v2 fCat f h Γ = some (.own .loc (dNs (a ++ b))) := by
  refine v2e h1 h2 ?_
  unfold fCat
  rw [if_pos (decide_eq_true (by rw [dNs_len, dNs_len]; exact hl))]
  unfold dNs
  rw [List.map_append]
theorem pickE {Γ : En} {f h k : VF} {o : List Nat} {i : Int} (h0 : 0 < o.length) (h1 : f Γ = some (.lst (dNs o))) (h2 : h Γ = some (.int i)) (h3 : k Γ = some (dInt o.length)) : v2 fIx f (v2 fMod h k) Γ = some (dInt (pick o i)) := by
  obtain ⟨p1, p2, p3⟩ := pick_mem (i := i) h0
  exact v2e (x := .lst (dNs o)) (y := .int (((i % (o.length : Int)).toNat : Nat) : Int)) h1 (v2e (y := dInt o.length) h2 h3 (by rw [p2]; exact fMod_pos (by omega))) (show fIx (.lst (dNs o)) (.int (((i % (o.length : Int)).toNat : Nat) : Int)) = some (dInt (pick o i)) from atI_o p3)
def G_law_spoiled_k08 : FA
  | [.own .mut es, .own .mut ds, .val (.int c)] => (decs es : Option (List Nat)).bind fun l => (decs ds : Option (List P3)).bind fun ps => if l.length ≤ 900 ∧ ps.length ≤ 900 then some ((spoilO ps.length l c).map fun l' => .own .loc (dNs l'), [.own .mut es, .own .mut ds, .val (.int c)]) else none
  | _ => none
theorem G_spoil {l : List Nat} {ps : List P3} {c : Int} (h1 : l.length ≤ 900) (h2 : ps.length ≤ 900) : G_law_spoiled_k08 [.own .mut (dNs l), .own .mut (dPs ps), .val (.int c)] = some ((spoilO ps.length l c).map fun l' => .own .loc (dNs l'), [.own .mut (dNs l), .own .mut (dPs ps), .val (.int c)]) := by
  show (decs (dNs l)).bind _ = _
  rw [decs_dNs, Option.bind_some, decs_dPs, Option.bind_some]
  exact ite_some ⟨h1, h2⟩
/-- _law_spoiled: 0 chosen 1 pipes 2 cell 3 place 4 others 5 other 6 number -/
def t_law_spoiled_k08 : VT := (seqT (asgV 3 (v2 fMod (v2 fDiv (vVar 2) (vC (.int 5))) (v2 fMax (vC (.int 1)) (v1 fLenL (lVar 0))))) (seqT (asgV 4 (v1 slD (vLc [6] (lRng1 (v1 fLenL (lVar 1))) (gN 6) (bV (v2 (fIn true) (vVar 6) (lVar 0))) (vVar 6)))) (seqT (ifT (bV (v2 fEq (v2 fMod (vVar 2) (vC (.int 5))) (vC (.int 0)))) (seqT (retO (v2 fCat (v1 slL (vCut cutL (lVar 0) pN (pI (vVar 3)))) (v1 slL (vCut cutL (lVar 0) (pI (v2 fAdd (vVar 3) (vC (.int 1)))) pN)))) skipT) skipT) (seqT (ifT (bAnd (bV (v2 fEq (v2 fMod (vVar 2) (vC (.int 5))) (vC (.int 1)))) (bV (v2 fGt (v1 fLenL (lVar 4)) (vC (.int 0))))) (seqT (retO (v2 fCat (v1 slL (v2 fCat (v1 slL (vCut cutL (lVar 0) pN (pI (vVar 3)))) (v1 slL (oLst (aCons (v2 fIx (vVar 4) (v2 fMod (v2 fDiv (vVar 2) (vC (.int 5))) (v1 fLenL (lVar 4)))) aNil))))) (v1 slL (vCut cutL (lVar 0) (pI (vVar 3)) pN)))) skipT) skipT) (seqT (ifT (bAnd (bV (v2 fLt (v2 fMod (vVar 2) (vC (.int 5))) (vC (.int 4)))) (bAnd (bV (v2 fGt (v1 fLenL (lVar 4)) (vC (.int 0)))) (bV (v2 fGt (v1 fLenL (lVar 0)) (vC (.int 0)))))) (seqT (asgV 5 (v2 fIx (vVar 4) (v2 fMod (v2 fDiv (vVar 2) (vC (.int 60))) (v1 fLenL (lVar 4))))) (seqT (retO (v2 fCat (v1 slL (v2 fCat (v1 slL (vCut cutL (lVar 0) pN (pI (vVar 3)))) (v1 slL (oLst (aCons (vVar 5) aNil))))) (v1 slL (vCut cutL (lVar 0) (pI (v2 fAdd (vVar 3) (vC (.int 1)))) pN)))) skipT)) skipT) skipT)))))
theorem v_law_spoiled_k08 : ∀ ss r ss', ss.length = 3 → G_law_spoiled_k08 ss = some (r, ss') → t_law_spoiled_k08 (postA r ss ss') (En0 ss 7) := by
  intro ss r ss' hl h
  unfold G_law_spoiled_k08 at h
  split at h
  · rename_i es ds c
    obtain ⟨l, e1, h1⟩ := Option.bind_eq_some_iff.mp h
    obtain ⟨ps, e2, h2⟩ := Option.bind_eq_some_iff.mp h1
    clear h h1
    split at h2
    · rename_i hc
      have h3 := Option.some.inj h2
      clear h2
      cases dNs_some e1
      cases dPs_some e2
      clear e1 e2
      obtain ⟨hl1, hl2⟩ := hc
      obtain ⟨h5, h6⟩ := Prod.mk.inj h3
      clear h3
      subst h6
      have h3 := h5
      clear h5
      have hpl : ((plc l c : Nat) : Int) = c / 5 % ((max 1 l.length : Nat) : Int) ∧ plc l c ≤ l.length := by
        have a1 : 0 ≤ c / 5 % ((max 1 l.length : Nat) : Int) := Int.emod_nonneg _ (by omega)
        have a2 : c / 5 % ((max 1 l.length : Nat) : Int) < ((max 1 l.length : Nat) : Int) := Int.emod_lt_of_pos _ (by omega)
        unfold plc
        omega
      have hm5 : ∀ {Γ : En}, vVar 2 Γ = some (.int c) → v2 fMod (vVar 2) (vC (.int 5)) Γ = some (.int (c % 5)) := fun e => v2e e rfl (fMod_pos (by omega))
      have hd5 : ∀ {Γ : En}, vVar 2 Γ = some (.int c) → v2 fDiv (vVar 2) (vC (.int 5)) Γ = some (.int (c / 5)) := fun e => v2e e rfl (fDiv_pos (by omega) (by omega))
      refine ⟨dInt (plc l c), v2e (y := dInt (max 1 l.length)) (hd5 rfl) (v2e rfl (lenNs rfl) (fMax_nat 1 _)) (by rw [show dInt (plc l c) = D.int (c / 5 % ((max 1 l.length : Nat) : Int)) from congrArg D.int hpl.1]; exact fMod_pos (by omega)), ?_⟩
      refine ⟨.lst (dNs (freeOf ps.length l)), v1e (vlc_filter (enc := dInt) (xs := List.range ps.length) (p := fun k => decide (k ∉ l)) (h := dInt) (rng1e (i := (ps.length : Int)) (lenPs rfl) (by omega)) (by simp; omega) (fun k _ => lcS rfl (bVe (notInE rfl rfl)) fun _ => rfl)) rfl, ?_⟩
      have hfl : (freeOf ps.length l).length ≤ ps.length := by
        unfold freeOf
        refine Nat.le_trans (List.length_filter_le _ _) ?_
        rw [List.length_range]
        exact Nat.le_refl _
      unfold spoilO at h3
      refine if_d (p := c % 5 = 0) (bVe (v2e (hm5 rfl) rfl rfl)) (fun c1 => ?_) (fun c1 => ?_)
      · rw [if_pos c1] at h3
        refine ⟨_, catE (takeE rfl rfl hpl.2) (dropE rfl (v2e (x := dInt (plc l c)) (z := dInt (plc l c + 1)) rfl rfl rfl)) (by rw [List.length_take, List.length_drop]; omega), ?_⟩
        exact ⟨h3.symm, .inl ⟨rfl, rfl⟩, .inl ⟨rfl, rfl⟩, .inr ⟨rfl, rfl⟩, trivial⟩
      rw [if_neg c1] at h3
      have hfr : ∀ {Γ : En}, vVar 4 Γ = some (.lst (dNs (freeOf ps.length l))) → v1 fLenL (lVar 4) Γ = some (dInt (freeOf ps.length l).length) := fun {Γ} e => lenNs (by unfold lVar; unfold vVar at e; revert e; cases Γ[4]? with
        | none => intro e; cases e
        | some o => cases o with
          | none => intro e; cases e
          | some s => intro e; cases s with
            | val d => cases e; rfl
            | own m ds => cases e
            | odic m ds => cases e
            | net m a b => cases e)
      refine if_d (p := c % 5 = 1 ∧ 0 < (freeOf ps.length l).length) (bAnd_d (bVe (v2e (hm5 rfl) rfl rfl)) fun _ => bVe (v2e (x := dInt (freeOf ps.length l).length) (hfr rfl) rfl (by show some (D.bl (decide ((0 : Int) < ((freeOf ps.length l).length : Int)))) = _; simp))) (fun c2 => ?_) (fun c2 => ?_)
      · rw [if_pos c2] at h3
        obtain ⟨p1, p2, p3⟩ := pick_mem (i := c / 5) c2.2
        refine ⟨_, catE (a := l.take (plc l c) ++ [pick (freeOf ps.length l) (c / 5)]) (v1e (catE (a := l.take (plc l c)) (b := [pick (freeOf ps.length l) (c / 5)]) (takeE rfl rfl hpl.2) (v1e (x := .own .loc (dNs [pick (freeOf ps.length l) (c / 5)])) ?_ rfl) (by rw [List.length_take, List.length_singleton]; omega)) rfl) (dropE rfl rfl) (by rw [List.length_append, List.length_take, List.length_drop, List.length_singleton]; omega), ?_⟩
        · unfold oLst aCons
          rw [show v2 fIx (vVar 4) (v2 fMod (v2 fDiv (vVar 2) (vC (.int 5))) (v1 fLenL (lVar 4))) _ = some (dInt (pick (freeOf ps.length l) (c / 5))) from pickE c2.2 rfl (hd5 rfl) (hfr rfl)]
          rfl
        · exact ⟨h3.symm, .inl ⟨rfl, rfl⟩, .inl ⟨rfl, rfl⟩, .inr ⟨rfl, rfl⟩, trivial⟩
      rw [if_neg c2] at h3
      refine if_d (p := c % 5 < 4 ∧ (0 < (freeOf ps.length l).length ∧ 0 < l.length)) (bAnd_d (bVe (v2e (hm5 rfl) rfl rfl)) fun _ => bAnd_d (bVe (v2e (x := dInt (freeOf ps.length l).length) (hfr rfl) rfl (by show some (D.bl (decide ((0 : Int) < ((freeOf ps.length l).length : Int)))) = _; simp))) fun _ => bVe (v2e (x := dInt l.length) (lenNs rfl) rfl (by show some (D.bl (decide ((0 : Int) < (l.length : Int)))) = _; simp))) (fun c3 => ?_) (fun c3 => ?_)
      · rw [if_pos c3] at h3
        obtain ⟨p1, p2, p3⟩ := pick_mem (i := c / 60) c3.2.1
        refine ⟨dInt (pick (freeOf ps.length l) (c / 60)), pickE c3.2.1 rfl (v2e rfl rfl (fDiv_pos (by omega) (by omega))) (hfr rfl), ?_⟩
        refine ⟨_, catE (a := l.take (plc l c) ++ [pick (freeOf ps.length l) (c / 60)]) (v1e (catE (a := l.take (plc l c)) (b := [pick (freeOf ps.length l) (c / 60)]) (takeE rfl rfl hpl.2) (v1e (x := .own .loc (dNs [pick (freeOf ps.length l) (c / 60)])) rfl rfl) (by rw [List.length_take, List.length_singleton]; omega)) rfl) (dropE rfl (v2e (x := dInt (plc l c)) (z := dInt (plc l c + 1)) rfl rfl rfl)) (by rw [List.length_append, List.length_take, List.length_drop, List.length_singleton]; omega), ?_⟩
        exact ⟨h3.symm, .inl ⟨rfl, rfl⟩, .inl ⟨rfl, rfl⟩, .inr ⟨rfl, rfl⟩, trivial⟩
      rw [if_neg c3] at h3
      exact ⟨h3.symm, ⟨.inl ⟨rfl, rfl⟩, .inl ⟨rfl, rfl⟩, .inr ⟨rfl, rfl⟩, trivial⟩, _, rfl, rfl⟩
    · cases h2
  · cases h
end Z

set_option maxRecDepth 100000
namespace Z
open PySem PySem.Spec PyProof.Rows L2

/-! ### the eighth law -/
def F_law_k08 : FN
  | [.val (.scr _)] => some (.inl (.val (.bl true)))
  | _ => none
theorem F_law_k08_t (ns : List Int) (_ : ns.length ≤ 63) : F_law_k08 [.val (.scr ns)] = some (.inl (.val (.bl true))) := rfl
theorem ins_ints (l : List Nat) (k : Nat) (i : Int) : (dNs l).take k ++ [D.int i] ++ (dNs l).drop k = (((l.map fun (n : Nat) => (n : Int)).take k ++ [i] ++ (l.map fun (n : Nat) => (n : Int)).drop k).map D.int) := by
  rw [dNs_ints]
  simp only [List.map_append, List.map_take, List.map_drop, List.map_cons, List.map_nil]
theorem if_joinA {t : VB} {T U : VT} {Q : Out → Prop} {Γ : En} {p : Prop} [Decidable p] (I : En → Prop) (e : t Γ = some (decide p)) (h1 : p → ∀ Q : Out → Prop, (∀ Γ', I Γ' → Q (.nx Γ')) → T Q Γ) (h2 : ¬ p → ∀ Q : Out → Prop, (∀ Γ', I Γ' → Q (.nx Γ')) → U Q Γ) (hq : ∀ Γ', I Γ' → Q (.nx Γ')) : ifT t T U Q Γ :=
  if_d e (fun c => h1 c Q hq) fun c => h2 c Q hq
/-- law: 0 script 1 size 2 order 3 pipes 4 k 5 chosen 6 turn 7 cell 8 at 9 net 10 handed 11 found 12 place 13 far 14 bad 15 number -/
def t_law_k08 : VT := (seqT (asgV 1 (v1 slD (v1 inlO (xCall 2 F_law_size_of (rV (vVar 0) (rV (vC (.int 7)) rNil)))))) (seqT (asgV 2 (v1 slD (v1 inlO (xCall 2 F_law_order (rV (v1 slD (v1 inlO (xCall 2 F_law_cell_at (rV (vVar 0) (rV (vC (.int 1)) rNil))))) (rV (vVar 1) rNil)))))) (seqT (asgO 3 (oLst aNil)) (seqT (forT (lRng2 (vC (.int 1)) (vVar 1)) (gN 4) (seqT (appT 3 (vTup (aCons (v2 fIx (vVar 2) (v2 fMod (v1 slD (v1 inlO (xCall 2 F_law_cell_at (rV (vVar 0) (rV (v2 fAdd (vC (.int 12)) (vVar 4)) rNil))))) (vVar 4))) (aCons (v2 fIx (vVar 2) (vVar 4)) (aCons (vC (.bl true)) aNil))))) skipT)) (seqT (asgO 5 (vLc [15] (lRng1 (v1 fLenL (lVar 3))) (gN 15) bT (vVar 15))) (seqT (asgV 6 (v2 fMod (v1 slD (v1 inlO (xCall 2 F_law_cell_at (rV (vVar 0) (rV (vC (.int 2)) rNil))))) (v2 fMax (vC (.int 1)) (v1 fLenL (lVar 3))))) (seqT (asgO 5 (v2 fCat (v1 slL (vCut cutL (lVar 5) (pI (vVar 6)) pN)) (v1 slL (vCut cutL (lVar 5) pN (pI (vVar 6)))))) (seqT (asgO 3 (v2 fCat (lVar 3) (v1 slL (v1 inlO (xCall 4 F_law_pipes_by (rV (vVar 0) (rV (vC (.int 24)) (rV (v2 fMod (v1 slD (v1 inlO (xCall 2 F_law_cell_at (rV (vVar 0) (rV (vC (.int 3)) rNil))))) (vC (.int 10))) (rV (vVar 1) rNil))))))))) (seqT (ifT (bV (v2 fGt (v2 fMod (v1 slD (v1 inlO (xCall 2 F_law_cell_at (rV (vVar 0) (rV (vC (.int 4)) rNil))))) (vC (.int 3))) (vC (.int 0)))) (seqT (asgV 7 (v2 fDiv (v1 slD (v1 inlO (xCall 2 F_law_cell_at (rV (vVar 0) (rV (vC (.int 4)) rNil))))) (vC (.int 3)))) (seqT (ifT (bAnd (bV (v2 fEq (v2 fMod (vVar 7) (vC (.int 5))) (vC (.int 4)))) (bV (v2 fGt (v1 fLenL (lVar 5)) (vC (.int 0))))) (seqT (asgV 8 (v2 fIxL (lVar 5) (v2 fMod (v2 fDiv (vVar 7) (vC (.int 5))) (v1 fLenL (lVar 5))))) (seqT (setT 3 (vVar 8) (vTup (aCons (v2 fIx (v2 fIxL (lVar 3) (vVar 8)) (vC (.int 0))) (aCons (v2 fIx (v2 fIxL (lVar 3) (vVar 8)) (vC (.int 1))) (aCons (vC (.bl false)) aNil))))) skipT)) skipT) (seqT (selfT 5 3 G_law_spoiled_k08 (rS 5 (rS 3 (rV (vVar 7) rNil)))) skipT))) skipT) (seqT (asgO 9 (v1 inlO (xCall 2 F_law_net_by (rV (vVar 1) (rS 3 rNil))))) (seqT (asgV 10 (v1 slD (v1 fList (lVar 5)))) (seqT (asgV 11 (v1 slD (v1 inlO (xCall 2 F_is_tree (rS 9 (rV (vVar 10) rNil)))))) (seqT (ifT (bFrz (bOr (bV (v2 fNe (vVar 10) (vVar 5))) (bNot (bV (v1 (fIsi "bool") (vVar 11)))))) (seqT (retV (vC (.bl false))) skipT) skipT) (seqT (ifT (bFrz (bV (v2 fNe (vVar 11) (v1 slD (v1 inlO (xCall 3 F_law_is_tree_k08 (rV (v1 slD (v1 fSorted (lVar 5))) (rV (vVar 1) (rV (vVar 3) rNil))))))))) (seqT (retV (vC (.bl false))) skipT) skipT) (seqT (asgV 12 (v2 fMod (v1 slD (v1 inlO (xCall 2 F_law_cell_at (rV (vVar 0) (rV (vC (.int 5)) rNil))))) (v2 fAdd (v1 fLenL (lVar 5)) (vC (.int 1))))) (seqT (asgV 13 (v2 fAdd (v1 fLenL (lVar 3)) (v2 fMod (v2 fDiv (v1 slD (v1 inlO (xCall 2 F_law_cell_at (rV (vVar 0) (rV (vC (.int 5)) rNil))))) (vC (.int 64))) (vC (.int 99))))) (seqT (asgV 14 (v2 fIx (v1 slD (oLst (aCons (v1 fNeg (vC (.int 1))) (aCons (v1 fLenL (lVar 3)) (aCons (vVar 13) aNil))))) (v2 fMod (v2 fDiv (v1 slD (v1 inlO (xCall 2 F_law_cell_at (rV (vVar 0) (rV (vC (.int 5)) rNil))))) (vC (.int 13))) (vC (.int 3))))) (seqT (insT 5 (vVar 12) (vVar 14)) (seqT (retV (vFrz (v1 slD (v1 inlO (xCall 2 F_law_no_pipe (rS 9 (rV (vVar 5) rNil))))))) skipT)))))))))))))))))))
open Classical in
theorem v_law_k08 : ∀ ss r, ss.length = 1 → F_law_k08 ss = some r → t_law_k08 (postP r) (En0 ss 16) ∧ ∃ s, r = .inl s := by
  intro ss r hl h
  unfold F_law_k08 at h
  split at h
  · rename_i ns
    have h1 := Option.some.inj h
    clear h
    subst h1
    refine ⟨?_, _, rfl⟩
    have hs := sizeOf_le (ns := ns) (k := 7) (by omega) (by omega)
    refine ⟨dInt (sizeOf ns 7), v1e (v1e (xc rfl ⟨rfl, rfl⟩ rfl (F_sizeOf (k := 7) (by omega))) rfl) rfl, ?_⟩
    generalize hN : sizeOf ns 7 = n at hs
    obtain ⟨n1, n12⟩ := hs
    have O := order_ok (c := cellAt ns 1) (n := n) (by omega)
    refine ⟨.lst (dNs (orderOf (cellAt ns 1) n)), v1e (v1e (xc (rVe (cellE (k := 1) rfl) (rVe rfl rfl)) ⟨rfl, rfl⟩ rfl (F_orderE (by omega) (by omega))) rfl) rfl, ?_⟩
    generalize hO : orderOf (cellAt ns 1) n = o at O
    refine ⟨_, rfl, ?_⟩
    refine ⟨_, rng2e (i := 1) (j := n) rfl rfl (by omega) (by omega), ?_⟩
    refine loopT_inv (enc := dInt) (fun rs Γ => ∃ (v4 : Option Sl) (done : List Nat), done ++ rs = List.range' 1 (n - 1) ∧
      Γ = [some (.val (.scr ns)), some (.val (.int (n : Int))), some (.val (.lst (dNs o))), some (.own .loc (dPs (done.map (treeP ns 12 o)))), v4, none, none, none, none, none, none, none, none, none, none, none]) ?_ ?_ _ _ ⟨none, [], rfl, rfl⟩
    · rintro k rs Γ kk ⟨v4, done, hd, rfl⟩ hk
      refine ⟨_, rfl, ?_⟩
      have hkm : k ∈ List.range' 1 (n - 1) := by rw [← hd]; simp
      rw [List.mem_range'_1] at hkm
      have hdl : done.length ≤ 11 := by
        have := congrArg List.length hd
        simp at this
        omega
      refine ⟨(by intro z; cases z), dP (treeP ns 12 o k), tree_e (k := k) O (by omega) (by omega) rfl rfl (v1e (v1e (xc (rVe rfl (rVe (v2e (z := .int ((12 + k : Nat) : Int)) (y := dInt k) rfl rfl rfl) rfl)) ⟨rfl, rfl⟩ rfl (F_cell (k := 12 + k))) rfl) rfl), by rw [dPs_len, List.length_map]; omega, ?_⟩
      refine hk _ ⟨some (.val (dInt k)), done ++ [k], by rw [← hd]; simp, ?_⟩
      rw [List.map_append, List.map_cons, List.map_nil, dPs_snoc]
      rfl
    · rintro Γ ⟨v4, done, hd, rfl⟩
      rw [List.append_nil] at hd
      subst hd
      have hT : (List.range' 1 (n - 1)).map (treeP ns 12 o) = treePs ns 12 o n := rfl
      rw [hT]
      have hTl : (treePs ns 12 o n).length = n - 1 := treePs_len
      have hTo := treePs_ok (ns := ns) (b := 12) O
      generalize treePs ns 12 o n = ts at hTl hTo
      have em : ((ts.length : Nat) : Int) = ((n - 1 : Nat) : Int) := by rw [hTl]
      refine ⟨.own .loc (dNs (List.range ts.length)), vlc_map (enc := dInt) (h := dInt) (rng1e (i := (ts.length : Int)) (lenPs rfl) (by omega)) (by simp; omega) (fun k hk => lcS1 rfl rfl rfl), ?_⟩
      have a1 : 0 ≤ cellAt ns 2 % ((max 1 ts.length : Nat) : Int) := Int.emod_nonneg _ (by omega)
      have a2 : cellAt ns 2 % ((max 1 ts.length : Nat) : Int) < ((max 1 ts.length : Nat) : Int) := Int.emod_lt_of_pos _ (by omega)
      obtain ⟨tu, htu⟩ := Int.eq_ofNat_of_zero_le a1
      refine ⟨dInt tu, v2e (y := dInt (max 1 ts.length)) (cellE (k := 2) rfl) (v2e (x := dInt 1) (y := dInt ts.length) rfl (lenPs (ps := ts) rfl) (fMax_nat 1 _)) (by rw [show dInt tu = D.int (cellAt ns 2 % ((max 1 ts.length : Nat) : Int)) from congrArg D.int htu.symm]; exact fMod_pos (by omega)), ?_⟩
      have htl : tu ≤ (List.range ts.length).length := by rw [List.length_range]; omega
      refine ⟨.own .loc (dNs ((List.range ts.length).drop tu ++ (List.range ts.length).take tu)), catE (dropE rfl rfl) (takeE rfl rfl htl) (by rw [List.length_take, List.length_drop, List.length_range]; omega), ?_⟩
      have hperm := rot_perm (List.range ts.length) tu
      have cnd : ((List.range ts.length).drop tu ++ (List.range ts.length).take tu).Nodup := hperm.nodup_iff.mpr List.nodup_range
      have clt : ∀ k ∈ (List.range ts.length).drop tu ++ (List.range ts.length).take tu, k < ts.length := fun k hk => List.mem_range.mp (hperm.mem_iff.mp hk)
      have cln : ((List.range ts.length).drop tu ++ (List.range ts.length).take tu).length ≤ 11 := by rw [hperm.length_eq, List.length_range]; omega
      generalize (List.range ts.length).drop tu ++ (List.range ts.length).take tu = l at cnd clt cln
      have m1 : 0 ≤ cellAt ns 3 % 10 := Int.emod_nonneg _ (by omega)
      have m2 : cellAt ns 3 % 10 < 10 := Int.emod_lt_of_pos _ (by omega)
      obtain ⟨m, hm⟩ := Int.eq_ofNat_of_zero_le m1
      have hpl := pipesBy_len (ns := ns) (first := 24) (many := m) (size := n)
      have hn : okNet n (ts ++ pipesBy ns 24 m n) := by
        refine ⟨n1, n12, okPs_iff.mpr fun p hp => ?_, by rw [List.length_append]; omega⟩
        rcases List.mem_append.mp hp with q | q
        · exact hTo p q
        · exact pipesBy_ok p q
      refine ⟨.own .loc (dPs (ts ++ pipesBy ns 24 m n)), v2e (x := dPs ts) (y := dPs (pipesBy ns 24 m n)) rfl (v1e (v1e (xc (rVe rfl (rVe rfl (rVe (v2e (z := .int (m : Int)) (cellE (k := 3) rfl) rfl (by rw [fMod_pos (by omega), hm])) (rVe rfl rfl)))) ⟨rfl, rfl⟩ rfl (F_pipesBy (f := 24) (m := m) (s := n) (by omega) (by omega))) rfl) rfl) ?_, ?_⟩
      · unfold fCat
        rw [if_pos (decide_eq_true (by rw [dPs_len, dPs_len]; omega))]
        unfold dPs
        rw [List.map_append]
      have clt2 : ∀ k ∈ l, k < (ts ++ pipesBy ns 24 m n).length := fun k hk => by have := clt k hk; rw [List.length_append]; omega
      have hl30 : (ts ++ pipesBy ns 24 m n).length ≤ 30 := by rw [List.length_append]; omega
      generalize ts ++ pipesBy ns 24 m n = ps at hn clt2 hl30
      refine if_joinA (fun Γ' => ∃ (qs : List P3) (l' : List Nat) (v7 v8 : Option Sl), okNet n qs ∧ l'.Nodup ∧ (∀ k ∈ l', k < qs.length) ∧ l'.length ≤ 12 ∧ qs.length ≤ 30 ∧
          Γ' = [some (.val (.scr ns)), some (.val (.int (n : Int))), some (.val (.lst (dNs o))), some (.own .loc (dPs qs)), v4, some (.own .loc (dNs l')), some (.val (dInt tu)), v7, v8, none, none, none, none, none, none, none])
        (p := 0 < cellAt ns 4 % 3) (bVe (v2e (v2e (cellE (k := 4) rfl) rfl (fMod_pos (by omega))) rfl rfl)) (fun c Q hq => ?_) (fun c Q hq => hq _ ⟨ps, l, none, none, hn, cnd, clt2, by omega, hl30, rfl⟩) ?_
      · refine ⟨.int (cellAt ns 4 / 3), v2e (cellE (k := 4) rfl) rfl (fDiv_pos (by omega) (by omega)), ?_⟩
        generalize cellAt ns 4 / 3 = cc
        refine if_joinA (fun Γ' => ∃ (qs : List P3) (v8 : Option Sl), okNet n qs ∧ qs.length = ps.length ∧
            Γ' = [some (.val (.scr ns)), some (.val (.int (n : Int))), some (.val (.lst (dNs o))), some (.own .loc (dPs qs)), v4, some (.own .loc (dNs l)), some (.val (dInt tu)), some (.val (.int cc)), v8, none, none, none, none, none, none, none])
          (p := cc % 5 = 4 ∧ 0 < l.length) (bAnd_d (bVe (v2e (v2e rfl rfl (fMod_pos (by omega))) rfl rfl)) fun _ => bVe (v2e (x := dInt l.length) (lenNs rfl) rfl (by show some (D.bl (decide ((0 : Int) < (l.length : Int)))) = _; simp))) (fun c2 Q hq => ?_) (fun c2 Q hq => hq _ ⟨ps, none, hn, rfl, rfl⟩) ?_
        · obtain ⟨p1, p2, p3⟩ := pick_mem (i := cc / 5) c2.2
          have hk := clt2 _ p1
          refine ⟨dInt (pick l (cc / 5)), v2e (x := dNs l) (y := .int (((cc / 5 % (l.length : Int)).toNat : Nat) : Int)) rfl (v2e (y := dInt l.length) (v2e rfl rfl (fDiv_pos (by omega) (by omega))) (lenNs rfl) (by rw [p2]; exact fMod_pos (by omega))) (show fIxL (dNs l) (.int (((cc / 5 % (l.length : Int)).toNat : Nat) : Int)) = some (dInt (pick l (cc / 5))) from atI_o p3), ?_⟩
          generalize pick l (cc / 5) = at' at hk
          refine ⟨(by intro z; cases z), dP ((pAt ps at').1, (pAt ps at').2.1, false), (at' : Int), at', ?_, rfl, ixN_nat (by rw [dPs_len]; exact hk), ?_⟩
          · have e5 : v2 fIxL (lVar 3) (vVar 8) [some (Sl.val (.scr ns)), some (.val (.int (n : Int))), some (.val (.lst (dNs o))), some (.own .loc (dPs ps)), v4, some (.own .loc (dNs l)), some (.val (dInt tu)), some (.val (.int cc)), some (.val (dInt at')), none, none, none, none, none, none, none] = some (dP (pAt ps at')) := v2e (x := dPs ps) rfl rfl (atI_dPs hk)
            unfold vTup
            rw [show (aCons (v2 fIx (v2 fIxL (lVar 3) (vVar 8)) (vC (.int 0))) (aCons (v2 fIx (v2 fIxL (lVar 3) (vVar 8)) (vC (.int 1))) (aCons (vC (.bl false)) aNil))) _ = some [dInt (pAt ps at').1, dInt (pAt ps at').2.1, .bl false] from by
              unfold aCons
              exact Option.bind_eq_some_iff.mpr ⟨_, ixP0 e5, Option.bind_eq_some_iff.mpr ⟨_, Option.bind_eq_some_iff.mpr ⟨_, ixP1 e5, Option.bind_eq_some_iff.mpr ⟨_, Option.bind_eq_some_iff.mpr ⟨_, rfl, rfl⟩, rfl⟩⟩, rfl⟩⟩]
            rfl
          · have es : (dPs ps).set at' (dP ((pAt ps at').1, (pAt ps at').2.1, false)) = dPs (turnAt ps at' false) := by
              unfold dPs turnAt
              rw [List.map_set]
            rw [es]
            exact hq _ ⟨turnAt ps at' false, some (.val (dInt at')), turnAt_ok hn hk, turnAt_len, rfl⟩
        · rintro Γ ⟨qs, v8, hq', hql, rfl⟩
          refine ⟨_, _, (spoilO qs.length l cc).map (fun l' => .own .loc (dNs l')), _, rfl, ⟨rfl, rfl⟩, rfl, G_spoil (l := l) (ps := qs) (c := cc) (by omega) (by omega), rfl, ?_⟩
          cases e : spoilO qs.length l cc with
          | none => exact hq _ ⟨qs, l, some (.val (.int cc)), v8, hq', cnd, fun k hk => by rw [hql]; exact clt2 k hk, by omega, by omega, by cases v4 <;> cases v8 <;> rfl⟩
          | some l' =>
            obtain ⟨b1, b2, b3⟩ := spoil_ok cnd (fun k hk => by rw [hql]; exact clt2 k hk) e
            exact hq _ ⟨qs, l', some (.val (.int cc)), v8, hq', b1, b2, by omega, by omega, by cases v4 <;> cases v8 <;> rfl⟩
      · clear hn cnd clt clt2 cln hl30
        rintro Γ ⟨qs, l', v7, v8, hn, cnd, clt, cln, hl30, rfl⟩
        refine ⟨.net .loc (n : Int) (dPs qs), v1e (xc rfl ⟨rfl, rfl⟩ rfl (F_netBy rfl hn)) rfl, ?_⟩
        refine ⟨.lst (dNs l'), v1e (v1e rfl rfl) rfl, ?_⟩
        refine ⟨.bl (treeB n qs l'), v1e (v1e (xc rfl ⟨rfl, rfl⟩ rfl (F_isTree_ok hn (by omega) clt)) rfl) rfl, ?_⟩
        refine if_f (dec_f (p := False ∨ ¬ True) (by simp) (bOr_d (bVe (v2e (x := .lst (dNs l')) (y := .lst (dNs l')) rfl rfl (fNe_refl (shaped_ns l')))) fun _ => bNot_d (bVe (v1e rfl isi_bool_bool)))) ?_
        have hp := srtN_perm l'
        have hT : F_law_is_tree_k08 [.val (.lst (dNs (srtN l'))), .val (.int (n : Int)), .val (.lst (dPs qs))] = some (.inl (.val (.bl (treeB n qs l')))) := by
          rw [F_isTree8 hn (((srtN_pairwise _).and (hp.nodup_iff.mpr cnd)).imp fun h => Nat.lt_of_le_of_ne h.1 h.2) fun k hk => clt k (hp.mem_iff.mp hk)]
          have := treeB_iff hn cnd clt
          cases e : treeB n qs l' with
          | true => rw [decide_eq_true (this.mp e)]
          | false => rw [decide_eq_false (fun T => by have := this.mpr T; rw [e] at this; cases this)]
        refine if_f (dec_f (p := False) (by simp) (bVe (v2e (x := .bl (treeB n qs l')) (y := .bl (treeB n qs l')) rfl (v1e (v1e (xc (rVe (v1e (v1e rfl (fSorted_ns l')) rfl) (rVe rfl (rVe rfl rfl))) ⟨rfl, rfl⟩ rfl hT) rfl) rfl) (by cases treeB n qs l' <;> rfl)))) ?_
        have b1 : 0 ≤ cellAt ns 5 % ((l'.length : Int) + 1) := Int.emod_nonneg _ (by omega)
        have b2 : cellAt ns 5 % ((l'.length : Int) + 1) < (l'.length : Int) + 1 := Int.emod_lt_of_pos _ (by omega)
        obtain ⟨pl, hpl'⟩ := Int.eq_ofNat_of_zero_le b1
        refine ⟨.int (pl : Int), v2e (y := .int ((l'.length : Int) + 1)) (cellE (k := 5) rfl) (v2e (x := dInt l'.length) (lenNs rfl) rfl rfl) (by rw [fMod_pos (by omega), hpl']), ?_⟩
        have f1 : 0 ≤ cellAt ns 5 / 64 % 99 := Int.emod_nonneg _ (by omega)
        refine ⟨.int ((qs.length : Int) + cellAt ns 5 / 64 % 99), v2e (x := .int (qs.length : Int)) (lenPs rfl) (v2e (v2e (cellE (k := 5) rfl) rfl (fDiv_pos (by omega) (by omega))) rfl (fMod_pos (by omega))) rfl, ?_⟩
        generalize cellAt ns 5 / 64 % 99 = fr at f1
        have i1 : 0 ≤ cellAt ns 5 / 13 % 3 := Int.emod_nonneg _ (by omega)
        have i2' : cellAt ns 5 / 13 % 3 < 3 := Int.emod_lt_of_pos _ (by omega)
        obtain ⟨k, hk2⟩ := Int.eq_ofNat_of_zero_le i1
        obtain ⟨b, hb, hbad⟩ : ∃ b : Int, [D.int (-1), .int (qs.length : Int), .int ((qs.length : Int) + fr)][k]? = some (.int b) ∧ badI qs.length b := by
          have : k = 0 ∨ k = 1 ∨ k = 2 := by omega
          unfold badI
          rcases this with rfl | rfl | rfl
          · exact ⟨_, rfl, by omega⟩
          · exact ⟨_, rfl, by omega⟩
          · exact ⟨_, rfl, by omega⟩
        refine ⟨.int b, v2e (x := .lst [D.int (-1), .int (qs.length : Int), .int ((qs.length : Int) + fr)]) (y := .int (k : Int)) (v1e (x := .own .loc [D.int (-1), .int (qs.length : Int), .int ((qs.length : Int) + fr)]) ?_ rfl) (v2e (v2e (cellE (k := 5) rfl) rfl (fDiv_pos (by omega) (by omega))) rfl (by rw [fMod_pos (by omega), hk2])) (show fIx (.lst [D.int (-1), .int (qs.length : Int), .int ((qs.length : Int) + fr)]) (.int (k : Int)) = some (.int b) from atI_nat hb), ?_⟩
        · unfold oLst
          rw [show (aCons (v1 fNeg (vC (.int 1))) (aCons (v1 fLenL (lVar 3)) (aCons (vVar 13) aNil))) _ = some [D.int (-1), .int (qs.length : Int), .int ((qs.length : Int) + fr)] from by
            unfold aCons
            exact Option.bind_eq_some_iff.mpr ⟨_, rfl, Option.bind_eq_some_iff.mpr ⟨_, Option.bind_eq_some_iff.mpr ⟨_, lenPs rfl, Option.bind_eq_some_iff.mpr ⟨_, Option.bind_eq_some_iff.mpr ⟨_, rfl, rfl⟩, rfl⟩⟩, rfl⟩⟩]
          rfl
        refine ⟨(by intro z; cases z), pl, .int b, rfl, rfl, by omega, by rw [dNs_len]; omega, ?_⟩
        rw [ins_ints]
        refine ⟨.bl true, vFrzE (v1e (v1e (xc rfl ⟨rfl, rfl⟩ rfl (F_noPipe (is := (l'.map fun (n : Nat) => (n : Int)).take pl ++ [b] ++ (l'.map fun (n : Nat) => (n : Int)).drop pl) hn ?_ ⟨b, by simp, hbad⟩)) rfl) rfl) rfl, rfl⟩
        simp only [List.length_append, List.length_take, List.length_drop, List.length_singleton, List.length_map]
        omega
  · cases h
end Z

set_option maxRecDepth 100000
set_option maxHeartbeats 4000000
namespace Z
open PySem PySem.Spec PyProof.Rows L2
def top (i : Nat) : Stmt := PySem.Challenge.pw_springways_k08_trees_known.main.body.getD i (.Pass ⟨0, 0, 0, 0⟩)
abbrev s_init : Stmt := (inClass (top 10) 0)
abbrev s_size : Stmt := (inClass (top 10) 1)
abbrev s_see_place : Stmt := (inClass (top 10) 2)
abbrev s_see_pipe : Stmt := (inClass (top 10) 3)
abbrev s_lay : Stmt := (inClass (top 10) 4)
abbrev s_turn : Stmt := (inClass (top 10) 5)
abbrev s_shut : Stmt := (inClass (top 10) 6)
abbrev s_pipes : Stmt := (inClass (top 10) 8)
abbrev s_wet : Stmt := (top 12)
abbrev s_is_tree : Stmt := (top 14)
abbrev s_law_cell_at : Stmt := (top 16)
abbrev s_law_whole : Stmt := (top 17)
abbrev s_law_pipe_by : Stmt := (top 18)
abbrev s_law_pipes_by : Stmt := (top 19)
abbrev s_law_net_by : Stmt := (top 20)
abbrev s_law_size_of : Stmt := (top 21)
abbrev s_law_wet : Stmt := (top 24)
abbrev s_law_numbers : Stmt := (top 27)
abbrev s_law_rising : Stmt := (top 28)
abbrev s_law_is_tree_k08 : Stmt := (top 29)
abbrev s_law_order : Stmt := (top 30)
abbrev s_law_spoiled_k08 : Stmt := (top 31)
abbrev s_law_no_pipe : Stmt := (top 32)
abbrev s_law_k08 : Stmt := (top 33)
structure Txt (g : Glo) (mg : Str → Option Value) : Prop where
  net : NT g
  b_len : mg "len" = none
  b_range : mg "range" = none
  b_sorted : mg "sorted" = none
  b_set : mg "set" = none
  b_list : mg "list" = none
  b_min : mg "min" = none
  b_max : mg "max" = none
  b_int : mg "int" = none
  b_isinstance : mg "isinstance" = none
  b_bool : mg "bool" = none
  c_PLACES : ∃ t, mg "PLACES" = some (.int 12 t)
  c_PIPES : ∃ t, mg "PIPES" = some (.int 60 t)
  x_TooMuch : ExT g mg "TooMuch" .much
  x_NoPlace : ExT g mg "NoPlace" .place
  x_NoPipe : ExT g mg "NoPipe" .pipe
  x_SamePlace : ExT g mg "SamePlace" .same
  y_NoPipe : CtT g mg "NoPipe" (ctL [.pipe])
section
variable {P : Program} {w : World} {g : Glo} {mg : Str → Option Value} {base : Heap}
theorem sc_init : FnScope ["self", "size"] ["self", "size"] (defScope s_init) := ⟨rfl, rfl, rfl, by decide +kernel, rfl, by decide +kernel, by decide +kernel⟩
theorem w_init {f : Addr} {fd : FuncData} (Fn : Fun g.K "__init__" "Net.__init__" s_init f fd) (T : Txt g mg) : FnOk P w g.K mg base (L2.CX P w) 1 f fd ["self", "size"] (spInit g) := by
  refine Fn.okX sc_init (fun vs H Q E h => ?_) (fun cdv A outer s H vs Q E hr h => ?_)
  · obtain ⟨p, dx, size, rfl, _⟩ := h
    rfl
  · obtain ⟨p, dx, size, rfl, hp, kE, kQ⟩ := h
    have tk := takes_of (X := cxOf (L2.CX P w) P w g.K mg base ["self", "size"] "Net.__init__" (defScope s_init) f cdv A outer s H E) rfl rfl rfl rfl
    refine ⟨_, pss_cons (ps_if (PW.pt (pw_or (pt_cmpR op_lt (pv 1) pe_int (nomark _)) (pw_or1 (pt_cmpR op_gt (pv 1) (pe_gint T.c_PLACES) (nomark _))))) (pss_one (ps_raise rfl tk (pmk_own PySem.F.excBase_ValueError T.x_TooMuch.xC T.x_TooMuch.gC T.x_TooMuch.kC (raises_own T.x_TooMuch.bC T.x_TooMuch.tC) (by exact rfl)))) pss_nil)
      (pss_cons (ps_fld (pv 0) (pv 1) rfl) (pss_one (ps_fld (pv 0) (pe_lst pa_nil) rfl))), ?_⟩
    refine ⟨_, rfl, _, _, rfl, rfl, _, rfl, ?_⟩
    have rest : 1 ≤ size ∧ size ≤ 12 → _ := kQ
    have raise : ¬ (1 ≤ size ∧ size ≤ 12) → _ := kE
    have go : 1 ≤ size ∧ size ≤ 12 → (tSeq (sFld g.K (tVar 0) (tVar 1) "many") (sFld g.K (tVar 0) (tLst tNil) "laid")) { nx := fun _ H' => Q .non H', rt := Q } (L2.start ["self", "size"] [V.ref p, V.int size]) H := fun hs => by
      refine ⟨_, rfl, _, rfl, p, g.C, dx, [], rfl, hp, T.net.cl, T.net.nM, (by show 0 < 1000; decide), ?_⟩
      refine ⟨Nat.zero_le _, fun l hl => ?_⟩
      have npl : p ≠ l := fun q => by rw [← q, upd_same] at hl; cases hl
      refine ⟨_, rfl, p, g.C, dx, _, rfl, by rw [upd_ne npl, upd_same], T.net.cl, T.net.nL, (by show 1 < 1000; decide), ?_⟩
      have hl0 : H l = none := by rw [upd_ne npl.symm] at hl; exact hl
      refine rest hs _ l hl0 (fun b h1 h2 => by rw [upd_ne h1, upd_ne h2, upd_ne h1]) ?_ (by rw [upd_ne npl.symm, upd_same])
      rw [upd_same]
      exact congrArg some (congrArg (HO.ins g.C dx) (by
        show (if ("many" : Str) = "laid" then [(("many" : Str), V.ref l)] else (("many" : Str), V.int size) :: putF "laid" (V.ref l) []) = netF size l
        rw [if_neg (by decide +kernel)]
        rfl))
    by_cases h1 : size < 1
    · rw [decide_eq_true h1]
      exact iteT (iteT (raise (by omega)))
    · rw [decide_eq_false h1]
      refine iteF ⟨_, rfl, _, _, rfl, rfl, _, rfl, ?_⟩
      by_cases h2 : (12 : Int) < size
      · rw [decide_eq_true h2]
        exact iteT (raise (by omega))
      · rw [decide_eq_false h2]
        exact iteF (go (by omega))
theorem sc_size : FnScope ["self"] ["self"] (defScope s_size) := ⟨rfl, rfl, rfl, by decide +kernel, rfl, by decide +kernel, by decide +kernel⟩
theorem w_size {f : Addr} {fd : FuncData} (Fn : Fun g.K "size" "Net.size" s_size f fd) (T : Txt g mg)  : FnOk P w g.K mg base CX0 1 f fd ["self"] (spP g 1 F_size) :=
  ok_fn (T := t_size) Fn sc_size (by decide) (fun cdv A outer s H E hr => by
    have hu := hu_of hr
    have hu64 := hr.units
    have nd := sc_size.nd
    exact (ss_cons (s_retV (ps_ret (ev_many T.net (pe_fld (pv 0) rfl)))) (ss_nil pss_nil))) v_size
theorem sc_see_place : FnScope ["self", "place"] ["self", "place"] (defScope s_see_place) := ⟨rfl, rfl, rfl, by decide +kernel, rfl, by decide +kernel, by decide +kernel⟩
theorem w_see_place {f : Addr} {fd : FuncData} (Fn : Fun g.K "see_place" "Net.see_place" s_see_place f fd) (T : Txt g mg)  : FnOk P w g.K mg base (L2.CX P w) 1 f fd ["self", "place"] (spP g 2 F_see_place) :=
  ok_fnX (T := t_see_place) Fn sc_see_place (by decide) (fun cdv A outer s H E hr => by
    have hu := hu_of hr
    have hu64 := hr.units
    have nd := sc_see_place.nd
    have tk := takes_of (X := cxOf (L2.CX P w) P w g.K mg base ["self", "place"] "Net.see_place" (defScope s_see_place) f cdv A outer s H E) rfl rfl rfl rfl
    exact (ss_cons (s_if (ps_if (PW.pt (pw_o (pw_or (pt_2 (pt_cmpR op_lt (ev_var (pv 1)) (ev_int pe_int) (nomark _)) d_lt) (pw_or1 (pt_2 (pt_cmpR op_ge (ev_var (pv 1)) (ev_many T.net (pe_fld (pv 0) rfl)) (nomark _)) d_ge))))) (ss_cons (s_raiseX T.x_NoPlace rfl rfl tk rfl) (ss_nil pss_nil)) (ss_nil pss_nil))) (ss_nil pss_nil))) v_see_place
theorem sc_see_pipe : FnScope ["self", "pipe"] ["self", "pipe"] (defScope s_see_pipe) := ⟨rfl, rfl, rfl, by decide +kernel, rfl, by decide +kernel, by decide +kernel⟩
theorem w_see_pipe {f : Addr} {fd : FuncData} (Fn : Fun g.K "see_pipe" "Net.see_pipe" s_see_pipe f fd) (T : Txt g mg)  : FnOk P w g.K mg base (L2.CX P w) 1 f fd ["self", "pipe"] (spP g 2 F_see_pipe) :=
  ok_fnX (T := t_see_pipe) Fn sc_see_pipe (by decide) (fun cdv A outer s H E hr => by
    have hu := hu_of hr
    have hu64 := hr.units
    have nd := sc_see_pipe.nd
    have tk := takes_of (X := cxOf (L2.CX P w) P w g.K mg base ["self", "pipe"] "Net.see_pipe" (defScope s_see_pipe) f cdv A outer s H E) rfl rfl rfl rfl
    exact (ss_cons (s_if (ps_if (PW.pt (pw_o (pw_or (pt_2 (pt_cmpR op_lt (ev_var (pv 1)) (ev_int pe_int) (nomark _)) d_lt) (pw_or1 (pt_2 (pt_cmpR op_ge (ev_var (pv 1)) (ek_1 (to_1 (pe_callB call_len (by rfl) T.b_len PySem.boot_len (pa_cons (el_laid T.net (pe_fld (pv 0) rfl)) pa_nil))) d_lenL) (nomark _)) d_ge))))) (ss_cons (s_raiseX T.x_NoPipe rfl rfl tk rfl) (ss_nil pss_nil)) (ss_nil pss_nil))) (ss_nil pss_nil))) v_see_pipe
theorem sc_lay : FnScope ["self", "start", "goal"] ["self", "start", "goal"] (defScope s_lay) := ⟨rfl, rfl, rfl, by decide +kernel, rfl, by decide +kernel, by decide +kernel⟩
theorem w_lay {f : Addr} {fd : FuncData} (Fn : Fun g.K "lay" "Net.lay" s_lay f fd) (T : Txt g mg) (C_see_place : Cam P w g mg base (L2.CX P w) "see_place" 1 (spP g 2 F_see_place)) : FnOk P w g.K mg base (L2.CX P w) 2 f fd ["self", "start", "goal"] (spM g 3 G_lay) :=
  ok_fnM (T := t_lay) Fn sc_lay (by decide) (fun cdv A outer s H E hr => by
    have hu := hu_of hr
    have hu64 := hr.units
    have nd := sc_lay.nd
    have tk := takes_of (X := cxOf (L2.CX P w) P w g.K mg base ["self", "start", "goal"] "Net.lay" (defScope s_lay) f cdv A outer s H E) rfl rfl rfl rfl
    exact (ss_cons (s_exprX (ps_expr (ex_meth nf_see_place (pe_cam C_see_place rfl T.net.cl (hr.mono (by decide)) (fun σ => passAt tk σ) (pv 0) (ear_v (pa_cons (ev_var (pv 1)) (ear_nil pa_nil))))))) (ss_cons (s_exprX (ps_expr (ex_meth nf_see_place (pe_cam C_see_place rfl T.net.cl (hr.mono (by decide)) (fun σ => passAt tk σ) (pv 0) (ear_v (pa_cons (ev_var (pv 2)) (ear_nil pa_nil))))))) (ss_cons (s_if (ps_if (pt_2 (pt_cmpR (op_eq2 hu64) (ev_var (pv 1)) (ev_var (pv 2)) (nomark _)) d_eq) (ss_cons (s_raiseX T.x_SamePlace rfl rfl tk rfl) (ss_nil pss_nil)) (ss_nil pss_nil))) (ss_cons (s_if (ps_if (pt_2 (pt_cmpR op_ge (ek_1 (to_1 (pe_callB call_len (by rfl) T.b_len PySem.boot_len (pa_cons (el_laid T.net (pe_fld (pv 0) rfl)) pa_nil))) d_lenL) (ev_int (pe_gint T.c_PIPES)) (nomark _)) d_ge) (ss_cons (s_raiseX T.x_TooMuch rfl rfl tk rfl) (ss_nil pss_nil)) (ss_nil pss_nil))) (ss_cons (s_appN T.net (ps_expr (pe_bm PySem.F.plainAttrs_list PySem.F.slot_list_append PySem.F.type_list_append mt_append (pe_fld (pv 0) rfl) (pa_cons (ev_tup (pe_tup (ea_cons (pa_cons (ev_var (pv 1)) (ea_cons (pa_cons (ev_var (pv 2)) (ea_cons (pa_cons (ev_bl pe_bl) (ea_nil pa_nil))))))))) pa_nil)))) (ss_cons (s_retV (ps_ret (ek_2 (pe_op op_sub (ek_1 (to_1 (pe_callB call_len (by rfl) T.b_len PySem.boot_len (pa_cons (el_laid T.net (pe_fld (pv 0) rfl)) pa_nil))) d_lenL) (ev_int pe_int)) d_sub))) (ss_nil pss_nil)))))))) v_lay
theorem sc_turn : FnScope ["self", "pipe", "opened", "old"] ["self", "pipe", "opened"] (defScope s_turn) := ⟨rfl, rfl, rfl, by decide +kernel, rfl, by decide +kernel, by decide +kernel⟩
theorem w_turn {f : Addr} {fd : FuncData} (Fn : Fun g.K "turn" "Net.turn" s_turn f fd) (T : Txt g mg) (C_see_pipe : Cam P w g mg base (L2.CX P w) "see_pipe" 1 (spP g 2 F_see_pipe)) : FnOk P w g.K mg base (L2.CX P w) 2 f fd ["self", "pipe", "opened"] (spM g 3 G_turn) :=
  ok_fnM (T := t_turn) Fn sc_turn (by decide) (fun cdv A outer s H E hr => by
    have hu := hu_of hr
    have hu64 := hr.units
    have nd := sc_turn.nd
    have tk := takes_of (X := cxOf (L2.CX P w) P w g.K mg base ["self", "pipe", "opened", "old"] "Net.turn" (defScope s_turn) f cdv A outer s H E) rfl rfl rfl rfl
    exact (ss_cons (s_exprX (ps_expr (ex_meth nf_see_pipe (pe_cam C_see_pipe rfl T.net.cl (hr.mono (by decide)) (fun σ => passAt tk σ) (pv 0) (ear_v (pa_cons (ev_var (pv 1)) (ear_nil pa_nil))))))) (ss_cons (s_asgV (ps_set (i := 3) nd rfl (by first | exact Or.inl rfl | exact Or.inr rfl) (ek_2 (pe_ix ix_list (el_laid T.net (pe_fld (pv 0) rfl)) (ev_var (pv 1)) (fun _ _ => rfl)) d_ixL))) (ss_cons (s_setN T.net (ps_asg (ev_tup (pe_tup (ea_cons (pa_cons (ek_2 (pe_ix ix_seq (ev_var (pv 3)) (ev_int pe_int) (fun _ _ => rfl)) d_ix) (ea_cons (pa_cons (ek_2 (pe_ix ix_seq (ev_var (pv 3)) (ev_int pe_int) (fun _ _ => rfl)) d_ix) (ea_cons (pa_cons (ev_var (pv 2)) (ea_nil pa_nil))))))))) (pg_sub (pe_fld (pv 0) rfl) (ev_var (pv 1)) set_list))) (ss_nil pss_nil))))) v_turn
theorem sc_shut : FnScope ["self", "pipe"] ["self", "pipe"] (defScope s_shut) := ⟨rfl, rfl, rfl, by decide +kernel, rfl, by decide +kernel, by decide +kernel⟩
theorem w_shut {f : Addr} {fd : FuncData} (Fn : Fun g.K "shut" "Net.shut" s_shut f fd) (T : Txt g mg) (C_turn : Cam P w g mg base (L2.CX P w) "turn" 2 (spM g 3 G_turn)) : FnOk P w g.K mg base (L2.CX P w) 3 f fd ["self", "pipe"] (spM g 2 G_shut) :=
  ok_fnM (T := t_shut) Fn sc_shut (by decide) (fun cdv A outer s H E hr => by
    have hu := hu_of hr
    have hu64 := hr.units
    have nd := sc_shut.nd
    have tk := takes_of (X := cxOf (L2.CX P w) P w g.K mg base ["self", "pipe"] "Net.shut" (defScope s_shut) f cdv A outer s H E) rfl rfl rfl rfl
    exact (ss_cons (s_nm nf_turn (ps_expr (pe_cam C_turn rfl T.net.cl (hr.mono (by decide)) (fun σ => passAt tk σ) (pv 0) (ear_v (pa_cons (ev_var (pv 1)) (ear_v (pa_cons (ev_bl pe_bl) (ear_nil pa_nil)))))))) (ss_nil pss_nil))) v_shut
theorem sc_pipes : FnScope ["self"] ["self"] (defScope s_pipes) := ⟨rfl, rfl, rfl, by decide +kernel, rfl, by decide +kernel, by decide +kernel⟩
theorem w_pipes {f : Addr} {fd : FuncData} (Fn : Fun g.K "pipes" "Net.pipes" s_pipes f fd) (T : Txt g mg)  : FnOk P w g.K mg base CX0 1 f fd ["self"] (spP g 1 F_pipes) :=
  ok_fn (T := t_pipes) Fn sc_pipes (by decide) (fun cdv A outer s H E hr => by
    have hu := hu_of hr
    have hu64 := hr.units
    have nd := sc_pipes.nd
    exact (ss_cons (s_retO (ps_ret (ek_1 (to_1 (pe_callTy call_list_of (by rfl) T.b_list (by decide +kernel) (pa_cons (el_laid T.net (pe_fld (pv 0) rfl)) pa_nil))) d_list))) (ss_nil pss_nil))) v_pipes
theorem sc_wet : FnScope ["size", "pipes", "here", "turned", "number", "start", "goal", "place"] ["size", "pipes"] (defScope s_wet) := ⟨rfl, rfl, rfl, by decide +kernel, rfl, by decide +kernel, by decide +kernel⟩
theorem w_wet {f : Addr} {fd : FuncData} (Fn : Fun g.K "wet" "wet" s_wet f fd) (T : Txt g mg)  : FnOk P w g.K mg base CX0 1 f fd ["size", "pipes"] (spP g 2 F_wet) :=
  ok_fn (T := t_wet) Fn sc_wet (by decide) (fun cdv A outer s H E hr => by
    have hu := hu_of hr
    have hu64 := hr.units
    have nd := sc_wet.nd
    exact (ss_cons (s_asgLc tg_name gN_len (ps_setLc (i := 2) (own := [("place", 7)]) rfl nd rfl rfl (sw_true rfl rfl rfl (by decide +kernel)) (ei_SG (ei_rng1 (pi_range1 rfl T.b_range (pa_cons (ev_var (pv 0)) pa_nil)))) (blkOk_by (own := [("place", 7)]) (N := ["size", "pipes", "here", "turned", "number", "start", "goal", "place"]) (sc := defScope s_wet) (by decide +kernel)) (fun _ _ _ _ _ => (pg_name (i := 7) nd rfl (by first | exact Or.inl rfl | exact Or.inr rfl))) (fun _ _ _ _ _ => (pts_yes pts_nil)) (fun _ _ _ _ _ => (ev_non pe_non)))) (ss_cons (s_set (ps_asg (ek_1 (pe_un un_neg (ev_int pe_int)) d_neg) (pg_sub (pv 2) (ev_int pe_int) set_list))) (ss_cons (s_asgV (ps_set (i := 3) nd rfl (by first | exact Or.inl rfl | exact Or.inr rfl) (ev_bl pe_bl))) (ss_cons (s_while (ps_while PassesOwn.never (pt_v (pt_val (ev_var (pv 3)))) (ss_cons (s_asgV (ps_set (i := 3) nd rfl (by first | exact Or.inl rfl | exact Or.inr rfl) (ev_bl pe_bl))) (ss_cons (s_for (tg_tup (tgs_cons (tgs_cons (tgs_cons tgs_nil))) rfl) tv_tup (ps_for PassesOwn.never rfl (ei_list (pi_list (ev_var (pv 1)))) (pg_tup rfl (pgs_cons (pg_name (i := 4) nd rfl (by first | exact Or.inl rfl | exact Or.inr rfl)) (pgs_cons (pg_name (i := 5) nd rfl (by first | exact Or.inl rfl | exact Or.inr rfl)) (pgs_cons (pg_name (i := 6) nd rfl (by first | exact Or.inl rfl | exact Or.inr rfl)) pgs_nil)))) (ss_cons (s_if (ps_if (PW.pt (pw_a (pw_and (pt_2 (pt_cmpR op_notN (ek_2 (pe_ix ix_list (el_var (pv 2)) (ev_var (pv 5)) (fun _ _ => rfl)) d_ixL) (ev_non pe_non) (nomark _)) d_notN) (pw_and1 (pt_2 (pt_cmpR op_isN (ek_2 (pe_ix ix_list (el_var (pv 2)) (ev_var (pv 6)) (fun _ _ => rfl)) d_ixL) (ev_non pe_non) (nomark _)) d_isN))))) (ss_cons (s_set (ps_asg (ev_var (pv 4)) (pg_sub (pv 2) (ev_var (pv 6)) set_list))) (ss_cons (s_asgV (ps_set (i := 3) nd rfl (by first | exact Or.inl rfl | exact Or.inr rfl) (ev_bl pe_bl))) (ss_nil pss_nil))) (ss_nil pss_nil))) (ss_nil pss_nil)))) (ss_nil pss_nil))))) (ss_cons (s_retS (ps_ret (pv 2))) (ss_nil pss_nil))))))) v_wet
theorem sc_is_tree : FnScope ["net", "pipes", "number", "laid"] ["net", "pipes"] (defScope s_is_tree) := ⟨rfl, rfl, rfl, by decide +kernel, rfl, by decide +kernel, by decide +kernel⟩
theorem w_is_tree {f : Addr} {fd : FuncData} (Fn : Fun g.K "is_tree" "is_tree" s_is_tree f fd) (T : Txt g mg) (C_see_pipe : Cam P w g mg base (L2.CX P w) "see_pipe" 1 (spP g 2 F_see_pipe)) (C_pipes : Cam P w g mg base CX0 "pipes" 1 (spP g 1 F_pipes)) (C_size : Cam P w g mg base CX0 "size" 1 (spP g 1 F_size)) (C_wet : Cal P w g mg base CX0 "wet" 1 (spP g 2 F_wet)) : FnOk P w g.K mg base (L2.CX P w) 2 f fd ["net", "pipes"] (spP g 2 F_is_tree) :=
  ok_fnX (T := t_is_tree) Fn sc_is_tree (by decide) (fun cdv A outer s H E hr => by
    have hu := hu_of hr
    have hu64 := hr.units
    have nd := sc_is_tree.nd
    have tk := takes_of (X := cxOf (L2.CX P w) P w g.K mg base ["net", "pipes", "number", "laid"] "is_tree" (defScope s_is_tree) f cdv A outer s H E) rfl rfl rfl rfl
    exact (ss_cons (s_for tg_name tv_name (ps_for (passes_of rfl) rfl (ei_list (pi_list (ev_var (pv 1)))) (pg_name (i := 2) nd rfl (by first | exact Or.inl rfl | exact Or.inr rfl)) (ss_cons (s_exprX (ps_expr (ex_meth nf_see_pipe (pe_cam C_see_pipe rfl T.net.cl (hr.mono (by decide)) (fun σ => passAt tk σ) (pv 0) (ear_v (pa_cons (ev_var (pv 2)) (ear_nil pa_nil))))))) (ss_nil pss_nil)))) (ss_cons (s_asgV (ps_set (i := 3) nd rfl (by first | exact Or.inl rfl | exact Or.inr rfl) (ev_ofO (eo_ofX (ex_meth0 nf_pipes (pe_cam0 C_pipes rfl T.net.cl (hr.mono (by decide)) (fun _ => noPass0) (pv 0))))))) (ss_cons (s_for tg_name tv_name (ps_for (passes_of rfl) rfl (ei_list (pi_list (ev_var (pv 1)))) (pg_name (i := 2) nd rfl (by first | exact Or.inl rfl | exact Or.inr rfl)) (ss_cons (s_if (ps_if (pt_n (pt_not (pt_v (pt_val (ek_2 (pe_ix ix_seq (ek_2 (pe_ix ix_seq (ev_var (pv 3)) (ev_var (pv 2)) (fun _ _ => rfl)) d_ix) (ev_int pe_int) (fun _ _ => rfl)) d_ix))))) (ss_cons (s_retV (ps_ret (ev_bl pe_bl))) (ss_nil pss_nil)) (ss_nil pss_nil))) (ss_nil pss_nil)))) (ss_cons (s_if (ps_if (pt_2 (pt_cmpR (op_ne2 hu64) (ek_1 (to_1 (pe_callB call_len (by rfl) T.b_len PySem.boot_len (pa_cons (el_var (pv 1)) pa_nil))) d_lenL) (ek_2 (pe_op op_sub (ev_ofO (eo_ofX (ex_meth0 nf_size (pe_cam0 C_size rfl T.net.cl (hr.mono (by decide)) (fun _ => noPass0) (pv 0))))) (ev_int pe_int)) d_sub) (nomark _)) d_ne) (ss_cons (s_retV (ps_ret (ev_bl pe_bl))) (ss_nil pss_nil)) (ss_nil pss_nil))) (ss_cons (s_retV (ps_ret (ek_2 (pe_cmpR op_notIn_seq (ev_non pe_non) (el_ofO (eo_ofX (ex_cal C_wet rfl (hr.mono (by decide)) rfl (fun _ => noPass0) (ear_v (pa_cons (ev_ofO (eo_ofX (ex_meth0 nf_size (pe_cam0 C_size rfl T.net.cl (hr.mono (by decide)) (fun _ => noPass0) (pv 0))))) (ear_v (pa_cons (ev_ofO (eo_lc tg_name gN_len (pe_lc (own := [("number", 2)]) rfl nd (ei_listL (pi_list (el_var (pv 1)))) (blkOk_by (own := [("number", 2)]) (N := ["net", "pipes", "number", "laid"]) (sc := defScope s_is_tree) (by decide +kernel)) (fun _ _ _ _ _ => (pg_name (i := 2) nd rfl (by first | exact Or.inl rfl | exact Or.inr rfl))) (fun _ _ _ _ _ => (pts_yes pts_nil)) (fun _ _ _ _ _ => (ev_tup (pe_tup (ea_cons (pa_cons (ev_var (pv 2)) (ea_cons (pa_cons (ek_2 (pe_ix ix_seq (ek_2 (pe_ix ix_seq (ev_var (pv 3)) (ev_var (pv 2)) (fun _ _ => rfl)) d_ix) (ev_int pe_int) (fun _ _ => rfl)) d_ix) (ea_cons (pa_cons (ek_2 (pe_ix ix_seq (ek_2 (pe_ix ix_seq (ev_var (pv 3)) (ev_var (pv 2)) (fun _ _ => rfl)) d_ix) (ev_int pe_int) (fun _ _ => rfl)) d_ix) (ea_nil pa_nil))))))))))))) (ear_nil pa_nil)))))))) (by rfl)) (d_inL true)))) (ss_nil pss_nil))))))) v_is_tree
theorem sc_law_cell_at : FnScope ["script", "k"] ["script", "k"] (defScope s_law_cell_at) := ⟨rfl, rfl, rfl, by decide +kernel, rfl, by decide +kernel, by decide +kernel⟩
theorem w_law_cell_at {f : Addr} {fd : FuncData} (Fn : Fun g.K "_law_cell_at" "_law_cell_at" s_law_cell_at f fd) (T : Txt g mg)  : FnOk P w g.K mg base CX0 1 f fd ["script", "k"] (spP g 2 F_law_cell_at) :=
  ok_fn (T := t_law_cell_at) Fn sc_law_cell_at (by decide) (fun cdv A outer s H E hr => by
    have hu := hu_of hr
    have hu64 := hr.units
    have nd := sc_law_cell_at.nd
    exact (ss_cons (s_if (ps_if (pt_2 (pt_cmpR op_lt (ev_var (pv 1)) (ek_1 (to_1 (pe_callB call_len (by rfl) T.b_len PySem.boot_len (pa_cons (ev_var (pv 0)) pa_nil))) d_len) (nomark _)) d_lt) (ss_cons (s_retV (ps_ret (ek_2 (pe_ix ix_seq (ev_var (pv 0)) (ev_var (pv 1)) (fun _ _ => rfl)) d_ix))) (ss_nil pss_nil)) (ss_nil pss_nil))) (ss_cons (s_retV (ps_ret (ev_int pe_int))) (ss_nil pss_nil)))) v_law_cell_at
theorem sc_law_whole : FnScope ["found"] ["found"] (defScope s_law_whole) := ⟨rfl, rfl, rfl, by decide +kernel, rfl, by decide +kernel, by decide +kernel⟩
theorem w_law_whole {f : Addr} {fd : FuncData} (Fn : Fun g.K "_law_whole" "_law_whole" s_law_whole f fd) (T : Txt g mg)  : FnOk P w g.K mg base CX0 1 f fd ["found"] (spP g 1 F_law_whole) :=
  ok_fn (T := t_law_whole) Fn sc_law_whole (by decide) (fun cdv A outer s H E hr => by
    have hu := hu_of hr
    have hu64 := hr.units
    have nd := sc_law_whole.nd
    exact (ss_cons (s_retV (ps_ret (ev_and (pe_and (ev_isi (to_2 (pe_callB call_isi (by rfl) T.b_isinstance (by decide +kernel) (pa_cons (ev_var (pv 0)) (pa_cons (pe_bltn (v := .ty "int") (by rfl) T.b_int (by decide +kernel) rfl) pa_nil))))) (pe_one (ev_not (pe_not (ev_isi (to_2 (pe_callB call_isi (by rfl) T.b_isinstance (by decide +kernel) (pa_cons (ev_var (pv 0)) (pa_cons (pe_bltn (v := .ty "bool") (by rfl) T.b_bool (by decide +kernel) rfl) pa_nil)))))))))))) (ss_nil pss_nil))) v_law_whole
theorem sc_law_pipe_by : FnScope ["cell", "size", "start", "goal"] ["cell", "size"] (defScope s_law_pipe_by) := ⟨rfl, rfl, rfl, by decide +kernel, rfl, by decide +kernel, by decide +kernel⟩
theorem w_law_pipe_by {f : Addr} {fd : FuncData} (Fn : Fun g.K "_law_pipe_by" "_law_pipe_by" s_law_pipe_by f fd) (T : Txt g mg)  : FnOk P w g.K mg base CX0 1 f fd ["cell", "size"] (spP g 2 F_law_pipe_by) :=
  ok_fn (T := t_law_pipe_by) Fn sc_law_pipe_by (by decide) (fun cdv A outer s H E hr => by
    have hu := hu_of hr
    have hu64 := hr.units
    have nd := sc_law_pipe_by.nd
    exact (ss_cons (s_asgV (ps_set (i := 2) nd rfl (by first | exact Or.inl rfl | exact Or.inr rfl) (ek_2 (pe_op op_mod (ev_var (pv 0)) (ev_var (pv 1))) d_mod))) (ss_cons (s_asgV (ps_set (i := 3) nd rfl (by first | exact Or.inl rfl | exact Or.inr rfl) (ek_2 (pe_op op_mod (ek_2 (pe_op op_add (ek_2 (pe_op op_add (ev_var (pv 2)) (ev_int pe_int)) d_add) (ek_2 (pe_op op_mod (ek_2 (pe_op op_fdiv (ev_var (pv 0)) (ev_var (pv 1))) d_div) (ek_2 (pe_op op_sub (ev_var (pv 1)) (ev_int pe_int)) d_sub)) d_mod)) d_add) (ev_var (pv 1))) d_mod))) (ss_cons (s_retV (ps_ret (ev_tup (pe_tup (ea_cons (pa_cons (ev_var (pv 2)) (ea_cons (pa_cons (ev_var (pv 3)) (ea_cons (pa_cons (ek_2 (pe_cmpR (op_ne2 hu64) (ek_2 (pe_op op_mod (ek_2 (pe_op op_fdiv (ev_var (pv 0)) (ev_int pe_int)) d_div) (ev_int pe_int)) d_mod) (ev_int pe_int) (nomark _)) d_ne) (ea_nil pa_nil))))))))))) (ss_nil pss_nil))))) v_law_pipe_by
theorem sc_law_pipes_by : FnScope ["script", "first", "many", "size", "k"] ["script", "first", "many", "size"] (defScope s_law_pipes_by) := ⟨rfl, rfl, rfl, by decide +kernel, rfl, by decide +kernel, by decide +kernel⟩
theorem w_law_pipes_by {f : Addr} {fd : FuncData} (Fn : Fun g.K "_law_pipes_by" "_law_pipes_by" s_law_pipes_by f fd) (T : Txt g mg) (C_law_pipe_by : Cal P w g mg base CX0 "_law_pipe_by" 1 (spP g 2 F_law_pipe_by)) (C_law_cell_at : Cal P w g mg base CX0 "_law_cell_at" 1 (spP g 2 F_law_cell_at)) : FnOk P w g.K mg base CX0 2 f fd ["script", "first", "many", "size"] (spP g 4 F_law_pipes_by) :=
  ok_fn (T := t_law_pipes_by) Fn sc_law_pipes_by (by decide) (fun cdv A outer s H E hr => by
    have hu := hu_of hr
    have hu64 := hr.units
    have nd := sc_law_pipes_by.nd
    exact (ss_cons (s_if (ps_if (pt_2 (pt_cmpR op_lt (ev_var (pv 3)) (ev_int pe_int) (nomark _)) d_lt) (ss_cons (s_retO (ps_ret (eo_lst (pe_lst (ea_nil pa_nil))))) (ss_nil pss_nil)) (ss_nil pss_nil))) (ss_cons (s_retO (ps_ret (eo_lc tg_name gN_len (pe_lc (own := [("k", 4)]) rfl nd (ei_SG (ei_rng1 (pi_range1 rfl T.b_range (pa_cons (ev_var (pv 2)) pa_nil)))) (blkOk_by (own := [("k", 4)]) (N := ["script", "first", "many", "size", "k"]) (sc := defScope s_law_pipes_by) (by decide +kernel)) (fun _ _ _ _ _ => (pg_name (i := 4) nd rfl (by first | exact Or.inl rfl | exact Or.inr rfl))) (fun _ _ _ _ _ => (pts_yes pts_nil)) (fun _ _ _ _ _ => (ev_ofO (eo_ofX (ex_cal C_law_pipe_by rfl (hr.mono (by decide)) rfl (fun _ => noPass0) (ear_v (pa_cons (ev_ofO (eo_ofX (ex_cal C_law_cell_at rfl (hr.mono (by decide)) rfl (fun _ => noPass0) (ear_v (pa_cons (ev_var (pv 0)) (ear_v (pa_cons (ek_2 (pe_op op_add (ev_var (pv 1)) (ev_var (pv 4))) d_add) (ear_nil pa_nil)))))))) (ear_v (pa_cons (ev_var (pv 3)) (ear_nil pa_nil))))))))))))) (ss_nil pss_nil)))) v_law_pipes_by
theorem sc_law_net_by : FnScope ["size", "pipes", "net", "start", "goal", "opened", "number"] ["size", "pipes"] (defScope s_law_net_by) := ⟨rfl, rfl, rfl, by decide +kernel, rfl, by decide +kernel, by decide +kernel⟩
theorem w_law_net_by {f : Addr} {fd : FuncData} (Fn : Fun g.K "_law_net_by" "_law_net_by" s_law_net_by f fd) (T : Txt g mg) (C_init : Cak P w g mg base (L2.CX P w) "Net" 1 (spInit g)) (C_lay : Cam P w g mg base (L2.CX P w) "lay" 2 (spM g 3 G_lay)) (C_shut : Cam P w g mg base (L2.CX P w) "shut" 3 (spM g 2 G_shut)) : FnOk P w g.K mg base CX0 4 f fd ["size", "pipes"] (spP g 2 F_law_net_by) :=
  ok_fn (T := t_law_net_by) Fn sc_law_net_by (by decide) (fun cdv A outer s H E hr => by
    have hu := hu_of hr
    have hu64 := hr.units
    have nd := sc_law_net_by.nd
    exact (ss_cons (s_asgO (ps_set (i := 2) nd rfl (by first | exact Or.inl rfl | exact Or.inr rfl) (eo_ofX (ex_new (pe_cak C_init rfl (hr.mono (by decide)) rfl (fun _ => noPassX) (pa_cons (ev_var (pv 0)) pa_nil)))))) (ss_cons (s_forRo (tg_tup (tgs_cons (tgs_cons (tgs_cons tgs_nil))) rfl) tv_tup (ps_for PassesOwn.never rfl (pi_list (pv 1)) (pg_tup rfl (pgs_cons (pg_name (i := 3) nd rfl (by first | exact Or.inl rfl | exact Or.inr rfl)) (pgs_cons (pg_name (i := 4) nd rfl (by first | exact Or.inl rfl | exact Or.inr rfl)) (pgs_cons (pg_name (i := 5) nd rfl (by first | exact Or.inl rfl | exact Or.inr rfl)) pgs_nil)))) (ss_cons (s_nmA nf_lay (ps_set (i := 6) nd rfl (by first | exact Or.inl rfl | exact Or.inr rfl) (pe_cam C_lay rfl T.net.cl (hr.mono (by decide)) (fun _ => noPassX) (pv 2) (ear_v (pa_cons (ev_var (pv 3)) (ear_v (pa_cons (ev_var (pv 4)) (ear_nil pa_nil)))))))) (ss_cons (s_if (ps_if (pt_n (pt_not (pt_v (pt_val (ev_var (pv 5)))))) (ss_cons (s_nm nf_shut (ps_expr (pe_cam C_shut rfl T.net.cl (hr.mono (by decide)) (fun _ => noPassX) (pv 2) (ear_v (pa_cons (ev_var (pv 6)) (ear_nil pa_nil)))))) (ss_nil pss_nil)) (ss_nil pss_nil))) (ss_nil pss_nil))))) (ss_cons (s_retS (ps_ret (pv 2))) (ss_nil pss_nil))))) v_law_net_by
theorem sc_law_size_of : FnScope ["script", "small", "head"] ["script", "small"] (defScope s_law_size_of) := ⟨rfl, rfl, rfl, by decide +kernel, rfl, by decide +kernel, by decide +kernel⟩
theorem w_law_size_of {f : Addr} {fd : FuncData} (Fn : Fun g.K "_law_size_of" "_law_size_of" s_law_size_of f fd) (T : Txt g mg) (C_law_cell_at : Cal P w g mg base CX0 "_law_cell_at" 1 (spP g 2 F_law_cell_at)) : FnOk P w g.K mg base CX0 2 f fd ["script", "small"] (spP g 2 F_law_size_of) :=
  ok_fn (T := t_law_size_of) Fn sc_law_size_of (by decide) (fun cdv A outer s H E hr => by
    have hu := hu_of hr
    have hu64 := hr.units
    have nd := sc_law_size_of.nd
    exact (ss_cons (s_asgV (ps_set (i := 2) nd rfl (by first | exact Or.inl rfl | exact Or.inr rfl) (ev_ofO (eo_ofX (ex_cal C_law_cell_at rfl (hr.mono (by decide)) rfl (fun _ => noPass0) (ear_v (pa_cons (ev_var (pv 0)) (ear_v (pa_cons (ev_int pe_int) (ear_nil pa_nil)))))))))) (ss_cons (s_if (ps_if (pt_2 (pt_cmpR (op_eq2 hu64) (ek_2 (pe_op op_mod (ek_2 (pe_op op_fdiv (ev_var (pv 2)) (ev_int pe_int)) d_div) (ev_int pe_int)) d_mod) (ev_int pe_int) (nomark _)) d_eq) (ss_cons (s_retV (ps_ret (ev_int pe_int))) (ss_nil pss_nil)) (ss_nil pss_nil))) (ss_cons (s_retV (ps_ret (ek_2 (pe_op op_add (ev_int pe_int) (ek_2 (pe_op op_mod (ev_var (pv 2)) (ev_var (pv 1))) d_mod)) d_add))) (ss_nil pss_nil))))) v_law_size_of
theorem sc_law_wet : FnScope ["size", "pairs", "here", "turn", "start", "goal"] ["size", "pairs"] (defScope s_law_wet) := ⟨rfl, rfl, rfl, by decide +kernel, rfl, by decide +kernel, by decide +kernel⟩
theorem w_law_wet {f : Addr} {fd : FuncData} (Fn : Fun g.K "_law_wet" "_law_wet" s_law_wet f fd) (T : Txt g mg)  : FnOk P w g.K mg base CX0 1 f fd ["size", "pairs"] (spP g 2 F_law_wet) :=
  ok_fn (T := t_law_wet) Fn sc_law_wet (by decide) (fun cdv A outer s H E hr => by
    have hu := hu_of hr
    have hu64 := hr.units
    have nd := sc_law_wet.nd
    exact (ss_cons (s_asgO (ps_set (i := 2) nd rfl (by first | exact Or.inl rfl | exact Or.inr rfl) (eo_lst (pe_lst (ea_cons (pa_cons (ev_int pe_int) (ea_nil pa_nil))))))) (ss_cons (s_for tg_name tv_name (ps_for PassesOwn.never rfl (ei_rng1 (pi_range1 rfl T.b_range (pa_cons (ev_var (pv 0)) pa_nil))) (pg_name (i := 3) nd rfl (by first | exact Or.inl rfl | exact Or.inr rfl)) (ss_cons (s_for (tg_tup (tgs_cons (tgs_cons tgs_nil)) rfl) tv_tup (ps_for PassesOwn.never rfl (ei_list (pi_list (ev_var (pv 1)))) (pg_tup rfl (pgs_cons (pg_name (i := 4) nd rfl (by first | exact Or.inl rfl | exact Or.inr rfl)) (pgs_cons (pg_name (i := 5) nd rfl (by first | exact Or.inl rfl | exact Or.inr rfl)) pgs_nil))) (ss_cons (s_if (ps_if (PW.pt (pw_a (pw_and (pt_2 (pt_cmpR op_in_seq (ev_var (pv 4)) (el_var (pv 2)) (by rfl)) (d_inL false)) (pw_and1 (pt_2 (pt_cmpR op_notIn_seq (ev_var (pv 5)) (el_var (pv 2)) (by rfl)) (d_inL true)))))) (ss_cons (s_app (ps_expr (pe_bm PySem.F.plainAttrs_list PySem.F.slot_list_append PySem.F.type_list_append mt_append (pv 2) (pa_cons (ev_var (pv 5)) pa_nil)))) (ss_nil pss_nil)) (ss_nil pss_nil))) (ss_nil pss_nil)))) (ss_nil pss_nil)))) (ss_cons (s_retO (ps_ret (ek_1 (to_1 (pe_callB cr_sortedI (by rfl) T.b_sorted (by decide +kernel) (pa_cons (el_var (pv 2)) pa_nil))) d_sorted))) (ss_nil pss_nil))))) v_law_wet
theorem sc_law_numbers : FnScope ["found", "bound", "number"] ["found", "bound"] (defScope s_law_numbers) := ⟨rfl, rfl, rfl, by decide +kernel, rfl, by decide +kernel, by decide +kernel⟩
theorem w_law_numbers {f : Addr} {fd : FuncData} (Fn : Fun g.K "_law_numbers" "_law_numbers" s_law_numbers f fd) (T : Txt g mg) (C_law_whole : Cal P w g mg base CX0 "_law_whole" 1 (spP g 1 F_law_whole)) : FnOk P w g.K mg base CX0 2 f fd ["found", "bound"] (spP g 2 F_law_numbers) :=
  ok_fn (T := t_law_numbers) Fn sc_law_numbers (by decide) (fun cdv A outer s H E hr => by
    have hu := hu_of hr
    have hu64 := hr.units
    have nd := sc_law_numbers.nd
    exact (ss_cons (s_if (ps_if (pt_n (pt_not (pt_v (pt_val (ev_isi (to_2 (pe_callB call_isi (by rfl) T.b_isinstance (by decide +kernel) (pa_cons (ev_var (pv 0)) (pa_cons (pe_bltn (v := .ty "list") (by rfl) T.b_list (by decide +kernel) rfl) pa_nil))))))))) (ss_cons (s_retV (ps_ret (ev_bl pe_bl))) (ss_nil pss_nil)) (ss_nil pss_nil))) (ss_cons (s_for tg_name tv_name (ps_for PassesOwn.never rfl (ei_list (pi_list (ev_var (pv 0)))) (pg_name (i := 2) nd rfl (by first | exact Or.inl rfl | exact Or.inr rfl)) (ss_cons (s_if (ps_if (PW.pt (pw_o (pw_or (pt_n (pt_not (pt_v (pt_val (ev_ofO (eo_ofX (ex_cal C_law_whole rfl (hr.mono (by decide)) rfl (fun _ => noPass0) (ear_v (pa_cons (ev_var (pv 2)) (ear_nil pa_nil)))))))))) (pw_o (pw_or (pt_2 (pt_cmpR op_lt (ev_var (pv 2)) (ev_int pe_int) (nomark _)) d_lt) (pw_or1 (pt_2 (pt_cmpR op_ge (ev_var (pv 2)) (ev_var (pv 1)) (nomark _)) d_ge))))))) (ss_cons (s_retV (ps_ret (ev_bl pe_bl))) (ss_nil pss_nil)) (ss_nil pss_nil))) (ss_nil pss_nil)))) (ss_cons (s_retV (ps_ret (ev_bl pe_bl))) (ss_nil pss_nil))))) v_law_numbers
theorem sc_law_rising : FnScope ["found", "bound"] ["found", "bound"] (defScope s_law_rising) := ⟨rfl, rfl, rfl, by decide +kernel, rfl, by decide +kernel, by decide +kernel⟩
theorem w_law_rising {f : Addr} {fd : FuncData} (Fn : Fun g.K "_law_rising" "_law_rising" s_law_rising f fd) (T : Txt g mg) (C_law_numbers : Cal P w g mg base CX0 "_law_numbers" 2 (spP g 2 F_law_numbers)) : FnOk P w g.K mg base CX0 3 f fd ["found", "bound"] (spP g 2 F_law_rising) :=
  ok_fn (T := t_law_rising) Fn sc_law_rising (by decide) (fun cdv A outer s H E hr => by
    have hu := hu_of hr
    have hu64 := hr.units
    have nd := sc_law_rising.nd
    exact (ss_cons (s_if (ps_if (pt_n (pt_not (pt_v (pt_val (ev_ofO (eo_ofX (ex_cal C_law_numbers rfl (hr.mono (by decide)) rfl (fun _ => noPass0) (ear_v (pa_cons (ev_var (pv 0)) (ear_v (pa_cons (ev_var (pv 1)) (ear_nil pa_nil)))))))))))) (ss_cons (s_retV (ps_ret (ev_bl pe_bl))) (ss_nil pss_nil)) (ss_nil pss_nil))) (ss_cons (s_retV (ps_ret (ev_and (pe_and (ek_2 (pe_cmpR (op_eq2 hu64) (ev_var (pv 0)) (ev_ofO (ek_1 (to_1 (pe_callB cr_sortedI (by rfl) T.b_sorted (by decide +kernel) (pa_cons (el_var (pv 0)) pa_nil))) d_sorted)) (nomark _)) d_eq) (pe_one (ek_2 (pe_cmpR (op_eq2 hu64) (ek_1 (to_lenSet (RZ.pe_lenSetI (by rfl) T.b_len (by rfl) T.b_set (el_var (pv 0)))) d_lenSet) (ek_1 (to_1 (pe_callB call_len (by rfl) T.b_len PySem.boot_len (pa_cons (el_var (pv 0)) pa_nil))) d_lenL) (nomark _)) d_eq)))))) (ss_nil pss_nil)))) v_law_rising
theorem sc_law_is_tree_k08 : FnScope ["found", "size", "pipes", "number"] ["found", "size", "pipes"] (defScope s_law_is_tree_k08) := ⟨rfl, rfl, rfl, by decide +kernel, rfl, by decide +kernel, by decide +kernel⟩
theorem w_law_is_tree_k08 {f : Addr} {fd : FuncData} (Fn : Fun g.K "_law_is_tree" "_law_is_tree" s_law_is_tree_k08 f fd) (T : Txt g mg) (C_law_rising : Cal P w g mg base CX0 "_law_rising" 3 (spP g 2 F_law_rising)) (C_law_wet : Cal P w g mg base CX0 "_law_wet" 1 (spP g 2 F_law_wet)) : FnOk P w g.K mg base CX0 4 f fd ["found", "size", "pipes"] (spP g 3 F_law_is_tree_k08) :=
  ok_fn (T := t_law_is_tree_k08) Fn sc_law_is_tree_k08 (by decide) (fun cdv A outer s H E hr => by
    have hu := hu_of hr
    have hu64 := hr.units
    have nd := sc_law_is_tree_k08.nd
    exact (ss_cons (s_if (ps_if (PW.pt (pw_o (pw_or (pt_n (pt_not (pt_v (pt_val (ev_ofO (eo_ofX (ex_cal C_law_rising rfl (hr.mono (by decide)) rfl (fun _ => noPass0) (ear_v (pa_cons (ev_var (pv 0)) (ear_v (pa_cons (ek_1 (to_1 (pe_callB call_len (by rfl) T.b_len PySem.boot_len (pa_cons (el_var (pv 2)) pa_nil))) d_lenL) (ear_nil pa_nil)))))))))))) (pw_or1 (pt_2 (pt_cmpR (op_ne2 hu64) (ek_1 (to_1 (pe_callB call_len (by rfl) T.b_len PySem.boot_len (pa_cons (el_var (pv 0)) pa_nil))) d_lenL) (ek_2 (pe_op op_sub (ev_var (pv 1)) (ev_int pe_int)) d_sub) (nomark _)) d_ne))))) (ss_cons (s_retV (ps_ret (ev_bl pe_bl))) (ss_nil pss_nil)) (ss_nil pss_nil))) (ss_cons (s_for tg_name tv_name (ps_for PassesOwn.never rfl (ei_list (pi_list (ev_var (pv 0)))) (pg_name (i := 3) nd rfl (by first | exact Or.inl rfl | exact Or.inr rfl)) (ss_cons (s_if (ps_if (pt_n (pt_not (pt_v (pt_val (ek_2 (pe_ix ix_seq (ek_2 (pe_ix ix_seq (ev_var (pv 2)) (ev_var (pv 3)) (fun _ _ => rfl)) d_ix) (ev_int pe_int) (fun _ _ => rfl)) d_ix))))) (ss_cons (s_retV (ps_ret (ev_bl pe_bl))) (ss_nil pss_nil)) (ss_nil pss_nil))) (ss_nil pss_nil)))) (ss_cons (s_if (ps_if (pt_2 (pt_cmpR (op_ne2 hu64) (ek_1 (pe_lenSetG (by rfl) T.b_len (by rfl) T.b_set (el_ofO (eo_lc tg_name gN_len (pe_lc (own := [("number", 3)]) rfl nd (ei_listL (pi_list (el_var (pv 0)))) (blkOk_by (own := [("number", 3)]) (N := ["found", "size", "pipes", "number"]) (sc := defScope s_law_is_tree_k08) (by decide +kernel)) (fun _ _ _ _ _ => (pg_name (i := 3) nd rfl (by first | exact Or.inl rfl | exact Or.inr rfl))) (fun _ _ _ _ _ => (pts_yes pts_nil)) (fun _ _ _ _ _ => (ek_2 (pe_ix ix_seq (ek_2 (pe_ix ix_seq (ev_var (pv 2)) (ev_var (pv 3)) (fun _ _ => rfl)) d_ix) (ev_int pe_int) (fun _ _ => rfl)) d_ix)))))) d_lenSetG) (ek_2 (pe_op op_sub (ev_var (pv 1)) (ev_int pe_int)) d_sub) (nomark _)) d_ne) (ss_cons (s_retV (ps_ret (ev_bl pe_bl))) (ss_nil pss_nil)) (ss_nil pss_nil))) (ss_cons (s_retV (ps_ret (ek_2 (pe_cmpR (op_eq2 hu64) (ek_1 (to_1 (pe_callB call_len (by rfl) T.b_len PySem.boot_len (pa_cons (el_ofO (eo_ofX (ex_cal C_law_wet rfl (hr.mono (by decide)) rfl (fun _ => noPass0) (ear_v (pa_cons (ev_var (pv 1)) (ear_v (pa_cons (ev_ofO (eo_lc tg_name gN_len (pe_lc (own := [("number", 3)]) rfl nd (ei_listL (pi_list (el_var (pv 0)))) (blkOk_by (own := [("number", 3)]) (N := ["found", "size", "pipes", "number"]) (sc := defScope s_law_is_tree_k08) (by decide +kernel)) (fun _ _ _ _ _ => (pg_name (i := 3) nd rfl (by first | exact Or.inl rfl | exact Or.inr rfl))) (fun _ _ _ _ _ => (pts_yes pts_nil)) (fun _ _ _ _ _ => (ev_tup (pe_tup (ea_cons (pa_cons (ek_2 (pe_ix ix_seq (ek_2 (pe_ix ix_seq (ev_var (pv 2)) (ev_var (pv 3)) (fun _ _ => rfl)) d_ix) (ev_int pe_int) (fun _ _ => rfl)) d_ix) (ea_cons (pa_cons (ek_2 (pe_ix ix_seq (ek_2 (pe_ix ix_seq (ev_var (pv 2)) (ev_var (pv 3)) (fun _ _ => rfl)) d_ix) (ev_int pe_int) (fun _ _ => rfl)) d_ix) (ea_nil pa_nil))))))))))) (ear_nil pa_nil)))))))) pa_nil))) d_lenL) (ev_var (pv 1)) (nomark _)) d_eq))) (ss_nil pss_nil)))))) v_law_is_tree_k08
theorem sc_law_order : FnScope ["cell", "size", "rest", "order", "place"] ["cell", "size"] (defScope s_law_order) := ⟨rfl, rfl, rfl, by decide +kernel, rfl, by decide +kernel, by decide +kernel⟩
theorem w_law_order {f : Addr} {fd : FuncData} (Fn : Fun g.K "_law_order" "_law_order" s_law_order f fd) (T : Txt g mg)  : FnOk P w g.K mg base CX0 1 f fd ["cell", "size"] (spP g 2 F_law_order) :=
  ok_fn (T := t_law_order) Fn sc_law_order (by decide) (fun cdv A outer s H E hr => by
    have hu := hu_of hr
    have hu64 := hr.units
    have nd := sc_law_order.nd
    exact (ss_cons (s_asgLc tg_name gN_len (ps_setLc (i := 2) (own := [("place", 4)]) rfl nd rfl rfl (sw_true rfl rfl rfl (by decide +kernel)) (ei_SG (ei_rng2 (pi_range2 rfl T.b_range (pa_cons (ev_int pe_int) (pa_cons (ev_var (pv 1)) pa_nil))))) (blkOk_by (own := [("place", 4)]) (N := ["cell", "size", "rest", "order", "place"]) (sc := defScope s_law_order) (by decide +kernel)) (fun _ _ _ _ _ => (pg_name (i := 4) nd rfl (by first | exact Or.inl rfl | exact Or.inr rfl))) (fun _ _ _ _ _ => (pts_yes pts_nil)) (fun _ _ _ _ _ => (ev_var (pv 4))))) (ss_cons (s_asgO (ps_set (i := 3) nd rfl (by first | exact Or.inl rfl | exact Or.inr rfl) (eo_lst (pe_lst (ea_cons (pa_cons (ev_int pe_int) (ea_nil pa_nil))))))) (ss_cons (s_while (ps_while PassesOwn.never (pt_2 (pt_cmpR op_gt (ek_1 (to_1 (pe_callB call_len (by rfl) T.b_len PySem.boot_len (pa_cons (el_var (pv 2)) pa_nil))) d_lenL) (ev_int pe_int) (nomark _)) d_gt) (ss_cons (s_asgV (ps_set (i := 0) nd rfl (by first | exact Or.inl rfl | exact Or.inr rfl) (ek_2 (pe_op op_mod (ek_2 (pe_op op_add (ek_2 (pe_op op_mul (ev_var (pv 0)) (ev_int pe_int)) d_mul) (ev_int pe_int)) d_add) (ev_int pe_int)) d_mod))) (ss_cons (s_appPop (by decide) (ps_expr (pe_bm PySem.F.plainAttrs_list PySem.F.slot_list_append PySem.F.type_list_append mt_append (pv 3) (pa_cons (pe_bm PySem.F.plainAttrs_list PySem.F.slot_list_pop PySem.F.type_list_pop mt_popAt (pv 2) (pa_cons (ek_2 (pe_op op_mod (ek_2 (pe_op op_fdiv (ev_var (pv 0)) (ev_int pe_int)) d_div) (ek_1 (to_1 (pe_callB call_len (by rfl) T.b_len PySem.boot_len (pa_cons (el_var (pv 2)) pa_nil))) d_lenL)) d_mod) pa_nil)) pa_nil)))) (ss_nil pss_nil))))) (ss_cons (s_retS (ps_ret (pv 3))) (ss_nil pss_nil)))))) v_law_order
theorem sc_law_spoiled_k08 : FnScope ["chosen", "pipes", "cell", "place", "others", "other", "number"] ["chosen", "pipes", "cell"] (defScope s_law_spoiled_k08) := ⟨rfl, rfl, rfl, by decide +kernel, rfl, by decide +kernel, by decide +kernel⟩
theorem w_law_spoiled_k08 {f : Addr} {fd : FuncData} (Fn : Fun g.K "_law_spoiled" "_law_spoiled" s_law_spoiled_k08 f fd) (T : Txt g mg)  : FnOk P w g.K mg base (L2.CX P w) 1 f fd ["chosen", "pipes", "cell"] (spA g 3 G_law_spoiled_k08) :=
  ok_fnA (T := t_law_spoiled_k08) Fn sc_law_spoiled_k08 (by decide) (fun cdv A outer s H E hr => by
    have hu := hu_of hr
    have hu64 := hr.units
    have nd := sc_law_spoiled_k08.nd
    have tk := takes_of (X := cxOf (L2.CX P w) P w g.K mg base ["chosen", "pipes", "cell", "place", "others", "other", "number"] "_law_spoiled" (defScope s_law_spoiled_k08) f cdv A outer s H E) rfl rfl rfl rfl
    exact (ssA_cons (s_asgV (ps_set (i := 3) nd rfl (by first | exact Or.inl rfl | exact Or.inr rfl) (ek_2 (pe_op op_mod (ek_2 (pe_op op_fdiv (ev_var (pv 2)) (ev_int pe_int)) d_div) (ek_2 (to_2 (pe_callB (call_max2 rfl) (by rfl) T.b_max (by decide +kernel) (pa_cons (ev_int pe_int) (pa_cons (ek_1 (to_1 (pe_callB call_len (by rfl) T.b_len PySem.boot_len (pa_cons (el_var (pv 0)) pa_nil))) d_lenL) pa_nil)))) d_max2)) d_mod))) (ssA_cons (s_asgLcV tg_name gN_len (ps_setLc (i := 4) (own := [("number", 6)]) rfl nd rfl rfl (sw_true rfl rfl rfl (by decide +kernel)) (ei_SG (ei_rng1 (pi_range1 rfl T.b_range (pa_cons (ek_1 (to_1 (pe_callB call_len (by rfl) T.b_len PySem.boot_len (pa_cons (el_var (pv 1)) pa_nil))) d_lenL) pa_nil)))) (blkOk_by (own := [("number", 6)]) (N := ["chosen", "pipes", "cell", "place", "others", "other", "number"]) (sc := defScope s_law_spoiled_k08) (by decide +kernel)) (fun _ _ _ _ _ => (pg_name (i := 6) nd rfl (by first | exact Or.inl rfl | exact Or.inr rfl))) (fun _ _ _ _ _ => (pts_one (pt_2 (pt_cmpR op_notIn_seq (ev_var (pv 6)) (el_var (pv 0)) (by rfl)) (d_inL true)))) (fun _ _ _ _ _ => (ev_var (pv 6))))) (ssA_cons (s_if (ps_if (pt_2 (pt_cmpR (op_eq2 hu64) (ek_2 (pe_op op_mod (ev_var (pv 2)) (ev_int pe_int)) d_mod) (ev_int pe_int) (nomark _)) d_eq) (ss_cons (s_retO (ps_ret (ek_2 (pe_op op_cat (el_ofO (eo_cut (pe_slice sl_list (el_var (pv 0)) (po_n po_none) (po_i (po_some (ev_var (pv 3))))))) (el_ofO (eo_cut (pe_slice sl_list (el_var (pv 0)) (po_i (po_some (ek_2 (pe_op op_add (ev_var (pv 3)) (ev_int pe_int)) d_add))) (po_n po_none))))) d_cat))) (ss_nil pss_nil)) (ss_nil pss_nil))) (ssA_cons (s_if (ps_if (PW.pt (pw_a (pw_and (pt_2 (pt_cmpR (op_eq2 hu64) (ek_2 (pe_op op_mod (ev_var (pv 2)) (ev_int pe_int)) d_mod) (ev_int pe_int) (nomark _)) d_eq) (pw_and1 (pt_2 (pt_cmpR op_gt (ek_1 (to_1 (pe_callB call_len (by rfl) T.b_len PySem.boot_len (pa_cons (el_var (pv 4)) pa_nil))) d_lenL) (ev_int pe_int) (nomark _)) d_gt))))) (ss_cons (s_retO (ps_ret (ek_2 (pe_op op_cat (el_ofO (ek_2 (pe_op op_cat (el_ofO (eo_cut (pe_slice sl_list (el_var (pv 0)) (po_n po_none) (po_i (po_some (ev_var (pv 3))))))) (el_ofO (eo_lst (pe_lst (ea_cons (pa_cons (ek_2 (pe_ix ix_seq (ev_var (pv 4)) (ek_2 (pe_op op_mod (ek_2 (pe_op op_fdiv (ev_var (pv 2)) (ev_int pe_int)) d_div) (ek_1 (to_1 (pe_callB call_len (by rfl) T.b_len PySem.boot_len (pa_cons (el_var (pv 4)) pa_nil))) d_lenL)) d_mod) (fun _ _ => rfl)) d_ix) (ea_nil pa_nil))))))) d_cat)) (el_ofO (eo_cut (pe_slice sl_list (el_var (pv 0)) (po_i (po_some (ev_var (pv 3)))) (po_n po_none))))) d_cat))) (ss_nil pss_nil)) (ss_nil pss_nil))) (ssA_cons (s_if (ps_if (PW.pt (pw_a (pw_and (pt_2 (pt_cmpR op_lt (ek_2 (pe_op op_mod (ev_var (pv 2)) (ev_int pe_int)) d_mod) (ev_int pe_int) (nomark _)) d_lt) (pw_a (pw_and (pt_2 (pt_cmpR op_gt (ek_1 (to_1 (pe_callB call_len (by rfl) T.b_len PySem.boot_len (pa_cons (el_var (pv 4)) pa_nil))) d_lenL) (ev_int pe_int) (nomark _)) d_gt) (pw_and1 (pt_2 (pt_cmpR op_gt (ek_1 (to_1 (pe_callB call_len (by rfl) T.b_len PySem.boot_len (pa_cons (el_var (pv 0)) pa_nil))) d_lenL) (ev_int pe_int) (nomark _)) d_gt))))))) (ss_cons (s_asgV (ps_set (i := 5) nd rfl (by first | exact Or.inl rfl | exact Or.inr rfl) (ek_2 (pe_ix ix_seq (ev_var (pv 4)) (ek_2 (pe_op op_mod (ek_2 (pe_op op_fdiv (ev_var (pv 2)) (ev_int pe_int)) d_div) (ek_1 (to_1 (pe_callB call_len (by rfl) T.b_len PySem.boot_len (pa_cons (el_var (pv 4)) pa_nil))) d_lenL)) d_mod) (fun _ _ => rfl)) d_ix))) (ss_cons (s_retO (ps_ret (ek_2 (pe_op op_cat (el_ofO (ek_2 (pe_op op_cat (el_ofO (eo_cut (pe_slice sl_list (el_var (pv 0)) (po_n po_none) (po_i (po_some (ev_var (pv 3))))))) (el_ofO (eo_lst (pe_lst (ea_cons (pa_cons (ev_var (pv 5)) (ea_nil pa_nil))))))) d_cat)) (el_ofO (eo_cut (pe_slice sl_list (el_var (pv 0)) (po_i (po_some (ek_2 (pe_op op_add (ev_var (pv 3)) (ev_int pe_int)) d_add))) (po_n po_none))))) d_cat))) (ss_nil pss_nil))) (ss_nil pss_nil))) (ssA_last (ps_ret (pv 0))))))))) v_law_spoiled_k08
theorem sc_law_no_pipe : FnScope ["net", "pipes", "refused"] ["net", "pipes"] (defScope s_law_no_pipe) := ⟨rfl, rfl, rfl, by decide +kernel, rfl, by decide +kernel, by decide +kernel⟩
theorem w_law_no_pipe {f : Addr} {fd : FuncData} (Fn : Fun g.K "_law_no_pipe" "_law_no_pipe" s_law_no_pipe f fd) (T : Txt g mg) (C_is_tree : Cal P w g mg base (L2.CX P w) "is_tree" 2 (spP g 2 F_is_tree)) : FnOk P w g.K mg base CX0 3 f fd ["net", "pipes"] (spP g 2 F_law_no_pipe) :=
  ok_fn (T := t_law_no_pipe) Fn sc_law_no_pipe (by decide) (fun cdv A outer s H E hr => by
    have hu := hu_of hr
    have hu64 := hr.units
    have nd := sc_law_no_pipe.nd
    exact (ss_cons (s_asgV (ps_set (i := 2) nd rfl (by first | exact Or.inl rfl | exact Or.inr rfl) (ev_bl pe_bl))) (ss_cons (s_try T.y_NoPipe rfl rfl rfl rfl takes0 (fun W pn xe tk hp => (ss_cons (s_exprX (ps_expr (ex_cal C_is_tree rfl (hr.mono (by decide)) rfl (fun σ => passAt tk σ) (ear_s (pa_cons (pv 0) (ear_v (pa_cons (ev_var (pv 1)) (ear_nil pa_nil)))))))) (ss_nil pss_nil))) (fun a oe pn => (ss_cons (s_asgV (ps_set (i := 2) nd rfl (by first | exact Or.inl rfl | exact Or.inr rfl) (ev_bl pe_bl))) (ss_nil pss_nil)))) (ss_cons (s_retV (ps_ret (ev_var (pv 2)))) (ss_nil pss_nil))))) v_law_no_pipe
theorem sc_law_k08 : FnScope ["script", "size", "order", "pipes", "k", "chosen", "turn", "cell", "at", "net", "handed", "found", "place", "far", "bad", "number"] ["script"] (defScope s_law_k08) := ⟨rfl, rfl, rfl, by decide +kernel, rfl, by decide +kernel, by decide +kernel⟩
theorem w_law_k08 {f : Addr} {fd : FuncData} (Fn : Fun g.K "law" "law" s_law_k08 f fd) (T : Txt g mg) (C_law_size_of : Cal P w g mg base CX0 "_law_size_of" 2 (spP g 2 F_law_size_of)) (C_law_order : Cal P w g mg base CX0 "_law_order" 1 (spP g 2 F_law_order)) (C_law_cell_at : Cal P w g mg base CX0 "_law_cell_at" 1 (spP g 2 F_law_cell_at)) (C_law_pipes_by : Cal P w g mg base CX0 "_law_pipes_by" 2 (spP g 4 F_law_pipes_by)) (C_law_spoiled_k08 : Cal P w g mg base (L2.CX P w) "_law_spoiled" 1 (spA g 3 G_law_spoiled_k08)) (C_law_net_by : Cal P w g mg base CX0 "_law_net_by" 4 (spP g 2 F_law_net_by)) (C_is_tree : Cal P w g mg base (L2.CX P w) "is_tree" 2 (spP g 2 F_is_tree)) (C_law_is_tree_k08 : Cal P w g mg base CX0 "_law_is_tree" 4 (spP g 3 F_law_is_tree_k08)) (C_law_no_pipe : Cal P w g mg base CX0 "_law_no_pipe" 3 (spP g 2 F_law_no_pipe)) : FnOk P w g.K mg base CX0 5 f fd ["script"] (spP g 1 F_law_k08) :=
  ok_fn (T := t_law_k08) Fn sc_law_k08 (by decide) (fun cdv A outer s H E hr => by
    have hu := hu_of hr
    have hu64 := hr.units
    have nd := sc_law_k08.nd
    exact (ss_cons (s_asgV (ps_set (i := 1) nd rfl (by first | exact Or.inl rfl | exact Or.inr rfl) (ev_ofO (eo_ofX (ex_cal C_law_size_of rfl (hr.mono (by decide)) rfl (fun _ => noPass0) (ear_v (pa_cons (ev_var (pv 0)) (ear_v (pa_cons (ev_int pe_int) (ear_nil pa_nil)))))))))) (ss_cons (s_asgV (ps_set (i := 2) nd rfl (by first | exact Or.inl rfl | exact Or.inr rfl) (ev_ofO (eo_ofX (ex_cal C_law_order rfl (hr.mono (by decide)) rfl (fun _ => noPass0) (ear_v (pa_cons (ev_ofO (eo_ofX (ex_cal C_law_cell_at rfl (hr.mono (by decide)) rfl (fun _ => noPass0) (ear_v (pa_cons (ev_var (pv 0)) (ear_v (pa_cons (ev_int pe_int) (ear_nil pa_nil)))))))) (ear_v (pa_cons (ev_var (pv 1)) (ear_nil pa_nil)))))))))) (ss_cons (s_asgO (ps_set (i := 3) nd rfl (by first | exact Or.inl rfl | exact Or.inr rfl) (eo_lst (pe_lst (ea_nil pa_nil))))) (ss_cons (s_for tg_name tv_name (ps_for PassesOwn.never rfl (ei_rng2 (pi_range2 rfl T.b_range (pa_cons (ev_int pe_int) (pa_cons (ev_var (pv 1)) pa_nil)))) (pg_name (i := 4) nd rfl (by first | exact Or.inl rfl | exact Or.inr rfl)) (ss_cons (s_app (ps_expr (pe_bm PySem.F.plainAttrs_list PySem.F.slot_list_append PySem.F.type_list_append mt_append (pv 3) (pa_cons (ev_tup (pe_tup (ea_cons (pa_cons (ek_2 (pe_ix ix_seq (ev_var (pv 2)) (ek_2 (pe_op op_mod (ev_ofO (eo_ofX (ex_cal C_law_cell_at rfl (hr.mono (by decide)) rfl (fun _ => noPass0) (ear_v (pa_cons (ev_var (pv 0)) (ear_v (pa_cons (ek_2 (pe_op op_add (ev_int pe_int) (ev_var (pv 4))) d_add) (ear_nil pa_nil)))))))) (ev_var (pv 4))) d_mod) (fun _ _ => rfl)) d_ix) (ea_cons (pa_cons (ek_2 (pe_ix ix_seq (ev_var (pv 2)) (ev_var (pv 4)) (fun _ _ => rfl)) d_ix) (ea_cons (pa_cons (ev_bl pe_bl) (ea_nil pa_nil))))))))) pa_nil)))) (ss_nil pss_nil)))) (ss_cons (s_asgLc tg_name gN_len (ps_setLc (i := 5) (own := [("number", 15)]) rfl nd rfl rfl (sw_true rfl rfl rfl (by decide +kernel)) (ei_SG (ei_rng1 (pi_range1 rfl T.b_range (pa_cons (ek_1 (to_1 (pe_callB call_len (by rfl) T.b_len PySem.boot_len (pa_cons (el_var (pv 3)) pa_nil))) d_lenL) pa_nil)))) (blkOk_by (own := [("number", 15)]) (N := ["script", "size", "order", "pipes", "k", "chosen", "turn", "cell", "at", "net", "handed", "found", "place", "far", "bad", "number"]) (sc := defScope s_law_k08) (by decide +kernel)) (fun _ _ _ _ _ => (pg_name (i := 15) nd rfl (by first | exact Or.inl rfl | exact Or.inr rfl))) (fun _ _ _ _ _ => (pts_yes pts_nil)) (fun _ _ _ _ _ => (ev_var (pv 15))))) (ss_cons (s_asgV (ps_set (i := 6) nd rfl (by first | exact Or.inl rfl | exact Or.inr rfl) (ek_2 (pe_op op_mod (ev_ofO (eo_ofX (ex_cal C_law_cell_at rfl (hr.mono (by decide)) rfl (fun _ => noPass0) (ear_v (pa_cons (ev_var (pv 0)) (ear_v (pa_cons (ev_int pe_int) (ear_nil pa_nil)))))))) (ek_2 (to_2 (pe_callB (call_max2 rfl) (by rfl) T.b_max (by decide +kernel) (pa_cons (ev_int pe_int) (pa_cons (ek_1 (to_1 (pe_callB call_len (by rfl) T.b_len PySem.boot_len (pa_cons (el_var (pv 3)) pa_nil))) d_lenL) pa_nil)))) d_max2)) d_mod))) (ss_cons (s_asgO (ps_set (i := 5) nd rfl (by first | exact Or.inl rfl | exact Or.inr rfl) (ek_2 (pe_op op_cat (el_ofO (eo_cut (pe_slice sl_list (el_var (pv 5)) (po_i (po_some (ev_var (pv 6)))) (po_n po_none)))) (el_ofO (eo_cut (pe_slice sl_list (el_var (pv 5)) (po_n po_none) (po_i (po_some (ev_var (pv 6)))))))) d_cat))) (ss_cons (s_asgO (ps_set (i := 3) nd rfl (by first | exact Or.inl rfl | exact Or.inr rfl) (ek_2 (pe_op op_cat (el_var (pv 3)) (el_ofO (eo_ofX (ex_cal C_law_pipes_by rfl (hr.mono (by decide)) rfl (fun _ => noPass0) (ear_v (pa_cons (ev_var (pv 0)) (ear_v (pa_cons (ev_int pe_int) (ear_v (pa_cons (ek_2 (pe_op op_mod (ev_ofO (eo_ofX (ex_cal C_law_cell_at rfl (hr.mono (by decide)) rfl (fun _ => noPass0) (ear_v (pa_cons (ev_var (pv 0)) (ear_v (pa_cons (ev_int pe_int) (ear_nil pa_nil)))))))) (ev_int pe_int)) d_mod) (ear_v (pa_cons (ev_var (pv 1)) (ear_nil pa_nil))))))))))))) d_cat))) (ss_cons (s_if (ps_if (pt_2 (pt_cmpR op_gt (ek_2 (pe_op op_mod (ev_ofO (eo_ofX (ex_cal C_law_cell_at rfl (hr.mono (by decide)) rfl (fun _ => noPass0) (ear_v (pa_cons (ev_var (pv 0)) (ear_v (pa_cons (ev_int pe_int) (ear_nil pa_nil)))))))) (ev_int pe_int)) d_mod) (ev_int pe_int) (nomark _)) d_gt) (ss_cons (s_asgV (ps_set (i := 7) nd rfl (by first | exact Or.inl rfl | exact Or.inr rfl) (ek_2 (pe_op op_fdiv (ev_ofO (eo_ofX (ex_cal C_law_cell_at rfl (hr.mono (by decide)) rfl (fun _ => noPass0) (ear_v (pa_cons (ev_var (pv 0)) (ear_v (pa_cons (ev_int pe_int) (ear_nil pa_nil)))))))) (ev_int pe_int)) d_div))) (ss_cons (s_if (ps_if (PW.pt (pw_a (pw_and (pt_2 (pt_cmpR (op_eq2 hu64) (ek_2 (pe_op op_mod (ev_var (pv 7)) (ev_int pe_int)) d_mod) (ev_int pe_int) (nomark _)) d_eq) (pw_and1 (pt_2 (pt_cmpR op_gt (ek_1 (to_1 (pe_callB call_len (by rfl) T.b_len PySem.boot_len (pa_cons (el_var (pv 5)) pa_nil))) d_lenL) (ev_int pe_int) (nomark _)) d_gt))))) (ss_cons (s_asgV (ps_set (i := 8) nd rfl (by first | exact Or.inl rfl | exact Or.inr rfl) (ek_2 (pe_ix ix_list (el_var (pv 5)) (ek_2 (pe_op op_mod (ek_2 (pe_op op_fdiv (ev_var (pv 7)) (ev_int pe_int)) d_div) (ek_1 (to_1 (pe_callB call_len (by rfl) T.b_len PySem.boot_len (pa_cons (el_var (pv 5)) pa_nil))) d_lenL)) d_mod) (fun _ _ => rfl)) d_ixL))) (ss_cons (s_set (ps_asg (ev_tup (pe_tup (ea_cons (pa_cons (ek_2 (pe_ix ix_seq (ek_2 (pe_ix ix_list (el_var (pv 3)) (ev_var (pv 8)) (fun _ _ => rfl)) d_ixL) (ev_int pe_int) (fun _ _ => rfl)) d_ix) (ea_cons (pa_cons (ek_2 (pe_ix ix_seq (ek_2 (pe_ix ix_list (el_var (pv 3)) (ev_var (pv 8)) (fun _ _ => rfl)) d_ixL) (ev_int pe_int) (fun _ _ => rfl)) d_ix) (ea_cons (pa_cons (ev_bl pe_bl) (ea_nil pa_nil))))))))) (pg_sub (pv 3) (ev_var (pv 8)) set_list))) (ss_nil pss_nil))) (ss_nil pss_nil))) (ss_cons (s_self (ps_set (i := 5) nd rfl (by first | exact Or.inl rfl | exact Or.inr rfl) (pe_cal C_law_spoiled_k08 rfl (hr.mono (by decide)) rfl (fun _ => noPassX) (ear_s (pa_cons (pv 5) (ear_s (pa_cons (pv 3) (ear_v (pa_cons (ev_var (pv 7)) (ear_nil pa_nil)))))))))) (ss_nil pss_nil)))) (ss_nil pss_nil))) (ss_cons (s_asgO (ps_set (i := 9) nd rfl (by first | exact Or.inl rfl | exact Or.inr rfl) (eo_ofX (ex_cal C_law_net_by rfl (hr.mono (by decide)) rfl (fun _ => noPass0) (ear_v (pa_cons (ev_var (pv 1)) (ear_s (pa_cons (pv 3) (ear_nil pa_nil))))))))) (ss_cons (s_asgV (ps_set (i := 10) nd rfl (by first | exact Or.inl rfl | exact Or.inr rfl) (ev_ofO (ek_1 (to_1 (pe_callTy call_list_of (by rfl) T.b_list (by decide +kernel) (pa_cons (el_var (pv 5)) pa_nil))) d_list)))) (ss_cons (s_asgV (ps_set (i := 11) nd rfl (by first | exact Or.inl rfl | exact Or.inr rfl) (ev_ofO (eo_ofX (ex_cal C_is_tree rfl (hr.mono (by decide)) rfl (fun _ => noPassX) (ear_s (pa_cons (pv 9) (ear_v (pa_cons (ev_var (pv 10)) (ear_nil pa_nil)))))))))) (ss_cons (s_if (ps_if (pt_frz (PW.pt (pw_o (pw_or (pt_2 (pt_cmpR (op_ne2 hu64) (ev_var (pv 10)) (ev_var (pv 5)) (nomark _)) d_ne) (pw_or1 (pt_n (pt_not (pt_v (pt_val (ev_isi (to_2 (pe_callB call_isi (by rfl) T.b_isinstance (by decide +kernel) (pa_cons (ev_var (pv 11)) (pa_cons (pe_bltn (v := .ty "bool") (by rfl) T.b_bool (by decide +kernel) rfl) pa_nil)))))))))))))) (ss_cons (s_retV (ps_ret (ev_bl pe_bl))) (ss_nil pss_nil)) (ss_nil pss_nil))) (ss_cons (s_if (ps_if (pt_frz (pt_2 (pt_cmpR (op_ne2 hu64) (ev_var (pv 11)) (ev_ofO (eo_ofX (ex_cal C_law_is_tree_k08 rfl (hr.mono (by decide)) rfl (fun _ => noPass0) (ear_v (pa_cons (ev_ofO (ek_1 (to_1 (pe_callB cr_sortedI (by rfl) T.b_sorted (by decide +kernel) (pa_cons (el_var (pv 5)) pa_nil))) d_sorted)) (ear_v (pa_cons (ev_var (pv 1)) (ear_v (pa_cons (ev_var (pv 3)) (ear_nil pa_nil)))))))))) (nomark _)) d_ne)) (ss_cons (s_retV (ps_ret (ev_bl pe_bl))) (ss_nil pss_nil)) (ss_nil pss_nil))) (ss_cons (s_asgV (ps_set (i := 12) nd rfl (by first | exact Or.inl rfl | exact Or.inr rfl) (ek_2 (pe_op op_mod (ev_ofO (eo_ofX (ex_cal C_law_cell_at rfl (hr.mono (by decide)) rfl (fun _ => noPass0) (ear_v (pa_cons (ev_var (pv 0)) (ear_v (pa_cons (ev_int pe_int) (ear_nil pa_nil)))))))) (ek_2 (pe_op op_add (ek_1 (to_1 (pe_callB call_len (by rfl) T.b_len PySem.boot_len (pa_cons (el_var (pv 5)) pa_nil))) d_lenL) (ev_int pe_int)) d_add)) d_mod))) (ss_cons (s_asgV (ps_set (i := 13) nd rfl (by first | exact Or.inl rfl | exact Or.inr rfl) (ek_2 (pe_op op_add (ek_1 (to_1 (pe_callB call_len (by rfl) T.b_len PySem.boot_len (pa_cons (el_var (pv 3)) pa_nil))) d_lenL) (ek_2 (pe_op op_mod (ek_2 (pe_op op_fdiv (ev_ofO (eo_ofX (ex_cal C_law_cell_at rfl (hr.mono (by decide)) rfl (fun _ => noPass0) (ear_v (pa_cons (ev_var (pv 0)) (ear_v (pa_cons (ev_int pe_int) (ear_nil pa_nil)))))))) (ev_int pe_int)) d_div) (ev_int pe_int)) d_mod)) d_add))) (ss_cons (s_asgV (ps_set (i := 14) nd rfl (by first | exact Or.inl rfl | exact Or.inr rfl) (ek_2 (pe_ix ix_seq (ev_ofO (eo_lst (pe_lst (ea_cons (pa_cons (ek_1 (pe_un un_neg (ev_int pe_int)) d_neg) (ea_cons (pa_cons (ek_1 (to_1 (pe_callB call_len (by rfl) T.b_len PySem.boot_len (pa_cons (el_var (pv 3)) pa_nil))) d_lenL) (ea_cons (pa_cons (ev_var (pv 13)) (ea_nil pa_nil)))))))))) (ek_2 (pe_op op_mod (ek_2 (pe_op op_fdiv (ev_ofO (eo_ofX (ex_cal C_law_cell_at rfl (hr.mono (by decide)) rfl (fun _ => noPass0) (ear_v (pa_cons (ev_var (pv 0)) (ear_v (pa_cons (ev_int pe_int) (ear_nil pa_nil)))))))) (ev_int pe_int)) d_div) (ev_int pe_int)) d_mod) (fun _ _ => rfl)) d_ix))) (ss_cons (s_ins (ps_expr (pe_bm PySem.F.plainAttrs_list PySem.F.slot_list_insert PySem.F.type_list_insert mt_insert (pv 5) (pa_cons (ev_var (pv 12)) (pa_cons (ev_var (pv 14)) pa_nil))))) (ss_cons (s_retV (ps_ret (ev_frz (ev_ofO (eo_ofX (ex_cal C_law_no_pipe rfl (hr.mono (by decide)) rfl (fun _ => noPass0) (ear_s (pa_cons (pv 9) (ear_v (pa_cons (ev_var (pv 5)) (ear_nil pa_nil))))))))))) (ss_nil pss_nil))))))))))))))))))))) v_law_k08
end
def spEnd (K : PySem.W.Frag) : Sp := fun vs H Q _ => ∃ (a : Addr) (ns : List Int), vs = [.ref a] ∧ SqL K H a (ns.map V.int) ∧ ns.length ≤ 63 ∧ ∀ H, Q (.bl true) H
theorem sp_end {g : Glo} {F : FN} (hF : ∀ ns : List Int, ns.length ≤ 63 → F [.val (.scr ns)] = some (.inl (.val (.bl true)))) {vs : List V} {H : Hp} {Q : VK} {E : XK} (h : spEnd g.K vs H Q E) : spP g 1 F vs H Q E := by
  obtain ⟨a, ns, rfl, hS, hl, k⟩ := h
  refine ⟨rfl, [.val (.scr ns)], _, H, fun _ => none, hF ns hl, rfl, (by intro s hs; simp at hs; subst hs; rfl), ⟨Same.refl _, fun _ _ e => (nomatch e), fun i s e => ?_, rfl⟩, fun v Hb' H' g1 r => ?_⟩
  · cases i with
    | zero =>
      cases e
      exact ⟨_, rfl, rep_scr.mpr ⟨a, rfl, hS⟩⟩
    | succ i => cases e
  · have r : Rep g.K Hb' v (.bl true) := r
    cases rep_bl.mp r
    exact k H'
theorem all_mk {P : Program} {w : World} {K : PySem.W.Frag} {h : Heap} {mg : Str → Option Value} {fa C : Addr}
    {A_TooMuch A_NoPlace A_NoPipe A_SamePlace f0 f1 f2 f3 f4 f5 f6 f7 f8 f9 f10 f11 f12 f13 f14 f15 f16 f17 f18 f19 f20 f21 f22 f23 : Addr} {od0 an0 od1 an1 od2 an2 od3 an3 od4 an4 od5 an5 od6 an6 od7 an7 od8 an8 od9 an9 od10 an10 od11 an11 od12 an12 od13 an13 od14 an14 od15 an15 od16 an16 od17 an17 od18 an18 od19 an19 od20 an20 od21 an21 od22 an22 od23 an23 : Option Addr} {sl0 sl1 sl2 sl3 sl4 sl5 sl6 sl7 sl8 sl9 sl10 sl11 sl12 sl13 sl14 sl15 sl16 sl17 sl18 sl19 sl20 sl21 sl22 sl23 : Array (Option Value)} {oc0 kV0 dc0 pm0 cd0 ct0 oc1 kV1 dc1 pm1 cd1 ct1 oc2 kV2 dc2 pm2 cd2 ct2 oc3 kV3 dc3 pm3 cd3 ct3 oc4 kV4 dc4 pm4 cd4 ct4 oc5 kV5 dc5 pm5 cd5 ct5 oc6 kV6 dc6 pm6 cd6 ct6 oc7 kV7 dc7 pm7 cd7 ct7 oc8 kV8 dc8 pm8 cd8 ct8 oc9 kV9 dc9 pm9 cd9 ct9 oc10 kV10 dc10 pm10 cd10 ct10 oc11 kV11 dc11 pm11 cd11 ct11 oc12 kV12 dc12 pm12 cd12 ct12 oc13 kV13 dc13 pm13 cd13 ct13 oc14 kV14 dc14 pm14 cd14 ct14 oc15 kV15 dc15 pm15 cd15 ct15 oc16 kV16 dc16 pm16 cd16 ct16 oc17 kV17 dc17 pm17 cd17 ct17 oc18 kV18 dc18 pm18 cd18 ct18 oc19 kV19 dc19 pm19 cd19 ct19 oc20 kV20 dc20 pm20 cd20 ct20 oc21 kV21 dc21 pm21 cd21 ct21 oc22 kV22 dc22 pm22 cd22 ct22 oc23 kV23 dc23 pm23 cd23 ct23 : Value} {tk_PLACES tk_PIPES : Tok}
    (X : K.In h) (G : h.Ns mainGlobals mg) (hfa : mg "law" = some (.ref fa))
    (hC : PySem.W.nsIn K mainGlobals "Net" = some (some (.ref C)))
    (h_pg : PySem.W.plainGet K C Str.empty = true)
    (h_hd : PySem.W.hasDictIn K C = true)
    (h_po : PySem.W.plainOver K C = true)
    (h_sa : PySem.W.findIn K (.ref C) "__setattr__" = some (some (.builtin "object.__setattr__")))
    (h_mk : PySem.W.makesIn K C = true)
    (h_kc : PySem.W.keepIn K (.ref C) = true)
    (h_nM : PySem.W.findIn K (.ref C) "many" = some none)
    (h_nL : PySem.W.findIn K (.ref C) "laid" = some none)
    (z_len : PySem.W.nsIn K mainGlobals "len" = some none)
    (z_range : PySem.W.nsIn K mainGlobals "range" = some none)
    (z_sorted : PySem.W.nsIn K mainGlobals "sorted" = some none)
    (z_set : PySem.W.nsIn K mainGlobals "set" = some none)
    (z_list : PySem.W.nsIn K mainGlobals "list" = some none)
    (z_min : PySem.W.nsIn K mainGlobals "min" = some none)
    (z_max : PySem.W.nsIn K mainGlobals "max" = some none)
    (z_int : PySem.W.nsIn K mainGlobals "int" = some none)
    (z_isinstance : PySem.W.nsIn K mainGlobals "isinstance" = some none)
    (z_bool : PySem.W.nsIn K mainGlobals "bool" = some none)
    (k_PLACES : PySem.W.nsIn K mainGlobals "PLACES" = some (some (.int 12 tk_PLACES)))
    (k_PIPES : PySem.W.nsIn K mainGlobals "PIPES" = some (some (.int 60 tk_PIPES)))
    (xg_TooMuch : PySem.W.nsIn K mainGlobals "TooMuch" = some (some (.ref A_TooMuch)))
    (xc_TooMuch : PySem.W.excIn K A_TooMuch [.type "ValueError", .type "Exception", .type "BaseException", .type "object"] "ValueError.__new__" = true)
    (xk_TooMuch : PySem.W.keepIn K (.ref A_TooMuch) = true)
    (xb_TooMuch : PySem.W.subIn K (.ref A_TooMuch) (.type "BaseException") = some true)
    (xt_TooMuch : PySem.W.typeIn K (.ref A_TooMuch) = some (.type "type"))
    (xg_NoPlace : PySem.W.nsIn K mainGlobals "NoPlace" = some (some (.ref A_NoPlace)))
    (xc_NoPlace : PySem.W.excIn K A_NoPlace [.type "ValueError", .type "Exception", .type "BaseException", .type "object"] "ValueError.__new__" = true)
    (xk_NoPlace : PySem.W.keepIn K (.ref A_NoPlace) = true)
    (xb_NoPlace : PySem.W.subIn K (.ref A_NoPlace) (.type "BaseException") = some true)
    (xt_NoPlace : PySem.W.typeIn K (.ref A_NoPlace) = some (.type "type"))
    (xg_NoPipe : PySem.W.nsIn K mainGlobals "NoPipe" = some (some (.ref A_NoPipe)))
    (xc_NoPipe : PySem.W.excIn K A_NoPipe [.type "ValueError", .type "Exception", .type "BaseException", .type "object"] "ValueError.__new__" = true)
    (xk_NoPipe : PySem.W.keepIn K (.ref A_NoPipe) = true)
    (xb_NoPipe : PySem.W.subIn K (.ref A_NoPipe) (.type "BaseException") = some true)
    (xt_NoPipe : PySem.W.typeIn K (.ref A_NoPipe) = some (.type "type"))
    (xg_SamePlace : PySem.W.nsIn K mainGlobals "SamePlace" = some (some (.ref A_SamePlace)))
    (xc_SamePlace : PySem.W.excIn K A_SamePlace [.type "ValueError", .type "Exception", .type "BaseException", .type "object"] "ValueError.__new__" = true)
    (xk_SamePlace : PySem.W.keepIn K (.ref A_SamePlace) = true)
    (xb_SamePlace : PySem.W.subIn K (.ref A_SamePlace) (.type "BaseException") = some true)
    (xt_SamePlace : PySem.W.typeIn K (.ref A_SamePlace) = some (.type "type"))
    (xh_NoPipe : PySem.W.hasDictIn K A_NoPipe = true)
    (xs_NoPipe_NoPipe : PySem.W.subIn K (.ref A_NoPipe) (.ref A_NoPipe) = some true)
    (a0 : PySem.W.findIn K (.ref C) "__init__" = some (some (.ref f0)))
    (i0 : PySem.W.isFn K (.ref f0) = true)
    (l0 : K.lookup f0 = some ⟨oc0, od0, .func (PySem.W.fnOf "__init__" "Net.__init__" (defArgs s_init) (defBody s_init) (defScope s_init) .none kV0 dc0 pm0 an0 cd0 ct0), sl0⟩)
    (c0 : PySem.W.codeIn K cd0 "Net.__init__" = true)
    (k0 : PySem.W.keepIn K (.ref f0) = true)
    (a1 : PySem.W.findIn K (.ref C) "size" = some (some (.ref f1)))
    (i1 : PySem.W.isFn K (.ref f1) = true)
    (l1 : K.lookup f1 = some ⟨oc1, od1, .func (PySem.W.fnOf "size" "Net.size" (defArgs s_size) (defBody s_size) (defScope s_size) .none kV1 dc1 pm1 an1 cd1 ct1), sl1⟩)
    (c1 : PySem.W.codeIn K cd1 "Net.size" = true)
    (k1 : PySem.W.keepIn K (.ref f1) = true)
    (a2 : PySem.W.findIn K (.ref C) "see_place" = some (some (.ref f2)))
    (i2 : PySem.W.isFn K (.ref f2) = true)
    (l2 : K.lookup f2 = some ⟨oc2, od2, .func (PySem.W.fnOf "see_place" "Net.see_place" (defArgs s_see_place) (defBody s_see_place) (defScope s_see_place) .none kV2 dc2 pm2 an2 cd2 ct2), sl2⟩)
    (c2 : PySem.W.codeIn K cd2 "Net.see_place" = true)
    (k2 : PySem.W.keepIn K (.ref f2) = true)
    (a3 : PySem.W.findIn K (.ref C) "see_pipe" = some (some (.ref f3)))
    (i3 : PySem.W.isFn K (.ref f3) = true)
    (l3 : K.lookup f3 = some ⟨oc3, od3, .func (PySem.W.fnOf "see_pipe" "Net.see_pipe" (defArgs s_see_pipe) (defBody s_see_pipe) (defScope s_see_pipe) .none kV3 dc3 pm3 an3 cd3 ct3), sl3⟩)
    (c3 : PySem.W.codeIn K cd3 "Net.see_pipe" = true)
    (k3 : PySem.W.keepIn K (.ref f3) = true)
    (a4 : PySem.W.findIn K (.ref C) "lay" = some (some (.ref f4)))
    (i4 : PySem.W.isFn K (.ref f4) = true)
    (l4 : K.lookup f4 = some ⟨oc4, od4, .func (PySem.W.fnOf "lay" "Net.lay" (defArgs s_lay) (defBody s_lay) (defScope s_lay) .none kV4 dc4 pm4 an4 cd4 ct4), sl4⟩)
    (c4 : PySem.W.codeIn K cd4 "Net.lay" = true)
    (k4 : PySem.W.keepIn K (.ref f4) = true)
    (a5 : PySem.W.findIn K (.ref C) "turn" = some (some (.ref f5)))
    (i5 : PySem.W.isFn K (.ref f5) = true)
    (l5 : K.lookup f5 = some ⟨oc5, od5, .func (PySem.W.fnOf "turn" "Net.turn" (defArgs s_turn) (defBody s_turn) (defScope s_turn) .none kV5 dc5 pm5 an5 cd5 ct5), sl5⟩)
    (c5 : PySem.W.codeIn K cd5 "Net.turn" = true)
    (k5 : PySem.W.keepIn K (.ref f5) = true)
    (a6 : PySem.W.findIn K (.ref C) "shut" = some (some (.ref f6)))
    (i6 : PySem.W.isFn K (.ref f6) = true)
    (l6 : K.lookup f6 = some ⟨oc6, od6, .func (PySem.W.fnOf "shut" "Net.shut" (defArgs s_shut) (defBody s_shut) (defScope s_shut) .none kV6 dc6 pm6 an6 cd6 ct6), sl6⟩)
    (c6 : PySem.W.codeIn K cd6 "Net.shut" = true)
    (k6 : PySem.W.keepIn K (.ref f6) = true)
    (a7 : PySem.W.findIn K (.ref C) "pipes" = some (some (.ref f7)))
    (i7 : PySem.W.isFn K (.ref f7) = true)
    (l7 : K.lookup f7 = some ⟨oc7, od7, .func (PySem.W.fnOf "pipes" "Net.pipes" (defArgs s_pipes) (defBody s_pipes) (defScope s_pipes) .none kV7 dc7 pm7 an7 cd7 ct7), sl7⟩)
    (c7 : PySem.W.codeIn K cd7 "Net.pipes" = true)
    (k7 : PySem.W.keepIn K (.ref f7) = true)
    (a8 : PySem.W.nsIn K mainGlobals "wet" = some (some (.ref f8)))
    (l8 : K.lookup f8 = some ⟨oc8, od8, .func (PySem.W.fnOf "wet" "wet" (defArgs s_wet) (defBody s_wet) (defScope s_wet) .none kV8 dc8 pm8 an8 cd8 ct8), sl8⟩)
    (c8 : PySem.W.codeIn K cd8 "wet" = true)
    (k8 : PySem.W.keepIn K (.ref f8) = true)
    (a9 : PySem.W.nsIn K mainGlobals "is_tree" = some (some (.ref f9)))
    (l9 : K.lookup f9 = some ⟨oc9, od9, .func (PySem.W.fnOf "is_tree" "is_tree" (defArgs s_is_tree) (defBody s_is_tree) (defScope s_is_tree) .none kV9 dc9 pm9 an9 cd9 ct9), sl9⟩)
    (c9 : PySem.W.codeIn K cd9 "is_tree" = true)
    (k9 : PySem.W.keepIn K (.ref f9) = true)
    (a10 : PySem.W.nsIn K mainGlobals "_law_cell_at" = some (some (.ref f10)))
    (l10 : K.lookup f10 = some ⟨oc10, od10, .func (PySem.W.fnOf "_law_cell_at" "_law_cell_at" (defArgs s_law_cell_at) (defBody s_law_cell_at) (defScope s_law_cell_at) .none kV10 dc10 pm10 an10 cd10 ct10), sl10⟩)
    (c10 : PySem.W.codeIn K cd10 "_law_cell_at" = true)
    (k10 : PySem.W.keepIn K (.ref f10) = true)
    (a11 : PySem.W.nsIn K mainGlobals "_law_whole" = some (some (.ref f11)))
    (l11 : K.lookup f11 = some ⟨oc11, od11, .func (PySem.W.fnOf "_law_whole" "_law_whole" (defArgs s_law_whole) (defBody s_law_whole) (defScope s_law_whole) .none kV11 dc11 pm11 an11 cd11 ct11), sl11⟩)
    (c11 : PySem.W.codeIn K cd11 "_law_whole" = true)
    (k11 : PySem.W.keepIn K (.ref f11) = true)
    (a12 : PySem.W.nsIn K mainGlobals "_law_pipe_by" = some (some (.ref f12)))
    (l12 : K.lookup f12 = some ⟨oc12, od12, .func (PySem.W.fnOf "_law_pipe_by" "_law_pipe_by" (defArgs s_law_pipe_by) (defBody s_law_pipe_by) (defScope s_law_pipe_by) .none kV12 dc12 pm12 an12 cd12 ct12), sl12⟩)
    (c12 : PySem.W.codeIn K cd12 "_law_pipe_by" = true)
    (k12 : PySem.W.keepIn K (.ref f12) = true)
    (a13 : PySem.W.nsIn K mainGlobals "_law_pipes_by" = some (some (.ref f13)))
    (l13 : K.lookup f13 = some ⟨oc13, od13, .func (PySem.W.fnOf "_law_pipes_by" "_law_pipes_by" (defArgs s_law_pipes_by) (defBody s_law_pipes_by) (defScope s_law_pipes_by) .none kV13 dc13 pm13 an13 cd13 ct13), sl13⟩)
    (c13 : PySem.W.codeIn K cd13 "_law_pipes_by" = true)
    (k13 : PySem.W.keepIn K (.ref f13) = true)
    (a14 : PySem.W.nsIn K mainGlobals "_law_net_by" = some (some (.ref f14)))
    (l14 : K.lookup f14 = some ⟨oc14, od14, .func (PySem.W.fnOf "_law_net_by" "_law_net_by" (defArgs s_law_net_by) (defBody s_law_net_by) (defScope s_law_net_by) .none kV14 dc14 pm14 an14 cd14 ct14), sl14⟩)
    (c14 : PySem.W.codeIn K cd14 "_law_net_by" = true)
    (k14 : PySem.W.keepIn K (.ref f14) = true)
    (a15 : PySem.W.nsIn K mainGlobals "_law_size_of" = some (some (.ref f15)))
    (l15 : K.lookup f15 = some ⟨oc15, od15, .func (PySem.W.fnOf "_law_size_of" "_law_size_of" (defArgs s_law_size_of) (defBody s_law_size_of) (defScope s_law_size_of) .none kV15 dc15 pm15 an15 cd15 ct15), sl15⟩)
    (c15 : PySem.W.codeIn K cd15 "_law_size_of" = true)
    (k15 : PySem.W.keepIn K (.ref f15) = true)
    (a16 : PySem.W.nsIn K mainGlobals "_law_wet" = some (some (.ref f16)))
    (l16 : K.lookup f16 = some ⟨oc16, od16, .func (PySem.W.fnOf "_law_wet" "_law_wet" (defArgs s_law_wet) (defBody s_law_wet) (defScope s_law_wet) .none kV16 dc16 pm16 an16 cd16 ct16), sl16⟩)
    (c16 : PySem.W.codeIn K cd16 "_law_wet" = true)
    (k16 : PySem.W.keepIn K (.ref f16) = true)
    (a17 : PySem.W.nsIn K mainGlobals "_law_numbers" = some (some (.ref f17)))
    (l17 : K.lookup f17 = some ⟨oc17, od17, .func (PySem.W.fnOf "_law_numbers" "_law_numbers" (defArgs s_law_numbers) (defBody s_law_numbers) (defScope s_law_numbers) .none kV17 dc17 pm17 an17 cd17 ct17), sl17⟩)
    (c17 : PySem.W.codeIn K cd17 "_law_numbers" = true)
    (k17 : PySem.W.keepIn K (.ref f17) = true)
    (a18 : PySem.W.nsIn K mainGlobals "_law_rising" = some (some (.ref f18)))
    (l18 : K.lookup f18 = some ⟨oc18, od18, .func (PySem.W.fnOf "_law_rising" "_law_rising" (defArgs s_law_rising) (defBody s_law_rising) (defScope s_law_rising) .none kV18 dc18 pm18 an18 cd18 ct18), sl18⟩)
    (c18 : PySem.W.codeIn K cd18 "_law_rising" = true)
    (k18 : PySem.W.keepIn K (.ref f18) = true)
    (a19 : PySem.W.nsIn K mainGlobals "_law_is_tree" = some (some (.ref f19)))
    (l19 : K.lookup f19 = some ⟨oc19, od19, .func (PySem.W.fnOf "_law_is_tree" "_law_is_tree" (defArgs s_law_is_tree_k08) (defBody s_law_is_tree_k08) (defScope s_law_is_tree_k08) .none kV19 dc19 pm19 an19 cd19 ct19), sl19⟩)
    (c19 : PySem.W.codeIn K cd19 "_law_is_tree" = true)
    (k19 : PySem.W.keepIn K (.ref f19) = true)
    (a20 : PySem.W.nsIn K mainGlobals "_law_order" = some (some (.ref f20)))
    (l20 : K.lookup f20 = some ⟨oc20, od20, .func (PySem.W.fnOf "_law_order" "_law_order" (defArgs s_law_order) (defBody s_law_order) (defScope s_law_order) .none kV20 dc20 pm20 an20 cd20 ct20), sl20⟩)
    (c20 : PySem.W.codeIn K cd20 "_law_order" = true)
    (k20 : PySem.W.keepIn K (.ref f20) = true)
    (a21 : PySem.W.nsIn K mainGlobals "_law_spoiled" = some (some (.ref f21)))
    (l21 : K.lookup f21 = some ⟨oc21, od21, .func (PySem.W.fnOf "_law_spoiled" "_law_spoiled" (defArgs s_law_spoiled_k08) (defBody s_law_spoiled_k08) (defScope s_law_spoiled_k08) .none kV21 dc21 pm21 an21 cd21 ct21), sl21⟩)
    (c21 : PySem.W.codeIn K cd21 "_law_spoiled" = true)
    (k21 : PySem.W.keepIn K (.ref f21) = true)
    (a22 : PySem.W.nsIn K mainGlobals "_law_no_pipe" = some (some (.ref f22)))
    (l22 : K.lookup f22 = some ⟨oc22, od22, .func (PySem.W.fnOf "_law_no_pipe" "_law_no_pipe" (defArgs s_law_no_pipe) (defBody s_law_no_pipe) (defScope s_law_no_pipe) .none kV22 dc22 pm22 an22 cd22 ct22), sl22⟩)
    (c22 : PySem.W.codeIn K cd22 "_law_no_pipe" = true)
    (k22 : PySem.W.keepIn K (.ref f22) = true)
    (a23 : PySem.W.nsIn K mainGlobals "law" = some (some (.ref f23)))
    (l23 : K.lookup f23 = some ⟨oc23, od23, .func (PySem.W.fnOf "law" "law" (defArgs s_law_k08) (defBody s_law_k08) (defScope s_law_k08) .none kV23 dc23 pm23 an23 cd23 ct23), sl23⟩)
    (c23 : PySem.W.codeIn K cd23 "law" = true)
    (k23 : PySem.W.keepIn K (.ref f23) = true)
    : ∃ fd : FuncData, (∀ (s : Shared) (v : Value), BindsTo s fd ⟨[v], []⟩ [("script", v)]) ∧ ∀ base : Heap, K.In base → base.Ns mainGlobals mg → FnOk P w K mg base CX0 5 fa fd ["script"] (spEnd K) := by
  have e := hfa.symm.trans (PySem.W.mg_of X G a23)
  cases e
  obtain ⟨g, gK, gC, gx⟩ : ∃ g : Glo, g.K = K ∧ g.C = C ∧ g.cls = (fun x => match x with | .much => A_TooMuch | .place => A_NoPlace | .pipe => A_NoPipe | .same => A_SamePlace | .net => C) := ⟨⟨K, C, _⟩, rfl, rfl, rfl⟩
  subst gK gC
  have E_TooMuch : g.cls .much = A_TooMuch := by rw [gx]
  have E_NoPlace : g.cls .place = A_NoPlace := by rw [gx]
  have E_NoPipe : g.cls .pipe = A_NoPipe := by rw [gx]
  have E_SamePlace : g.cls .same = A_SamePlace := by rw [gx]
  have T : Txt g mg := ⟨⟨⟨h_pg, h_hd, h_po, h_sa⟩, h_nM, h_nL⟩, PySem.W.mg_none_of X G z_len, PySem.W.mg_none_of X G z_range, PySem.W.mg_none_of X G z_sorted, PySem.W.mg_none_of X G z_set, PySem.W.mg_none_of X G z_list, PySem.W.mg_none_of X G z_min, PySem.W.mg_none_of X G z_max, PySem.W.mg_none_of X G z_int, PySem.W.mg_none_of X G z_isinstance, PySem.W.mg_none_of X G z_bool, ⟨_, PySem.W.mg_of X G k_PLACES⟩, ⟨_, PySem.W.mg_of X G k_PIPES⟩, ⟨by rw [E_TooMuch]; exact xc_TooMuch, by rw [E_TooMuch]; exact PySem.W.mg_of X G xg_TooMuch, by rw [E_TooMuch]; exact xk_TooMuch, by rw [E_TooMuch]; exact xb_TooMuch, by rw [E_TooMuch]; exact xt_TooMuch⟩, ⟨by rw [E_NoPlace]; exact xc_NoPlace, by rw [E_NoPlace]; exact PySem.W.mg_of X G xg_NoPlace, by rw [E_NoPlace]; exact xk_NoPlace, by rw [E_NoPlace]; exact xb_NoPlace, by rw [E_NoPlace]; exact xt_NoPlace⟩, ⟨by rw [E_NoPipe]; exact xc_NoPipe, by rw [E_NoPipe]; exact PySem.W.mg_of X G xg_NoPipe, by rw [E_NoPipe]; exact xk_NoPipe, by rw [E_NoPipe]; exact xb_NoPipe, by rw [E_NoPipe]; exact xt_NoPipe⟩, ⟨by rw [E_SamePlace]; exact xc_SamePlace, by rw [E_SamePlace]; exact PySem.W.mg_of X G xg_SamePlace, by rw [E_SamePlace]; exact xk_SamePlace, by rw [E_SamePlace]; exact xb_SamePlace, by rw [E_SamePlace]; exact xt_SamePlace⟩, ⟨_, PySem.W.mg_of X G xg_NoPipe, fun xx b e => match xx, e with | .much, e => nomatch (show (none : Option Bool) = some b from e) | .place, e => nomatch (show (none : Option Bool) = some b from e) | .pipe, e => by have e : some true = some b := e; cases e; rw [E_NoPipe]; exact PySem.W.exm_ref xb_NoPipe xh_NoPipe xt_NoPipe xs_NoPipe_NoPipe | .same, e => nomatch (show (none : Option Bool) = some b from e) | .net, e => nomatch (show (none : Option Bool) = some b from e)⟩⟩
  have F0 := fun_mk (st := s_init) l0 c0 k0
  have b0 := F0.binds (ps := ["self", "size"]) fun _ _ _ _ _ _ us hl => match us, hl with | [_, _], _ => rfl
  have F1 := fun_mk (st := s_size) l1 c1 k1
  have b1 := F1.binds (ps := ["self"]) fun _ _ _ _ _ _ us hl => match us, hl with | [_], _ => rfl
  have F2 := fun_mk (st := s_see_place) l2 c2 k2
  have b2 := F2.binds (ps := ["self", "place"]) fun _ _ _ _ _ _ us hl => match us, hl with | [_, _], _ => rfl
  have F3 := fun_mk (st := s_see_pipe) l3 c3 k3
  have b3 := F3.binds (ps := ["self", "pipe"]) fun _ _ _ _ _ _ us hl => match us, hl with | [_, _], _ => rfl
  have F4 := fun_mk (st := s_lay) l4 c4 k4
  have b4 := F4.binds (ps := ["self", "start", "goal"]) fun _ _ _ _ _ _ us hl => match us, hl with | [_, _, _], _ => rfl
  have F5 := fun_mk (st := s_turn) l5 c5 k5
  have b5 := F5.binds (ps := ["self", "pipe", "opened"]) fun _ _ _ _ _ _ us hl => match us, hl with | [_, _, _], _ => rfl
  have F6 := fun_mk (st := s_shut) l6 c6 k6
  have b6 := F6.binds (ps := ["self", "pipe"]) fun _ _ _ _ _ _ us hl => match us, hl with | [_, _], _ => rfl
  have F7 := fun_mk (st := s_pipes) l7 c7 k7
  have b7 := F7.binds (ps := ["self"]) fun _ _ _ _ _ _ us hl => match us, hl with | [_], _ => rfl
  have F8 := fun_mk (st := s_wet) l8 c8 k8
  have b8 := F8.binds (ps := ["size", "pipes"]) fun _ _ _ _ _ _ us hl => match us, hl with | [_, _], _ => rfl
  have F9 := fun_mk (st := s_is_tree) l9 c9 k9
  have b9 := F9.binds (ps := ["net", "pipes"]) fun _ _ _ _ _ _ us hl => match us, hl with | [_, _], _ => rfl
  have F10 := fun_mk (st := s_law_cell_at) l10 c10 k10
  have b10 := F10.binds (ps := ["script", "k"]) fun _ _ _ _ _ _ us hl => match us, hl with | [_, _], _ => rfl
  have F11 := fun_mk (st := s_law_whole) l11 c11 k11
  have b11 := F11.binds (ps := ["found"]) fun _ _ _ _ _ _ us hl => match us, hl with | [_], _ => rfl
  have F12 := fun_mk (st := s_law_pipe_by) l12 c12 k12
  have b12 := F12.binds (ps := ["cell", "size"]) fun _ _ _ _ _ _ us hl => match us, hl with | [_, _], _ => rfl
  have F13 := fun_mk (st := s_law_pipes_by) l13 c13 k13
  have b13 := F13.binds (ps := ["script", "first", "many", "size"]) fun _ _ _ _ _ _ us hl => match us, hl with | [_, _, _, _], _ => rfl
  have F14 := fun_mk (st := s_law_net_by) l14 c14 k14
  have b14 := F14.binds (ps := ["size", "pipes"]) fun _ _ _ _ _ _ us hl => match us, hl with | [_, _], _ => rfl
  have F15 := fun_mk (st := s_law_size_of) l15 c15 k15
  have b15 := F15.binds (ps := ["script", "small"]) fun _ _ _ _ _ _ us hl => match us, hl with | [_, _], _ => rfl
  have F16 := fun_mk (st := s_law_wet) l16 c16 k16
  have b16 := F16.binds (ps := ["size", "pairs"]) fun _ _ _ _ _ _ us hl => match us, hl with | [_, _], _ => rfl
  have F17 := fun_mk (st := s_law_numbers) l17 c17 k17
  have b17 := F17.binds (ps := ["found", "bound"]) fun _ _ _ _ _ _ us hl => match us, hl with | [_, _], _ => rfl
  have F18 := fun_mk (st := s_law_rising) l18 c18 k18
  have b18 := F18.binds (ps := ["found", "bound"]) fun _ _ _ _ _ _ us hl => match us, hl with | [_, _], _ => rfl
  have F19 := fun_mk (st := s_law_is_tree_k08) l19 c19 k19
  have b19 := F19.binds (ps := ["found", "size", "pipes"]) fun _ _ _ _ _ _ us hl => match us, hl with | [_, _, _], _ => rfl
  have F20 := fun_mk (st := s_law_order) l20 c20 k20
  have b20 := F20.binds (ps := ["cell", "size"]) fun _ _ _ _ _ _ us hl => match us, hl with | [_, _], _ => rfl
  have F21 := fun_mk (st := s_law_spoiled_k08) l21 c21 k21
  have b21 := F21.binds (ps := ["chosen", "pipes", "cell"]) fun _ _ _ _ _ _ us hl => match us, hl with | [_, _, _], _ => rfl
  have F22 := fun_mk (st := s_law_no_pipe) l22 c22 k22
  have b22 := F22.binds (ps := ["net", "pipes"]) fun _ _ _ _ _ _ us hl => match us, hl with | [_, _], _ => rfl
  have F23 := fun_mk (st := s_law_k08) l23 c23 k23
  refine ⟨PySem.W.fnOf "law" "law" (defArgs s_law_k08) (defBody s_law_k08) (defScope s_law_k08) .none kV23 dc23 pm23 an23 cd23 ct23, fun s v => .of_eq rfl, fun base _ _ => ?_⟩
  have C_init : Cak P w g mg base (L2.CX P w) "Net" 1 (spInit g) := ⟨_, _, _, PySem.W.mg_of X G hC, ⟨h_mk, a0, i0, h_kc⟩, b0, w_init F0 T⟩
  have C_size : Cam P w g mg base CX0 "size" 1 (spP g 1 F_size) := ⟨_, _, _, ⟨a1, i1, k1⟩, b1, w_size F1 T ⟩
  have C_see_place : Cam P w g mg base (L2.CX P w) "see_place" 1 (spP g 2 F_see_place) := ⟨_, _, _, ⟨a2, i2, k2⟩, b2, w_see_place F2 T ⟩
  have C_see_pipe : Cam P w g mg base (L2.CX P w) "see_pipe" 1 (spP g 2 F_see_pipe) := ⟨_, _, _, ⟨a3, i3, k3⟩, b3, w_see_pipe F3 T ⟩
  have C_lay : Cam P w g mg base (L2.CX P w) "lay" 2 (spM g 3 G_lay) := ⟨_, _, _, ⟨a4, i4, k4⟩, b4, w_lay F4 T C_see_place⟩
  have C_turn : Cam P w g mg base (L2.CX P w) "turn" 2 (spM g 3 G_turn) := ⟨_, _, _, ⟨a5, i5, k5⟩, b5, w_turn F5 T C_see_pipe⟩
  have C_shut : Cam P w g mg base (L2.CX P w) "shut" 3 (spM g 2 G_shut) := ⟨_, _, _, ⟨a6, i6, k6⟩, b6, w_shut F6 T C_turn⟩
  have C_pipes : Cam P w g mg base CX0 "pipes" 1 (spP g 1 F_pipes) := ⟨_, _, _, ⟨a7, i7, k7⟩, b7, w_pipes F7 T ⟩
  have C_wet : Cal P w g mg base CX0 "wet" 1 (spP g 2 F_wet) := ⟨_, _, _, PySem.W.mg_of X G a8, k8, b8, w_wet F8 T ⟩
  have C_is_tree : Cal P w g mg base (L2.CX P w) "is_tree" 2 (spP g 2 F_is_tree) := ⟨_, _, _, PySem.W.mg_of X G a9, k9, b9, w_is_tree F9 T C_see_pipe C_pipes C_size C_wet⟩
  have C_law_cell_at : Cal P w g mg base CX0 "_law_cell_at" 1 (spP g 2 F_law_cell_at) := ⟨_, _, _, PySem.W.mg_of X G a10, k10, b10, w_law_cell_at F10 T ⟩
  have C_law_whole : Cal P w g mg base CX0 "_law_whole" 1 (spP g 1 F_law_whole) := ⟨_, _, _, PySem.W.mg_of X G a11, k11, b11, w_law_whole F11 T ⟩
  have C_law_pipe_by : Cal P w g mg base CX0 "_law_pipe_by" 1 (spP g 2 F_law_pipe_by) := ⟨_, _, _, PySem.W.mg_of X G a12, k12, b12, w_law_pipe_by F12 T ⟩
  have C_law_pipes_by : Cal P w g mg base CX0 "_law_pipes_by" 2 (spP g 4 F_law_pipes_by) := ⟨_, _, _, PySem.W.mg_of X G a13, k13, b13, w_law_pipes_by F13 T C_law_pipe_by C_law_cell_at⟩
  have C_law_net_by : Cal P w g mg base CX0 "_law_net_by" 4 (spP g 2 F_law_net_by) := ⟨_, _, _, PySem.W.mg_of X G a14, k14, b14, w_law_net_by F14 T C_init C_lay C_shut⟩
  have C_law_size_of : Cal P w g mg base CX0 "_law_size_of" 2 (spP g 2 F_law_size_of) := ⟨_, _, _, PySem.W.mg_of X G a15, k15, b15, w_law_size_of F15 T C_law_cell_at⟩
  have C_law_wet : Cal P w g mg base CX0 "_law_wet" 1 (spP g 2 F_law_wet) := ⟨_, _, _, PySem.W.mg_of X G a16, k16, b16, w_law_wet F16 T ⟩
  have C_law_numbers : Cal P w g mg base CX0 "_law_numbers" 2 (spP g 2 F_law_numbers) := ⟨_, _, _, PySem.W.mg_of X G a17, k17, b17, w_law_numbers F17 T C_law_whole⟩
  have C_law_rising : Cal P w g mg base CX0 "_law_rising" 3 (spP g 2 F_law_rising) := ⟨_, _, _, PySem.W.mg_of X G a18, k18, b18, w_law_rising F18 T C_law_numbers⟩
  have C_law_is_tree_k08 : Cal P w g mg base CX0 "_law_is_tree" 4 (spP g 3 F_law_is_tree_k08) := ⟨_, _, _, PySem.W.mg_of X G a19, k19, b19, w_law_is_tree_k08 F19 T C_law_rising C_law_wet⟩
  have C_law_order : Cal P w g mg base CX0 "_law_order" 1 (spP g 2 F_law_order) := ⟨_, _, _, PySem.W.mg_of X G a20, k20, b20, w_law_order F20 T ⟩
  have C_law_spoiled_k08 : Cal P w g mg base (L2.CX P w) "_law_spoiled" 1 (spA g 3 G_law_spoiled_k08) := ⟨_, _, _, PySem.W.mg_of X G a21, k21, b21, w_law_spoiled_k08 F21 T ⟩
  have C_law_no_pipe : Cal P w g mg base CX0 "_law_no_pipe" 3 (spP g 2 F_law_no_pipe) := ⟨_, _, _, PySem.W.mg_of X G a22, k22, b22, w_law_no_pipe F22 T C_is_tree⟩
  exact (w_law_k08 F23 T C_law_size_of C_law_order C_law_cell_at C_law_pipes_by C_law_spoiled_k08 C_law_net_by C_is_tree C_law_is_tree_k08 C_law_no_pipe).imp fun vs H Q E q => sp_end (fun ns hl => F_law_k08_t ns hl) q
theorem walk {l : PySem.W.OpenLaw} {q : Program} {loose : List Str} {XP : (Str → Option Value) → Heap → Prop} {YP : World → Heap → Prop} {d : DefRec} {K : Params → PySem.W.Frag} (hn : l.most = some 63) (hdf : d.params.defaults = [])
    (hY : ∀ (w : World) (h : Heap), YP w h → (K w.params).In h)
    (F : ∀ (w : World) (mg : Str → Option Value) (fa : Addr) (h : Heap), (K w.params).In h → h.Ns mainGlobals mg → mg d.name = some (.ref fa) →
      ∃ fd : FuncData, (∀ (s : Shared) (u : Value), BindsTo s fd ⟨[u], []⟩ [("script", u)]) ∧ ∀ base : Heap, (K w.params).In base → base.Ns mainGlobals mg → FnOk l.prog w (K w.params) mg base CX0 5 fa fd ["script"] (spEnd (K w.params))) :
    PySem.W.WalkO q loose XP YP l.row.toRowW d [] (fun f vs => PySem.call f vs) :=
  L2.walk_of (n := 63) (k := 5) (x := "script") (CX := fun _ => CX0) (sp := fun w => spEnd (K w.params)) hn (by decide) hdf ⟨rfl, by decide, by decide⟩ hY F (fun _ _ a ns hl _ hS => ⟨a, ns, rfl, hS, hl, fun _ => rfl⟩) fun _ _ _ _ _ z => z
end Z

open PySem PySem.W PyProof.Rows in
set_option maxRecDepth 100000 in
set_option maxHeartbeats 0 in
set_option pp.maxSteps 300 in
theorem PySem.Challenge.cw_springways_k08_trees_known_holds : PySem.Challenge.rw_springways_k08_trees_known.Holds := by
  w_on; o_law; k_head; (case hw => w_witness2)
  k_fill
  refine Z.walk (l := PySem.Challenge.rw_springways_k08_trees_known) rfl rfl (fun w h Y => PySem.W.kIn_of Y) ?F
  case F =>
    intro w mg fa h KX G hmg
    refine' Z.all_mk KX G hmg ?hC ?h_pg ?h_hd ?h_po ?h_sa ?h_mk ?h_kc ?h_nM ?h_nL ?z_len ?z_range ?z_sorted ?z_set ?z_list ?z_min ?z_max ?z_int ?z_isinstance ?z_bool ?k_PLACES ?k_PIPES ?xg_TooMuch ?xc_TooMuch ?xk_TooMuch ?xb_TooMuch ?xt_TooMuch ?xg_NoPlace ?xc_NoPlace ?xk_NoPlace ?xb_NoPlace ?xt_NoPlace ?xg_NoPipe ?xc_NoPipe ?xk_NoPipe ?xb_NoPipe ?xt_NoPipe ?xg_SamePlace ?xc_SamePlace ?xk_SamePlace ?xb_SamePlace ?xt_SamePlace ?xh_NoPipe ?xs_NoPipe_NoPipe ?a0 ?i0 ?l0 ?c0 ?k0 ?a1 ?i1 ?l1 ?c1 ?k1 ?a2 ?i2 ?l2 ?c2 ?k2 ?a3 ?i3 ?l3 ?c3 ?k3 ?a4 ?i4 ?l4 ?c4 ?k4 ?a5 ?i5 ?l5 ?c5 ?k5 ?a6 ?i6 ?l6 ?c6 ?k6 ?a7 ?i7 ?l7 ?c7 ?k7 ?a8 ?l8 ?c8 ?k8 ?a9 ?l9 ?c9 ?k9 ?a10 ?l10 ?c10 ?k10 ?a11 ?l11 ?c11 ?k11 ?a12 ?l12 ?c12 ?k12 ?a13 ?l13 ?c13 ?k13 ?a14 ?l14 ?c14 ?k14 ?a15 ?l15 ?c15 ?k15 ?a16 ?l16 ?c16 ?k16 ?a17 ?l17 ?c17 ?k17 ?a18 ?l18 ?c18 ?k18 ?a19 ?l19 ?c19 ?k19 ?a20 ?l20 ?c20 ?k20 ?a21 ?l21 ?c21 ?k21 ?a22 ?l22 ?c22 ?k22 ?a23 ?l23 ?c23 ?k23
    (case hC => k_is)
    (case h_pg => k_is)
    (case h_hd => k_is)
    (case h_po => k_is)
    (case h_sa => k_is)
    (case h_mk => k_is)
    (case h_kc => k_is)
    (case h_nM => k_is)
    (case h_nL => k_is)
    (case z_len => k_is)
    (case z_range => k_is)
    (case z_sorted => k_is)
    (case z_set => k_is)
    (case z_list => k_is)
    (case z_min => k_is)
    (case z_max => k_is)
    (case z_int => k_is)
    (case z_isinstance => k_is)
    (case z_bool => k_is)
    (case k_PLACES => k_is)
    (case k_PIPES => k_is)
    (case xg_TooMuch => k_is)
    (case xc_TooMuch => k_exc)
    (case xk_TooMuch => k_is)
    (case xb_TooMuch => k_is)
    (case xt_TooMuch => k_is)
    (case xg_NoPlace => k_is)
    (case xc_NoPlace => k_exc)
    (case xk_NoPlace => k_is)
    (case xb_NoPlace => k_is)
    (case xt_NoPlace => k_is)
    (case xg_NoPipe => k_is)
    (case xc_NoPipe => k_exc)
    (case xk_NoPipe => k_is)
    (case xb_NoPipe => k_is)
    (case xt_NoPipe => k_is)
    (case xg_SamePlace => k_is)
    (case xc_SamePlace => k_exc)
    (case xk_SamePlace => k_is)
    (case xb_SamePlace => k_is)
    (case xt_SamePlace => k_is)
    (case xh_NoPipe => k_is)
    (case xs_NoPipe_NoPipe => k_is)
    (case a0 => k_is)
    (case i0 => k_is)
    (case l0 => k_is)
    (case c0 => k_is)
    (case k0 => k_is)
    (case a1 => k_is)
    (case i1 => k_is)
    (case l1 => k_is)
    (case c1 => k_is)
    (case k1 => k_is)
    (case a2 => k_is)
    (case i2 => k_is)
    (case l2 => k_is)
    (case c2 => k_is)
    (case k2 => k_is)
    (case a3 => k_is)
    (case i3 => k_is)
    (case l3 => k_is)
    (case c3 => k_is)
    (case k3 => k_is)
    (case a4 => k_is)
    (case i4 => k_is)
    (case l4 => k_is)
    (case c4 => k_is)
    (case k4 => k_is)
    (case a5 => k_is)
    (case i5 => k_is)
    (case l5 => k_is)
    (case c5 => k_is)
    (case k5 => k_is)
    (case a6 => k_is)
    (case i6 => k_is)
    (case l6 => k_is)
    (case c6 => k_is)
    (case k6 => k_is)
    (case a7 => k_is)
    (case i7 => k_is)
    (case l7 => k_is)
    (case c7 => k_is)
    (case k7 => k_is)
    (case a8 => k_is)
    (case l8 => k_is)
    (case c8 => k_is)
    (case k8 => k_is)
    (case a9 => k_is)
    (case l9 => k_is)
    (case c9 => k_is)
    (case k9 => k_is)
    (case a10 => k_is)
    (case l10 => k_is)
    (case c10 => k_is)
    (case k10 => k_is)
    (case a11 => k_is)
    (case l11 => k_is)
    (case c11 => k_is)
    (case k11 => k_is)
    (case a12 => k_is)
    (case l12 => k_is)
    (case c12 => k_is)
    (case k12 => k_is)
    (case a13 => k_is)
    (case l13 => k_is)
    (case c13 => k_is)
    (case k13 => k_is)
    (case a14 => k_is)
    (case l14 => k_is)
    (case c14 => k_is)
    (case k14 => k_is)
    (case a15 => k_is)
    (case l15 => k_is)
    (case c15 => k_is)
    (case k15 => k_is)
    (case a16 => k_is)
    (case l16 => k_is)
    (case c16 => k_is)
    (case k16 => k_is)
    (case a17 => k_is)
    (case l17 => k_is)
    (case c17 => k_is)
    (case k17 => k_is)
    (case a18 => k_is)
    (case l18 => k_is)
    (case c18 => k_is)
    (case k18 => k_is)
    (case a19 => k_is)
    (case l19 => k_is)
    (case c19 => k_is)
    (case k19 => k_is)
    (case a20 => k_is)
    (case l20 => k_is)
    (case c20 => k_is)
    (case k20 => k_is)
    (case a21 => k_is)
    (case l21 => k_is)
    (case c21 => k_is)
    (case k21 => k_is)
    (case a22 => k_is)
    (case l22 => k_is)
    (case c22 => k_is)
    (case k22 => k_is)
    (case a23 => k_is)
    (case l23 => k_is)
    (case c23 => k_is)
    (case k23 => k_is)
#print axioms PySem.Challenge.cw_springways_k08_trees_known_holds
