import PyProof.Rows.All
import Wide.All
import OpenK.AllK
import Wide.FinOn
import HandS.Base
import HandS.Call
import HandS.List
import HandS.Words
import HandS.TupAny
import HandS.Wide
import HandS.IsInst
import HandS.SortInts
import HandS.Strs
import HandS.Deep
import HandS.Text
import HandS.SetFor
import HandS.Star
import HandS.Flow
import HandS.Exc
import HandS.Comp
import HandS.Iter
import HandS.Zip
import HandS.CallSlots
import HandS.Style
import HandS.Sort
import HandS.WordsExc
import HandS.Defaults
import HandS.Codes
import HandS.Head0
import HandS.Head1
import HandS.Head2
import HandS.HeadEnd
import HandS.HeadHook1
import HandS.HeadHook2
import PySem.Challenge.RW_freightrights_k39_levels_and_what_is_ove
set_option Elab.async false
set_option linter.all false
set_option autoImplicit false
set_option maxRecDepth 100000
/-! FR1: plain data, how a heap bears it, slots, the state's relation -/
namespace FR
open PySem PySem.Spec PyProof.Rows L2

inductive D where
  | non | bl (b : Bool) | int (i : Int) | str (x : Str)
  | tup (ds : List D) | lst (ds : List D)
  | dK (kvs : List (Key × D)) | dT (kvs : List (D × D))
  | exc (c : Str) (fs : List (Str × D))
  | scr (ns : List Int)
  deriving Inhabited

inductive Slot where
  | un | val (d : D) | own (d : D)
  deriving Inhabited
abbrev En := List Slot
inductive Ld where
  | dat (d : D) | cel (i : Nat) | frs (d : D)
/-- an error in the air: its class and fields -/
structure Xc where
  c : Str
  fs : List (Str × D)
inductive R (α : Type) where
  | ok (a : α) | ex (x : Xc) (env : En) | bad
def R.bind {α β : Type} (r : R α) (f : α → R β) : R β := match r with
  | .ok a => f a
  | .ex x env => .ex x env
  | .bad => .bad
def R.of {α : Type} : Option α → R α
  | some a => .ok a
  | none => .bad
def ownOf : Option Slot → Option D
  | some (.own d) => some d
  | _ => none
theorem ownOf_some {o : Option Slot} {d : D} (h : ownOf o = some d) : o = some (.own d) := by
  cases o with
  | none => cases h
  | some t => cases t <;> first | cases h; done | (cases h; rfl)
def cont (env : En) : Ld → Option D
  | .dat d => some d
  | .frs d => some d
  | .cel i => ownOf env[i]?
def stab : Ld → Option D
  | .dat d => some d
  | .frs d => some d
  | .cel _ => none

section
variable (K : PySem.W.Frag)
mutual
inductive Rep (H : Hp) : V → D → Prop
  | non : Rep H .non .non
  | bl (b : Bool) : Rep H (.bl b) (.bl b)
  | int (i : Int) : Rep H (.int i) (.int i)
  | str (x : Str) : Rep H (.str x) (.str x)
  | tup {a : Addr} {xs : List V} {ds : List D} : SqT K H a xs → RepL H xs ds → Rep H (.ref a) (.tup ds)
  | lst {a : Addr} {xs : List V} {ds : List D} : H a = some (.lst xs) → RepL H xs ds → Rep H (.ref a) (.lst ds)
  | scr {a : Addr} {ns : List Int} : SqL K H a (ns.map V.int) → Rep H (.ref a) (.scr ns)
  | dK {a : Addr} {ys : List (Key × V)} {kvs : List (Key × D)} : H a = some (.dK ys) → RepK H ys kvs → Rep H (.ref a) (.dK kvs)
inductive RepL (H : Hp) : List V → List D → Prop
  | nil : RepL H [] []
  | cons {v : V} {vs : List V} {d : D} {ds : List D} : Rep H v d → RepL H vs ds → RepL H (v :: vs) (d :: ds)
inductive RepK (H : Hp) : List (Key × V) → List (Key × D) → Prop
  | nil : RepK H [] []
  | cons {k : Key} {v : V} {vs : List (Key × V)} {d : D} {ds : List (Key × D)} : Rep H v d → RepK H vs ds → RepK H ((k, v) :: vs) ((k, d) :: ds)
end
end
section
variable {K : PySem.W.Frag}
theorem sameT {H H' : Hp} {a : Addr} {xs : List V} (e : Same H H') (h : SqT K H a xs) : SqT K H' a xs := by
  rcases h with (h | ⟨o, h⟩) | h
  · exact .inl (.inl (e _ _ h))
  · exact .inl (.inr ⟨o, e _ _ h⟩)
  · exact .inr h
mutual
theorem Rep.mono {H H' : Hp} (s : Same H H') : ∀ {v : V} {d : D}, Rep K H v d → Rep K H' v d
  | _, _, .non => .non
  | _, _, .bl b => .bl b
  | _, _, .int i => .int i
  | _, _, .str x => .str x
  | _, _, .tup h r => .tup (sameT s h) (RepL.mono s r)
  | _, _, .lst h r => .lst (s _ _ h) (RepL.mono s r)
  | _, _, .scr h => .scr (s.seq h)
  | _, _, .dK h r => .dK (s _ _ h) (RepK.mono s r)
theorem RepL.mono {H H' : Hp} (s : Same H H') : ∀ {vs : List V} {ds : List D}, RepL K H vs ds → RepL K H' vs ds
  | _, _, .nil => .nil
  | _, _, .cons a b => .cons (Rep.mono s a) (RepL.mono s b)
theorem RepK.mono {H H' : Hp} (s : Same H H') : ∀ {vs : List (Key × V)} {ds : List (Key × D)}, RepK K H vs ds → RepK K H' vs ds
  | _, _, .nil => .nil
  | _, _, .cons a b => .cons (Rep.mono s a) (RepK.mono s b)
end
theorem RepL.length {H : Hp} : ∀ {vs : List V} {ds : List D}, RepL K H vs ds → vs.length = ds.length
  | _, _, .nil => rfl
  | _, _, .cons _ b => congrArg (· + 1) (RepL.length b)
theorem RepK.length {H : Hp} : ∀ {vs : List (Key × V)} {ds : List (Key × D)}, RepK K H vs ds → vs.length = ds.length
  | _, _, .nil => rfl
  | _, _, .cons _ b => congrArg (· + 1) (RepK.length b)
theorem RepL.get {H : Hp} : ∀ {vs : List V} {ds : List D} {i : Nat} {d : D}, RepL K H vs ds → ds[i]? = some d → ∃ v, vs[i]? = some v ∧ Rep K H v d
  | _, _, _, _, .nil, e => by simp at e
  | _, _, 0, _, .cons a b, e => by simp at e; subst e; exact ⟨_, rfl, a⟩
  | _, _, i + 1, d, .cons a b, e => by
    obtain ⟨v, h1, h2⟩ := RepL.get (i := i) (d := d) b (by simpa using e)
    exact ⟨v, by simpa using h1, h2⟩
theorem RepL.append {H : Hp} : ∀ {vs ws : List V} {ds es : List D}, RepL K H vs ds → RepL K H ws es → RepL K H (vs ++ ws) (ds ++ es)
  | _, _, _, _, .nil, s => s
  | _, _, _, _, .cons a b, s => .cons a (RepL.append b s)
theorem RepL.take {H : Hp} : ∀ {vs : List V} {ds : List D} (n : Nat), RepL K H vs ds → RepL K H (vs.take n) (ds.take n)
  | _, _, 0, _ => .nil
  | _, _, _ + 1, .nil => .nil
  | _, _, n + 1, .cons a b => .cons a (RepL.take n b)
theorem RepL.drop {H : Hp} : ∀ {vs : List V} {ds : List D} (n : Nat), RepL K H vs ds → RepL K H (vs.drop n) (ds.drop n)
  | _, _, 0, r => r
  | _, _, _ + 1, .nil => .nil
  | _, _, n + 1, .cons _ b => RepL.drop n b
theorem RepL.set {H : Hp} {v : V} {d : D} (r : Rep K H v d) : ∀ {vs : List V} {ds : List D} (i : Nat), RepL K H vs ds → RepL K H (vs.set i v) (ds.set i d)
  | _, _, _, .nil => .nil
  | _, _, 0, .cons _ b => .cons r b
  | _, _, i + 1, .cons a b => .cons a (RepL.set r i b)

/-- what stands at an address bears a container, its parts in H0 -/
def ObR (K : PySem.W.Frag) (H0 : Hp) : HO → D → Prop
  | .lst xs, .lst ds => RepL K H0 xs ds
  | .dK ys, .dK kvs => RepK K H0 ys kvs
  | _, _ => False
theorem ObR.mono {H H' : Hp} (s : Same H H') : ∀ {o : HO} {d : D}, ObR K H o d → ObR K H' o d := by
  intro o d h
  cases o <;> cases d <;> first | exact h.elim | exact RepL.mono s h | exact RepK.mono s h
theorem ObR.rep {H : Hp} {p : Addr} {o : HO} {d : D} (e : H p = some o) (h : ObR K H o d) : Rep K H (.ref p) d := by
  cases o <;> cases d <;> first | exact h.elim | exact .lst e h | exact .dK e h
/-- the value as an operation sees it: its own object in H, its parts in H0 -/
def Vw (K : PySem.W.Frag) (H0 H : Hp) (v : V) : D → Prop
  | .lst ds => ∃ a xs, v = .ref a ∧ H a = some (.lst xs) ∧ RepL K H0 xs ds
  | .dK kvs => ∃ a ys, v = .ref a ∧ H a = some (.dK ys) ∧ RepK K H0 ys kvs
  | d => Rep K H0 v d
theorem Rep.vw {H0 H : Hp} (s : Same H0 H) {v : V} {d : D} (r : Rep K H0 v d) : Vw K H0 H v d := by
  cases r with
  | non => exact .non
  | bl b => exact .bl b
  | int i => exact .int i
  | str x => exact .str x
  | tup h q => exact .tup h q
  | lst h q => exact ⟨_, _, rfl, s _ _ h, q⟩
  | scr h => exact .scr h
  | dK h q => exact ⟨_, _, rfl, s _ _ h, q⟩
theorem ObR.vw {H0 H : Hp} {p : Addr} {o : HO} {d : D} (e : H p = some o) (h : ObR K H0 o d) : Vw K H0 H (.ref p) d := by
  cases o <;> cases d <;> first | exact h.elim | exact ⟨_, _, rfl, e, h⟩

def SlotR (K : PySem.W.Frag) (H0 Hf H : Hp) : Slot → Option V → Prop
  | .un, _ => True
  | .val d, o => ∃ v, o = some v ∧ Rep K H0 v d
  | .own d, o => ∃ p ob, o = some (.ref p) ∧ H p = some ob ∧ ObR K H0 ob d ∧ H0 p = none ∧ Hf p = none
/-- the state: env told, the frozen part H0, the foreign part Hf, all H -/
structure SR (K : PySem.W.Frag) (env : En) (σ : L2.St) (H0 Hf H : Hp) : Prop where
  zs : Same H0 H
  fs : Same Hf H
  dj : ∀ p, H0 p = none ∨ Hf p = none
  sl : ∀ (i : Nat) (t : Slot), env[i]? = some t → ∃ o, σ[i]? = some o ∧ SlotR K H0 Hf H t o
  un : ∀ (i j : Nat) (p : Addr) (d e : D), env[i]? = some (.own d) → env[j]? = some (.own e) → σ[i]? = some (some (.ref p)) → σ[j]? = some (some (.ref p)) → i = j
  len : env.length = σ.length
/-- new things alone -/
structure Gr (H0 H H0' H' : Hp) : Prop where
  h : Same H H'
  z : Same H0 H0'
  s : Same H0' H'
  n : ∀ p, H0' p ≠ none → H0 p ≠ none ∨ H p = none
theorem Gr.refl {H0 H : Hp} (s : Same H0 H) : Gr H0 H H0 H := ⟨.refl _, .refl _, s, fun _ h => .inl h⟩
theorem Gr.new {H0 H : Hp} {p : Addr} {o : HO} (s : Same H0 H) (hn : H p = none) : Gr H0 H (upd H0 p o) (upd H p o) := by
  have h0 : H0 p = none := s.free hn
  refine ⟨fun b x e => ?_, fun b x e => ?_, fun b x e => ?_, fun b hb => ?_⟩
  · rw [upd_ne (ne_of_none e hn)]; exact e
  · rw [upd_ne (ne_of_none e h0)]; exact e
  · by_cases hb : b = p
    · subst hb; rw [upd_same] at e ⊢; exact e
    · rw [upd_ne hb] at e ⊢; exact s _ _ e
  · by_cases hp : b = p
    · subst hp; exact .inr hn
    · rw [upd_ne hp] at hb; exact .inl hb
theorem Gr.trans {A B A1 B1 A2 B2 : Hp} (x : Gr A B A1 B1) (y : Gr A1 B1 A2 B2) : Gr A B A2 B2 :=
  ⟨x.h.trans y.h, x.z.trans y.z, y.s, fun p hp => (y.n p hp).elim (fun q => x.n p q) fun q => .inr (x.h.free q)⟩
section
variable {env : En} {σ : L2.St} {H0 Hf H H0' H' : Hp}
theorem some_ne {α : Type} {o : Option α} (h : o ≠ none) : ∃ x, o = some x := by
  cases o with
  | none => exact absurd rfl h
  | some x => exact ⟨x, rfl⟩
theorem SR.gr (r : SR K env σ H0 Hf H) (g : Gr H0 H H0' H') : SR K env σ H0' Hf H' := by
  have nw : ∀ p, H0 p = none → H p ≠ none → H0' p = none := fun p a b => by
    cases e : H0' p with
    | none => rfl
    | some x =>
      rcases g.n p (by rw [e]; simp) with q | q
      · exact absurd a q
      · exact absurd q b
  refine ⟨g.s, r.fs.trans g.h, fun p => ?_, fun i t e => ?_, r.un, r.len⟩
  · cases hf : Hf p with
    | none => exact .inr rfl
    | some x =>
      refine .inl (nw p ?_ ?_)
      · rcases r.dj p with q | q
        · exact q
        · rw [hf] at q; cases q
      · rw [r.fs _ _ hf]; simp
  · obtain ⟨o, h1, h2⟩ := r.sl i t e
    refine ⟨o, h1, ?_⟩
    cases t with
    | un => trivial
    | val d => obtain ⟨v, e1, e2⟩ := h2; exact ⟨v, e1, e2.mono g.z⟩
    | own d =>
      obtain ⟨p, ob, e1, e2, e3, e4, e5⟩ := h2
      exact ⟨p, ob, e1, g.h _ _ e2, e3.mono g.z, nw p e4 (by rw [e2]; simp), e5⟩
end
/-- a loaded value -/
def LdR (K : PySem.W.Frag) (env : En) (σ : L2.St) (H0 Hf H : Hp) (v : V) : Ld → Prop
  | .dat d => Rep K H0 v d
  | .cel i => σ[i]? = some (some v) ∧ ∃ d, env[i]? = some (.own d)
  | .frs d => ∃ p o, v = .ref p ∧ H p = some o ∧ ObR K H0 o d ∧ H0 p = none ∧ Hf p = none ∧ ∀ (i : Nat) (e : D), env[i]? = some (.own e) → σ[i]? ≠ some (some (.ref p))
section
variable {env env2 : En} {σ : L2.St} {H0 Hf H H0' H' : Hp} {v : V} {l : Ld} {d : D}
theorem LdR.vw (r : SR K env σ H0 Hf H) (h : LdR K env σ H0 Hf H v l) (c : cont env l = some d) : Vw K H0 H v d := by
  cases l with
  | dat e => cases c; exact Rep.vw r.zs h
  | frs e =>
    cases c
    obtain ⟨p, o, rfl, e1, e2, _⟩ := h
    exact e2.vw e1
  | cel i =>
    obtain ⟨h1, e, h2⟩ := h
    have c : ownOf env[i]? = some d := c
    rw [h2] at c
    cases c
    obtain ⟨o, q1, p, ob, q2, q3, q4, _⟩ := r.sl i _ h2
    rw [h1] at q1; cases q1; cases q2
    exact q4.vw q3
/-- frozen -/
theorem LdR.stab (r : SR K env σ H0 Hf H) (h : LdR K env σ H0 Hf H v l) (c : stab l = some d) : ∃ H0', SR K env σ H0' Hf H ∧ Same H0 H0' ∧ Rep K H0' v d := by
  cases l with
  | dat e => cases c; exact ⟨H0, r, .refl _, h⟩
  | cel i => cases c
  | frs e =>
    cases c
    obtain ⟨p, o, rfl, e1, e2, e3, e4, e5⟩ := h
    have sm : Same H0 (upd H0 p o) := fun b x q => by rw [upd_ne (ne_of_none q e3)]; exact q
    refine ⟨upd H0 p o, ⟨fun b x q => ?_, r.fs, fun q => ?_, fun i t q => ?_, r.un, r.len⟩, sm, ObR.rep upd_same (e2.mono sm)⟩
    · by_cases hb : b = p
      · subst hb; rw [upd_same] at q; cases q; exact e1
      · rw [upd_ne hb] at q; exact r.zs _ _ q
    · by_cases hb : q = p
      · subst hb; exact .inr e4
      · rw [upd_ne hb]; exact r.dj q
    · obtain ⟨w, h1, h2⟩ := r.sl i t q
      refine ⟨w, h1, ?_⟩
      cases t with
      | un => trivial
      | val d => obtain ⟨v, a, b⟩ := h2; exact ⟨v, a, b.mono sm⟩
      | own d =>
        obtain ⟨p', ob, a1, a2, a3, a4, a5⟩ := h2
        refine ⟨p', ob, a1, a2, a3.mono sm, ?_, a5⟩
        rw [upd_ne]
        · exact a4
        · rintro rfl
          exact e5 i d q (by rw [h1, a1])
/-- a fresh thing is laid beside, while something else is reckoned -/
theorem LdR.hold (r : SR K env σ H0 Hf H) (h : LdR K env σ H0 Hf H v l) : ∃ Hf1, SR K env σ H0 Hf1 H ∧ (∀ q, Hf1 q = none → Hf q = none) ∧ (∀ p d, l = .frs d → v = .ref p → Hf1 p ≠ none) ∧
    ∀ env2 H0' H', SR K env2 σ H0' Hf1 H' → Same H0 H0' → SR K env2 σ H0' Hf H' ∧ (cont env2 l ≠ none → LdR K env2 σ H0' Hf H' v l) := by
  cases l with
  | dat d => exact ⟨Hf, r, fun _ z => z, fun _ _ z => (nomatch z), fun env2 H0' H' r2 s => ⟨r2, fun _ => Rep.mono s h⟩⟩
  | cel i =>
    refine ⟨Hf, r, fun _ z => z, fun _ _ z => (nomatch z), fun env2 H0' H' r2 s => ⟨r2, fun c => ⟨h.1, ?_⟩⟩⟩
    obtain ⟨d, c⟩ := some_ne c
    exact ⟨d, ownOf_some c⟩
  | frs d =>
    obtain ⟨p, o, rfl, e1, e2, e3, e4, e5⟩ := h
    refine ⟨upd Hf p o, ⟨r.zs, fun b x q => ?_, fun q => ?_, fun i t q => ?_, r.un, r.len⟩, fun q z => ?_, fun p' d' _ z => ?_, fun env2 H0' H' r2 s => ?_⟩
    · by_cases hb : b = p
      · subst hb; rw [upd_same] at q; cases q; exact e1
      · rw [upd_ne hb] at q; exact r.fs _ _ q
    · by_cases hb : q = p
      · subst hb; exact .inl e3
      · rw [upd_ne hb]; exact r.dj q
    · obtain ⟨w, h1, h2⟩ := r.sl i t q
      refine ⟨w, h1, ?_⟩
      cases t with
      | un => trivial
      | val d => exact h2
      | own d =>
        obtain ⟨p', ob, a1, a2, a3, a4, a5⟩ := h2
        refine ⟨p', ob, a1, a2, a3, a4, ?_⟩
        rw [upd_ne]
        · exact a5
        · rintro rfl
          exact e5 i d q (by rw [h1, a1])
    · by_cases hb : q = p
      · subst hb; rw [upd_same] at z; cases z
      · rw [upd_ne hb] at z; exact z
    · cases z; rw [upd_same]; simp
    · have hp : H' p = some o := r2.fs _ _ upd_same
      have h0 : H0' p = none := by
        rcases r2.dj p with q | q
        · exact q
        · rw [upd_same] at q; cases q
      have sf : Same Hf (upd Hf p o) := fun b x q => by rw [upd_ne (ne_of_none q e4)]; exact q
      refine ⟨⟨r2.zs, sf.trans r2.fs, fun q => ?_, fun i t q => ?_, r2.un, r2.len⟩, fun _ => ⟨p, o, rfl, hp, e2.mono s, h0, e4, fun i e q z => ?_⟩⟩
      · rcases r2.dj q with z | z
        · exact .inl z
        · exact .inr (sf.free z)
      · obtain ⟨w, h1, h2⟩ := r2.sl i t q
        refine ⟨w, h1, ?_⟩
        cases t with
        | un => trivial
        | val d => exact h2
        | own d =>
          obtain ⟨p', ob, a1, a2, a3, a4, a5⟩ := h2
          exact ⟨p', ob, a1, a2, a3, a4, sf.free a5⟩
      · obtain ⟨w, h1, p', ob, a1, a2, a3, a4, a5⟩ := r2.sl i _ q
        rw [z] at h1
        cases h1
        cases a1
        rw [upd_same] at a5
        cases a5
end
end
end FR
set_option Elab.async false
set_option linter.all false
set_option autoImplicit false
set_option maxRecDepth 100000
/-! FR2: operations upon data, each with its rule -/
namespace FR
open PySem PySem.Spec PyProof.Rows L2

/-! ### data told by depth -/
def okN : Nat → D → Bool
  | _, .non => true
  | _, .bl _ => true
  | _, .int _ => true
  | _, .str x => PyData.strOk x
  | n + 1, .tup ds => ds.all (okN n)
  | n + 1, .lst ds => ds.all (okN n)
  | _, _ => false
def pyN : Nat → D → PyData
  | _, .non => .none
  | _, .bl b => .bool b
  | _, .int i => .int i
  | _, .str x => .str x
  | n + 1, .tup ds => .tuple (ds.map (pyN n))
  | n + 1, .lst ds => .list (ds.map (pyN n))
  | _, _ => .none
def eqL (f : D → D → Bool) : List D → List D → Bool
  | [], [] => true
  | x :: xs, y :: ys => f x y && eqL f xs ys
  | _, _ => false
def b2z (b : Bool) : Int := if b then 1 else 0
def eqN : Nat → D → D → Bool
  | _, .non, .non => true
  | _, .bl a, .bl b => a == b
  | _, .bl a, .int j => b2z a == j
  | _, .int i, .bl b => i == b2z b
  | _, .int i, .int j => i == j
  | _, .str x, .str y => x == y
  | n + 1, .tup a, .tup b => eqL (eqN n) a b
  | n + 1, .lst a, .lst b => eqL (eqN n) a b
  | _, _, _ => false
theorem eqvAll_map (n : Nat) (h : ∀ d e, okN n d = true → okN n e = true → PyData.eqv (pyN n d) (pyN n e) = eqN n d e) : ∀ (a b : List D), a.all (okN n) = true → b.all (okN n) = true →
    PyData.eqvAll (a.map (pyN n)) (b.map (pyN n)) = eqL (eqN n) a b
  | [], [], _, _ => by simp [PyData.eqvAll, eqL]
  | [], _ :: _, _, _ => by simp [PyData.eqvAll, eqL]
  | _ :: _, [], _, _ => by simp [PyData.eqvAll, eqL]
  | x :: xs, y :: ys, h1, h2 => by
    rw [List.all_cons, Bool.and_eq_true] at h1 h2
    rw [List.map_cons, List.map_cons, PyData.eqvAll, h x y h1.1 h2.1, eqvAll_map n h xs ys h1.2 h2.2]
    rfl
theorem eqv_py : ∀ (n : Nat) (d e : D), okN n d = true → okN n e = true → PyData.eqv (pyN n d) (pyN n e) = eqN n d e
  | 0, d, e, h1, h2 => by
    cases d <;> cases e <;> first | (simp [okN] at h1; done) | (simp [okN] at h2; done) | simp [pyN, eqN, PyData.eqv, b2z]
  | n + 1, d, e, h1, h2 => by
    cases d <;> cases e <;> first | (simp [okN] at h1; done) | (simp [okN] at h2; done) | (simp [pyN, eqN, PyData.eqv, b2z]; done) | skip
    all_goals
      simp only [pyN, eqN, PyData.eqv]
      exact eqvAll_map n (eqv_py n) _ _ h1 h2
theorem lay_map (n : Nat) (h : ∀ d, okN n d = true → (pyN n d).canLay0 = true ∧ (pyN n d).depth ≤ n) : ∀ a : List D, a.all (okN n) = true → PyData.canLayAll0 (a.map (pyN n)) = true ∧ PyData.depthAll (a.map (pyN n)) ≤ n
  | [], _ => by simp [PyData.canLayAll0, PyData.depthAll]
  | x :: xs, h1 => by
    rw [List.all_cons, Bool.and_eq_true] at h1
    obtain ⟨a1, a2⟩ := h x h1.1
    obtain ⟨b1, b2⟩ := lay_map n h xs h1.2
    rw [List.map_cons]
    refine ⟨?_, ?_⟩
    · simp [PyData.canLayAll0, a1, b1]
    · simp only [PyData.depthAll]; omega
theorem lay_py : ∀ (n : Nat) (d : D), okN n d = true → (pyN n d).canLay0 = true ∧ (pyN n d).depth ≤ n
  | 0, d, h => by cases d <;> first | (simp [okN] at h; done) | simp_all [pyN, okN, PyData.canLay0, PyData.depth]
  | n + 1, d, h => by
    cases d <;> first | (simp [okN] at h; done) | (simp [pyN, PyData.canLay0, PyData.depth]; done) | (simp_all [pyN, okN, PyData.canLay0, PyData.depth]; done) | skip
    all_goals
      simp only [pyN, PyData.canLay0, PyData.depth]
      obtain ⟨a, b⟩ := lay_map n (lay_py n) _ h
      refine ⟨a, by omega⟩
theorem shaped_py {n : Nat} {d : D} (hn : n ≤ 64) (h : okN n d = true) : SeqAt.shaped (pyN n d) = true := by
  obtain ⟨a, b⟩ := lay_py n d h
  unfold SeqAt.shaped
  rw [a, decide_eq_true (by omega)]
  rfl
section
variable {K : PySem.W.Frag} {H0 H : Hp}
theorem dpAll_of (n : Nat) (h : ∀ v d, okN n d = true → Rep K H v d → Dp K H v (pyN n d)) : ∀ {vs : List V} {ds : List D}, ds.all (okN n) = true → RepL K H vs ds → DpAll K H vs (ds.map (pyN n))
  | _, _, _, .nil => .nil
  | _, _, ho, .cons a b => by
    rw [List.all_cons, Bool.and_eq_true] at ho
    exact .cons (h _ _ ho.1 a) (dpAll_of n h ho.2 b)
theorem Rep.dp : ∀ (n : Nat) (v : V) (d : D), okN n d = true → Rep K H v d → Dp K H v (pyN n d)
  | 0, v, d, ho, r => by
    cases r with
    | non => exact .non
    | bl b => exact .bl b
    | int i => exact .int i
    | str x => exact .str x
    | tup _ _ => exact absurd ho (by simp [okN])
    | lst _ _ => exact absurd ho (by simp [okN])
    | dK _ _ => exact absurd ho (by simp [okN])
    | scr _ => exact absurd ho (by simp [okN])
  | n + 1, v, d, ho, r => by
    cases r with
    | non => exact .non
    | bl b => exact .bl b
    | int i => exact .int i
    | str x => exact .str x
    | tup h q => exact .tup h (dpAll_of n (Rep.dp n) ho q)
    | lst h q => exact .lst (.of h) (dpAll_of n (Rep.dp n) ho q)
    | dK _ _ => exact absurd ho (by simp [okN])
    | scr _ => exact absurd ho (by simp [okN])
theorem Vw.rep (s : Same H0 H) {v : V} {d : D} (h : Vw K H0 H v d) : Rep K H v d := by
  cases d with
  | tup ds => exact Rep.mono s h
  | lst ds => obtain ⟨a, xs, rfl, q, r⟩ := h; exact .lst q (r.mono s)
  | dK kvs => obtain ⟨a, xs, rfl, q, r⟩ := h; exact .dK q (r.mono s)
  | dT kvs => exact Rep.mono s h
  | exc c fs => exact Rep.mono s h
  | scr ns => exact Rep.mono s h
  | non => exact Rep.mono s h
  | bl b => exact Rep.mono s h
  | int i => exact Rep.mono s h
  | str x => exact Rep.mono s h
theorem Vw.int {v : V} {i : Int} (h : Vw K H0 H v (.int i)) : v = .int i := by cases (show Rep K H0 v (.int i) from h); rfl
theorem Vw.str {v : V} {x : Str} (h : Vw K H0 H v (.str x)) : v = .str x := by cases (show Rep K H0 v (.str x) from h); rfl
theorem Vw.bl {v : V} {b : Bool} (h : Vw K H0 H v (.bl b)) : v = .bl b := by cases (show Rep K H0 v (.bl b) from h); rfl
theorem Vw.tup {v : V} {ds : List D} (h : Vw K H0 H v (.tup ds)) : ∃ a xs, v = .ref a ∧ SqT K H0 a xs ∧ RepL K H0 xs ds := by
  cases (show Rep K H0 v (.tup ds) from h) with
  | tup q r => exact ⟨_, _, rfl, q, r⟩
theorem Vw.non {v : V} (h : Vw K H0 H v .non) : v = .non := by cases (show Rep K H0 v .non from h); rfl
end

/-! ### what an operation hands on -/
def PostL (K : PySem.W.Frag) (H0 H : Hp) (Q : VK) : Ld → Prop
  | .dat z => ∀ v H0' H', Gr H0 H H0' H' → Rep K H0' v z → Q v H'
  | .frs z => ∀ l o, H l = none → ObR K H0 o z → Q (.ref l) (upd H l o)
  | .cel _ => False
theorem PostL.same {K : PySem.W.Frag} {H0 H : Hp} {Q : VK} {v : V} {z : D} (s : Same H0 H) (p : PostL K H0 H Q (.dat z)) (r : Rep K H0 v z) : Q v H := p v H0 H (.refl s) r
theorem PostL.newT {K : PySem.W.Frag} {H0 H : Hp} {Q : VK} {xs : List V} {ds : List D} {p : Addr} (s : Same H0 H) (q : PostL K H0 H Q (.dat (.tup ds))) (r : RepL K H0 xs ds) (hp : H p = none) : Q (.ref p) (upd H p (.tup xs)) := by
  have g : Gr H0 H (upd H0 p (.tup xs)) (upd H p (.tup xs)) := .new s hp
  exact q _ _ _ g (.tup (.inl (.inl upd_same)) (r.mono g.z))
def rD2 (K : PySem.W.Frag) (g : D → D → Option Ld) : R2 := fun x y H Q => ∃ H0 d e l, Same H0 H ∧ Vw K H0 H x d ∧ Vw K H0 H y e ∧ g d e = some l ∧ PostL K H0 H Q l
def rD1 (K : PySem.W.Frag) (g : D → Option Ld) : V → Hp → VK → Prop := fun x H Q => ∃ H0 d l, Same H0 H ∧ Vw K H0 H x d ∧ g d = some l ∧ PostL K H0 H Q l
inductive VwL (K : PySem.W.Frag) (H0 H : Hp) : List V → List D → Prop
  | nil : VwL K H0 H [] []
  | cons {v : V} {vs : List V} {d : D} {ds : List D} : Vw K H0 H v d → VwL K H0 H vs ds → VwL K H0 H (v :: vs) (d :: ds)
def rDs (K : PySem.W.Frag) (g : List D → Option Ld) : List V → Hp → VK → Prop := fun xs H Q => ∃ H0 ds l, Same H0 H ∧ VwL K H0 H xs ds ∧ g ds = some l ∧ PostL K H0 H Q l

theorem grd {c : Prop} [Decidable c] {α : Type} {o : Option α} {l : α} (h : (if c then o else none) = some l) : c ∧ o = some l := by
  by_cases hc : c
  · rw [if_pos hc] at h; exact ⟨hc, h⟩
  · rw [if_neg hc] at h; cases h
/-! ### arithmetic -/
abbrev one (d : D) : Option Ld := some (.dat d)
def addD : D → D → Option Ld
  | .int i, .int j => one (.int (i + j))
  | .str x, .str y => if x.length + y.length ≤ sizeLine then one (.str (x ++ y)) else none
  | .lst a, .lst b => if a.length + b.length ≤ sizeLine then some (.frs (.lst (a ++ b))) else none
  | .tup a, .tup b => if a.length + b.length ≤ sizeLine then one (.tup (a ++ b)) else none
  | _, _ => none
def subD : D → D → Option Ld
  | .int i, .int j => one (.int (i - j))
  | _, _ => none
instance decCMul (i j : Int) : Decidable (CMul i j) := by unfold CMul; exact inferInstance
def mulD : D → D → Option Ld
  | .int i, .int j => if CMul i j then one (.int (i * j)) else none
  | _, _ => none
instance decCDivW (i j : Int) : Decidable (CDivW i j) := by unfold CDivW; exact inferInstance
def fdivD : D → D → Option Ld
  | .int i, .int j => if CDivW i j then one (.int (i / j)) else none
  | _, _ => none
def modD : D → D → Option Ld
  | .int i, .int j => if 0 < j then one (.int (i % j)) else none
  | _, _ => none
instance decCPow (i j : Int) : Decidable (CPow i j) := by unfold CPow; exact inferInstance
def powD : D → D → Option Ld
  | .int i, .int j => if CPow i j then one (.int (i ^ j.toNat)) else none
  | _, _ => none
inductive Bop where
  | add | sub | mul | fdiv | mod | pow
  deriving DecidableEq
def Bop.op : Bop → Operator
  | .add => .Add | .sub => .Sub | .mul => .Mult | .fdiv => .FloorDiv | .mod => .Mod | .pow => .Pow
def Bop.run : Bop → D → D → Option Ld
  | .add => addD | .sub => subD | .mul => mulD | .fdiv => fdivD | .mod => modD | .pow => powD
section
variable {X : Cx}
theorem op_addD : OpR X (binaryOp .Add) (rD2 X.K addD) := by
  intro pn s sg H x y v u Q I rx ry h
  obtain ⟨H0, d, e, l, sm, vx, vy, g, p⟩ := h
  cases d <;> cases e <;> try (simp [addD] at g; done)
  · cases g
    cases vx.int; cases vy.int
    exact op_add pn s sg H _ _ v u Q I rx ry ⟨_, _, rfl, rfl, p.same sm (.int _)⟩
  · cases vx.str; cases vy.str
    obtain ⟨hz, g⟩ := grd g
    cases g
    exact op_add_str pn s sg H _ _ v u Q I rx ry ⟨_, _, rfl, rfl, hz, p.same sm (.str _)⟩
  · obtain ⟨a, xs, rfl, q1, r1⟩ := vx.tup
    obtain ⟨b, ys, rfl, q2, r2⟩ := vy.tup
    obtain ⟨hz, g⟩ := grd g
    cases g
    have l1 := r1.length
    have l2 := r2.length
    refine op_catA pn s sg H _ _ v u Q I rx ry ⟨a, b, xs, ys, rfl, rfl, sameT sm q1, sameT sm q2, by omega, fun z => ?_, fun z1 z => ?_, fun z1 z2 pp hp => ?_⟩
    · subst z
      cases r1
      exact p.same sm (.tup q2 r2)
    · subst z
      cases r2
      rw [List.append_nil] at p
      exact p.same sm (.tup q1 r1)
    · exact p.newT sm (r1.append r2) hp
  · obtain ⟨a, xs, rfl, q1, r1⟩ := vx
    obtain ⟨b, ys, rfl, q2, r2⟩ := vy
    obtain ⟨hz, g⟩ := grd g
    cases g
    have l1 := r1.length
    have l2 := r2.length
    exact op_cat pn s sg H _ _ v u Q I rx ry ⟨a, b, xs, ys, rfl, rfl, q1, q2, by omega, fun pp hp => p pp _ hp (r1.append r2)⟩

theorem int2 {f : Value → Value → Sem Value} {C : Int → Int → Prop} [∀ i j, Decidable (C i j)] {h : Int → Int → Int} {g : D → D → Option Ld} (o : OpR X f (rI C fun i j => .int (h i j)))
    (hg : ∀ d e l, g d e = some l → ∃ i j, d = .int i ∧ e = .int j ∧ C i j ∧ l = .dat (.int (h i j))) : OpR X f (rD2 X.K g) := by
  intro pn s sg H x y v u Q I rx ry q
  obtain ⟨H0, d, e, l, sm, vx, vy, g, p⟩ := q
  obtain ⟨i, j, rfl, rfl, c, rfl⟩ := hg d e l g
  cases vx.int; cases vy.int
  exact o pn s sg H _ _ v u Q I rx ry ⟨_, _, rfl, rfl, c, p.same sm (.int _)⟩
theorem op_subD : OpR X (binaryOp .Sub) (rD2 X.K subD) := by
  intro pn s sg H x y v u Q I rx ry q
  obtain ⟨H0, d, e, l, sm, vx, vy, g, p⟩ := q
  cases d <;> cases e <;> try (simp [subD] at g; done)
  cases g
  cases vx.int; cases vy.int
  exact op_sub pn s sg H _ _ v u Q I rx ry ⟨_, _, rfl, rfl, p.same sm (.int _)⟩
theorem op_mulD : OpR X (binaryOp .Mult) (rD2 X.K mulD) := int2 op_mul fun d e l g => by
  cases d <;> cases e <;> try (simp [mulD] at g; done)
  obtain ⟨c, g⟩ := grd g
  cases g
  exact ⟨_, _, rfl, rfl, c, rfl⟩
theorem op_fdivD : OpR X (binaryOp .FloorDiv) (rD2 X.K fdivD) := int2 op_fdivW fun d e l g => by
  cases d <;> cases e <;> try (simp [fdivD] at g; done)
  obtain ⟨c, g⟩ := grd g
  cases g
  exact ⟨_, _, rfl, rfl, c, rfl⟩
theorem op_modD : OpR X (binaryOp .Mod) (rD2 X.K modD) := int2 op_mod fun d e l g => by
  cases d <;> cases e <;> try (simp [modD] at g; done)
  obtain ⟨c, g⟩ := grd g
  cases g
  exact ⟨_, _, rfl, rfl, c, rfl⟩
theorem op_powD : OpR X (binaryOp .Pow) (rD2 X.K powD) := int2 op_pow fun d e l g => by
  cases d <;> cases e <;> try (simp [powD] at g; done)
  obtain ⟨c, g⟩ := grd g
  cases g
  exact ⟨_, _, rfl, rfl, c, rfl⟩
theorem Bop.ok (b : Bop) : OpR X (binaryOp b.op) (rD2 X.K b.run) := by
  cases b
  · exact op_addD
  · exact op_subD
  · exact op_mulD
  · exact op_fdivD
  · exact op_modD
  · exact op_powD
end

/-! ### comparisons -/
abbrev dep : Nat := 40
def ltD : D → D → Option Bool
  | .int i, .int j => some (decide (i < j))
  | .str x, .str y => some (decide (x.cps.toList < y.cps.toList))
  | _, _ => none
def eqD (d e : D) : Option Bool := if okN dep d = true ∧ okN dep e = true then some (eqN dep d e) else none
def isNon : D → Bool
  | .non => true
  | _ => false
def inD (d : D) : D → Option Bool
  | .lst ds => if okN dep d = true ∧ okN dep (.lst ds) = true then some (ds.any fun z => eqN (dep - 1) z d) else none
  | _ => none
abbrev oneB (b : Option Bool) : Option Ld := b.map fun b => .dat (.bl b)
inductive Cop where
  | lt | gt | le | ge | eq | ne | isN | notN
  deriving DecidableEq
def Cop.op : Cop → CmpOp
  | .lt => .Lt | .gt => .Gt | .le => .LtE | .ge => .GtE | .eq => .Eq | .ne => .NotEq | .isN => .Is | .notN => .IsNot
def leI : D → D → Option Bool
  | .int i, .int j => some (decide (i ≤ j))
  | _, _ => none
def Cop.run : Cop → D → D → Option Ld
  | .lt, d, e => oneB (ltD d e)
  | .gt, d, e => oneB (ltD e d)
  | .le, d, e => oneB (leI d e)
  | .ge, d, e => oneB (leI e d)
  | .eq, d, e => oneB (eqD d e)
  | .ne, d, e => oneB ((eqD d e).map (!·))
  | .isN, d, e => if isNon e then oneB (some (isNon d)) else none
  | .notN, d, e => if isNon e then oneB (some (!isNon d)) else none
section
variable {X : Cx}
theorem mapB {o : Option Bool} {l : Ld} (h : oneB o = some l) : ∃ b, o = some b ∧ l = .dat (.bl b) := by
  cases o with
  | none => cases h
  | some b => cases h; exact ⟨b, rfl, rfl⟩
theorem isNon_iff {K : PySem.W.Frag} {H0 H : Hp} {v : V} {d : D} (h : Vw K H0 H v d) : decide (v = .non) = isNon d := by
  cases d with
  | non => cases h.non; rfl
  | bl b => cases h.bl; rfl
  | int i => cases h.int; rfl
  | str x => cases h.str; rfl
  | tup ds => obtain ⟨a, xs, rfl, _⟩ := h.tup; rfl
  | lst ds => obtain ⟨a, xs, rfl, _⟩ := h; rfl
  | dK ds => obtain ⟨a, xs, rfl, _⟩ := h; rfl
  | dT kvs => cases (show Rep K H0 v (.dT kvs) from h)
  | exc c fs => cases (show Rep K H0 v (.exc c fs) from h)
  | scr ns => cases (show Rep K H0 v (.scr ns) from h); rfl
theorem Cop.ok (hu : X.A.units + 65 < cLine) (c : Cop) : OpR X (compareOp c.op) (rD2 X.K c.run) := by
  intro pn s sg H x y v u Q I rx ry q
  obtain ⟨H0, d, e, l, sm, vx, vy, g, p⟩ := q
  cases c
  · obtain ⟨b, g2, rfl⟩ := mapB g
    cases d <;> cases e <;> try (simp [ltD] at g2; done)
    · cases g2; cases vx.int; cases vy.int
      exact op_lt pn s sg H _ _ v u Q I rx ry ⟨_, _, rfl, rfl, p.same sm (.bl _)⟩
    · cases g2; cases vx.str; cases vy.str
      exact op_lt_str pn s sg H _ _ v u Q I rx ry ⟨_, _, rfl, rfl, p.same sm (.bl _)⟩
  · obtain ⟨b, g2, rfl⟩ := mapB g
    cases d <;> cases e <;> try (simp [ltD] at g2; done)
    · cases g2; cases vx.int; cases vy.int
      exact op_gt pn s sg H _ _ v u Q I rx ry ⟨_, _, rfl, rfl, p.same sm (.bl _)⟩
    · cases g2; cases vx.str; cases vy.str
      exact op_gt_str pn s sg H _ _ v u Q I rx ry ⟨_, _, rfl, rfl, p.same sm (.bl _)⟩
  · obtain ⟨b, g2, rfl⟩ := mapB g
    cases d <;> cases e <;> try (simp [leI] at g2; done)
    cases g2; cases vx.int; cases vy.int
    exact op_le pn s sg H _ _ v u Q I rx ry ⟨_, _, rfl, rfl, p.same sm (.bl _)⟩
  · obtain ⟨b, g2, rfl⟩ := mapB g
    cases d <;> cases e <;> try (simp [leI] at g2; done)
    cases g2; cases vx.int; cases vy.int
    exact op_ge pn s sg H _ _ v u Q I rx ry ⟨_, _, rfl, rfl, p.same sm (.bl _)⟩
  · obtain ⟨b, g2, rfl⟩ := mapB g
    obtain ⟨⟨h1, h2⟩, g3⟩ := grd g2
    cases g3
    refine op_eqD (by omega) pn s sg H _ _ v u Q I rx ry ⟨_, _, (vx.rep sm).dp dep _ _ h1, (vy.rep sm).dp dep _ _ h2, shaped_py (by decide) h1, shaped_py (by decide) h2, ?_⟩
    rw [eqv_py dep d e h1 h2]
    exact p.same sm (.bl _)
  · obtain ⟨b, g2, rfl⟩ := mapB g
    obtain ⟨b', g4, rfl⟩ := Option.map_eq_some_iff.mp g2
    obtain ⟨⟨h1, h2⟩, g3⟩ := grd g4
    cases g3
    refine op_neD (by omega) pn s sg H _ _ v u Q I rx ry ⟨_, _, (vx.rep sm).dp dep _ _ h1, (vy.rep sm).dp dep _ _ h2, shaped_py (by decide) h1, shaped_py (by decide) h2, ?_⟩
    rw [eqv_py dep d e h1 h2]
    exact p.same sm (.bl _)
  · obtain ⟨h1, g⟩ := grd g
    cases g
    have e1 : y = .non := of_decide_eq_true ((isNon_iff vy).trans h1)
    refine op_isN pn s sg H _ _ v u Q I rx ry ⟨e1, ?_⟩
    rw [isNon_iff vx]
    exact p.same sm (.bl _)
  · obtain ⟨h1, g⟩ := grd g
    cases g
    have e1 : y = .non := of_decide_eq_true ((isNon_iff vy).trans h1)
    refine op_notN pn s sg H _ _ v u Q I rx ry ⟨e1, ?_⟩
    rw [isNon_iff vx]
    exact p.same sm (.bl _)
end
/-! ### places and cuts -/
def ixD : D → D → Option Ld
  | .lst ds, .int i => (atI ds i).map .dat
  | .tup ds, .int i => (atI ds i).map .dat
  | .str z, .int i => if z.length ≤ sizeLine then (atI z.cps.toList i).map fun c => .dat (.str ⟨#[c]⟩) else none
  | _, _ => none
def cutD (ds : List D) (lo hi : Option Int) : List D := (ds.drop (HT.sIx ds.length 0 lo)).take (HT.sIx ds.length ds.length hi - HT.sIx ds.length 0 lo)
def sliD : D → Option Int → Option Int → Option Ld
  | .lst ds, lo, hi => some (.frs (.lst (cutD ds lo hi)))
  | .tup ds, lo, hi => one (.tup (cutD ds lo hi))
  | .scr ns, lo, hi => some (.frs (.lst (cutD (ns.map D.int) lo hi)))
  | .str z, lo, hi => if z.length ≤ sizeLine then one (.str (cutS z lo hi)) else none
  | _, _, _ => none
section
variable {X : Cx} {K : PySem.W.Frag} {H0 H : Hp}
theorem RepL.atI {vs : List V} {ds : List D} {i : Int} {d : D} (r : RepL K H vs ds) (h : atI ds i = some d) : ∃ v, L2.atI vs i = some v ∧ Rep K H v d := by
  unfold L2.atI at h ⊢
  rw [← r.length] at h
  cases e : ixN vs.length i with
  | none => rw [e] at h; cases h
  | some j =>
    rw [e] at h
    exact r.get h
theorem RepL.cut {vs : List V} {ds : List D} (r : RepL K H vs ds) (lo hi : Option Int) : RepL K H (cutV vs lo hi) (cutD ds lo hi) := by
  unfold cutV cutD
  rw [r.length]
  exact (r.drop _).take _
theorem repInts (ns : List Int) : RepL K H (ns.map V.int) (ns.map D.int) := by
  induction ns with
  | nil => exact .nil
  | cons n ns ih => exact .cons (.int n) ih
theorem ixD_ok : IxR X (rD2 X.K ixD) := by
  intro va sl pn s sg H x y v u Q I rx ry q hs
  obtain ⟨H0, d, e, l, sm, vx, vy, g, p⟩ := q
  cases d <;> cases e <;> try (simp [ixD] at g; done)
  · cases vx.str; cases vy.int
    obtain ⟨hz, g⟩ := grd g
    obtain ⟨c, g5, rfl⟩ := Option.map_eq_some_iff.mp g
    exact ix_str va sl pn s sg H _ _ v u Q I rx ry ⟨_, _, _, rfl, rfl, hz, g5, p.same sm (.str _)⟩ hs
  · obtain ⟨a, xs, rfl, q1, r1⟩ := vx.tup
    cases vy.int
    obtain ⟨c, g5, rfl⟩ := Option.map_eq_some_iff.mp g
    obtain ⟨w, h1, h2⟩ := r1.atI g5
    exact ix_tup va sl pn s sg H _ _ v u Q I rx ry ⟨_, _, _, w, rfl, rfl, sameT sm q1, h1, p.same sm h2⟩ hs
  · obtain ⟨a, xs, rfl, q1, r1⟩ := vx
    cases vy.int
    obtain ⟨c, g5, rfl⟩ := Option.map_eq_some_iff.mp g
    obtain ⟨w, h1, h2⟩ := r1.atI g5
    exact ix_list va sl pn s sg H _ _ v u Q I rx ry ⟨_, _, _, w, rfl, rfl, .of q1, h1, p.same sm h2⟩ hs
def rSlD (K : PySem.W.Frag) : V → Option Int → Option Int → Hp → VK → Prop := fun x lo hi H Q => ∃ H0 d l, Same H0 H ∧ Vw K H0 H x d ∧ sliD d lo hi = some l ∧ PostL K H0 H Q l
theorem sliD_ok : SlR X (rSlD X.K) := by
  intro pn s sg H x v vl vu lo hi sl Q I rx hs pl pu q
  obtain ⟨H0, d, l, sm, vx, g, p⟩ := q
  cases d <;> try (simp [sliD] at g; done)
  · cases vx.str
    obtain ⟨hz, g⟩ := grd g
    cases g
    exact sl_str pn s sg H _ v vl vu lo hi sl Q I rx hs pl pu ⟨_, rfl, hz, p.same sm (.str _)⟩
  · obtain ⟨a, xs, rfl, q1, r1⟩ := vx.tup
    cases g
    refine sl_tupA pn s sg H _ v vl vu lo hi sl Q I rx hs pl pu ⟨a, xs, rfl, sameT sm q1, fun z => ?_, fun z pp hp => ?_⟩
    · have e : cutV xs lo hi = xs := by
        unfold cutV
        rw [z.1, z.2]
        simp
      have r2 := r1.cut lo hi
      rw [e] at r2
      exact p.same sm (.tup q1 r2)
    · exact p.newT sm (r1.cut lo hi) hp
  · obtain ⟨a, xs, rfl, q1, r1⟩ := vx
    cases g
    exact sl_list pn s sg H _ v vl vu lo hi sl Q I rx hs pl pu ⟨a, xs, rfl, .of q1, fun pp hp => p pp _ hp (r1.cut lo hi)⟩
  · rename_i ns
    cases (show Rep X.K H0 x (.scr ns) from vx) with
    | @scr a _ q1 =>
      cases g
      exact sl_list pn s sg H _ v vl vu lo hi sl Q I rx hs pl pu ⟨a, _, rfl, sm.seq q1, fun pp hp => p pp _ hp ((repInts ns).cut lo hi)⟩
end
end FR
set_option Elab.async false
set_option linter.all false
set_option autoImplicit false
set_option maxRecDepth 100000
/-! FRs: sets -/
namespace FR
open PySem PySem.Spec PyProof.Rows L2

/-! ### set(list of ints) -/
section
variable {P : Program} {w : World} {A : Around} {E : Value → Shared → Prop} {s : Shared}
abbrev nset (w : World) : Obj := { cls := .type "set", dict := none, data := .set #[] 0 (.fresh 0 0 (!w.params.followText "set-order")) }
set_option maxHeartbeats 3200000 in
/-- set(l): Φ what the filling loop leaves -/
theorem set_from {l : Addr} {items : Array Value} {Φ : Heap → Prop} {Q : Value → Shared → Prop} (hl : s.heap.IsList l items)
    (loop : ∀ (A' : Around) (s1 : Shared) (S I : Addr) (R : Result → Shared → Prop), A'.handled = A.handled → A'.units ≤ A.units + 5 → S = s.heap.objs.size → I = S + 1 → s1.heap = (s.heap.push (nset w)).push { cls := .type "list_iterator", data := .fields #[.ref l, .int 0 0] } →
      (∀ h' tk, Φ h' → (∀ b o, b ≠ S → b ≠ I → s1.heap.get? b = some o → h'.get? b = some o) → R (.ok (.ret .none)) { s1 with heap := h', toks := tk }) →
      codeAny (model P w) A' (.builtin "set.update.loop" ⟨[.ref S, .ref I], []⟩) R s1)
    (h : ∀ (h' : Heap) (tk : Nat), Φ h' → (∀ b o, s.heap.get? b = some o → h'.get? b = some o) → Q (.ref s.heap.objs.size) { s with heap := h', toks := tk }) :
    wpAny (model P w) A (call (.type "set") [.ref l]) Q E s := by
  obtain ⟨c, tl, hmro⟩ := F.called_set.mro
  have hmade := F.called_set.made
  have hsub := F.called_set.sub
  refine wpAny_call (codeAny_of_tree ?_)
  show wpAny _ _ (callAny (.type "set") _) _ _ _
  refine wpAny_pure ⟨Code.quiet_builtin _ (by decide +kernel), codeAny_builtin F.entry_type_call ?_⟩
  rw [Around.under_plain (weight_type_call_type "set" [.ref l] []) rfl]
  have h1 := F.called_set.notType
  have h2 := F.called_set.canCreate
  have hct := F.typeCall_set_1 (.ref l)
  repeat (any_goals (first | assumption | wp_step))
  refine codeAny_mono (code_set_led1 (.ref l) (E := E) (Q₁ := fun obj s1 => obj = .ref s.heap.objs.size ∧ s1 = { s with heap := s.heap.push (nset w) }) ⟨rfl, rfl⟩) fun r s1 hr => ?_
  cases r with
  | error e => exact hr
  | ok fl =>
    cases fl with
    | ret obj =>
      obtain ⟨rfl, rfl⟩ := hr
      have hS : (s.heap.push (nset w)).get? s.heap.objs.size = some (nset w) := Heap.get?_push_size _ rfl
      have hT : Shared.TypeIs { s with heap := s.heap.push (nset w) } (.ref s.heap.objs.size) "set" := ⟨_, hS, rfl⟩
      have hli := F.called_set.init.lookup
      have hbi := F.called_set.init.bind (.ref s.heap.objs.size)
      repeat (any_goals (first | assumption | wp_step))
      refine codeAny_mono (codeAny_call_builtin (R := wants (fun r s2 => r = .none ∧ ∃ h' tk, s2 = { s with heap := h', toks := tk } ∧ Φ h' ∧
          (∀ b o, s.heap.get? b = some o → h'.get? b = some o)) E) F.called_set.init.plain F.entry_set_init (check_set_init_1 hT ?_)) fun r2 s2 hr2 => ?_
      · obtain ⟨⟨ocls, odict, odata, oslots⟩, hol, hcl, nl, hdl⟩ := hl
        simp only at hcl hdl
        subst hcl; subst hdl
        have hol' : (s.heap.push (nset w)).get? l = some { cls := .type "list", dict := odict, data := .seq items nl, slots := oslots } := Heap.get?_push_of_some _ hol
        have hsls := F.sub_list_set
        have hslf := F.sub_list_frozenset
        have hne : (Value.type "list" == Value.type "dict") = false := by decide
        have hl1 : (s.heap.push (nset w)).IsList l items := ⟨_, hol', rfl, nl, rfl⟩
        unfold Builtin.«set.__init__» noKeywords Builtin.Frozenset.updateFrom
        generalize hPI : pyIter = PI
        wp_walk
        subst hPI
        refine wpAny_pyIter_list hl1 ?_
        refine wpAny_bind (wpAny_runValue ?_)
        have hz1 : (s.heap.push (nset w)).objs.size = s.heap.objs.size + 1 := Heap.size_push ..
        refine loop _ _ _ _ _ (by simp) (by simp [Around.in1]; try omega) rfl hz1 rfl fun h' tk hp hk => ?_
        show wpAny _ _ _ _ _ _
        refine wpAny_pure ?_
        show wpAny _ _ (ret Value.none) _ _ _
        refine wpAny_pure ⟨rfl, h', tk, rfl, hp, fun b o e => ?_⟩
        have hb0 : b < s.heap.objs.size := Heap.lt_size e
        exact hk b o (Nat.ne_of_lt hb0) (by rw [hz1]; exact Nat.ne_of_lt (Nat.lt_succ_of_lt hb0)) (Heap.get?_push_of_some _ (Heap.get?_push_of_some _ e))
      · cases r2 with
        | error e => exact hr2
        | ok fl2 =>
          cases fl2 with
          | ret r =>
            obtain ⟨rfl, h', tk, rfl, hp, hk⟩ := hr2
            repeat (any_goals (first | assumption | wp_step))
            exact h _ _ hp hk
          | _ => exact hr2.elim
    | _ => exact hr.elim
theorem set_from_ints {l : Addr} {items : Array Value} (ns : List Int) {Q : Value → Shared → Prop} (hh : A.handled = none) (hl : s.heap.IsList l items) (hit : IntsAre items.toList ns) (hb : ns.length + 1 < scanBound)
    (h : ∀ (h' : Heap) (tk c : Nat), SetR w h' s.heap.objs.size (fun j => decide (j ∈ ns)) c → c ≤ ns.length → (∀ b o, s.heap.get? b = some o → h'.get? b = some o) → Q (.ref s.heap.objs.size) { s with heap := h', toks := tk }) :
    wpAny (model P w) A (call (.type "set") [.ref l]) Q E s := by
  have hisz : items.size = ns.length := by
    have q := IntsAre.length hit
    rw [Array.length_toList] at q
    exact q
  refine set_from (Φ := fun h' => ∃ c, c ≤ ns.length ∧ SetR w h' s.heap.objs.size (fun j => decide (j ∈ ns)) c) hl (fun A' s1 S I R hh' _ eS eI e1 hR => ?_) fun h' tk ⟨c, hc, hS⟩ hk => h h' tk c hS hc hk
  obtain ⟨hp1, g1, d1, tk1, os1⟩ := s1
  simp only at e1
  subst e1 eI eS
  have hlS : l < s.heap.objs.size := let ⟨_, hol, _⟩ := hl; Heap.lt_size hol
  have hz1 : (s.heap.push (nset w)).objs.size = s.heap.objs.size + 1 := Heap.size_push ..
  have hl1 : (s.heap.push (nset w)).IsList l items := hl.push _
  have hSf : s.heap.objs.size ∉ [s.heap.objs.size + 1, l] := by
    simp only [List.mem_cons, List.mem_singleton, List.not_mem_nil, or_false, not_or]
    exact ⟨Nat.ne_of_lt (Nat.lt_succ_self _), Nat.ne_of_gt hlS⟩
  have hval : ∀ (i : Nat) (v : Value), items[i]? = some v → ∃ k t, ns[i]? = some k ∧ v = .int k t := fun i v hv => by
    have hi : i < ns.length := by rw [← hisz]; exact (Array.getElem?_eq_some_iff.mp hv).1
    obtain ⟨t, e⟩ := PyProof.Rows.IntsAre.int_at hit i v (by rw [Array.getElem?_toList]; exact hv)
    refine ⟨ns[i], t, List.getElem?_eq_getElem hi, ?_⟩
    rw [e, List.getD_eq_getElem?_getD, List.getElem?_eq_getElem hi] <;> rfl
  refine set_update_ints ((Walks.list (A := A'.in1) (by rw [show A'.in1.handled = A'.handled from rfl, hh', hh]) (s.heap.objs.size + 1) l (Nat.ne_of_lt (Nat.lt_succ_of_lt hlS)) items).toS) s.heap.objs.size
    hSf ns hisz hb hval (items.size - 0) 0 _ (by omega) (Nat.zero_le _) ⟨⟨{ cls := .type "list_iterator", data := .fields #[.ref l, .int 0 0] }, ?_, rfl, rfl⟩, (hl1.push _)⟩ ⟨0, Nat.le_refl 0, setR_new_at (Heap.get?_push_of_some _ (Heap.get?_push_size _ rfl))⟩ fun s' c' hm hc' hS' => ?_
  · rw [← hz1]
    exact Heap.get?_push_size _ rfl
  · obtain ⟨h', g2, d', tk', os'⟩ := s'
    have eg : g2 = g1 := hm.gens
    have ed : d' = d1 := hm.drawn
    have eo : os' = os1 := hm.os
    subst eg; subst ed; subst eo
    exact hR h' tk' ⟨c', by omega, hS'⟩ fun b o h1 h2 e => hm.heap b o (by simp only [List.mem_cons, List.mem_singleton, List.not_mem_nil, or_false, not_or]; exact ⟨h1, h2⟩) e
end
end FR
set_option Elab.async false
set_option linter.all false
set_option autoImplicit false
set_option maxRecDepth 100000
/-! FR3: built-in functions upon data -/
namespace FR
open PySem PySem.Spec PyProof.Rows L2

def intsOf : List D → Option (List Int)
  | [] => some []
  | .int i :: r => (intsOf r).map (i :: ·)
  | _ :: _ => none
def blsOf : List D → Option (List Bool)
  | [] => some []
  | .bl b :: r => (blsOf r).map (b :: ·)
  | _ :: _ => none
theorem intsOf_eq : ∀ {ds : List D} {ns : List Int}, intsOf ds = some ns → ds = ns.map D.int
  | [], ns, h => by cases h; rfl
  | .int i :: r, ns, h => by
    obtain ⟨m, h1, rfl⟩ := Option.map_eq_some_iff.mp h
    rw [intsOf_eq h1]; rfl
  | .non :: _, _, h | .bl _ :: _, _, h | .str _ :: _, _, h | .tup _ :: _, _, h | .lst _ :: _, _, h | .dK _ :: _, _, h | .dT _ :: _, _, h | .exc _ _ :: _, _, h | .scr _ :: _, _, h => by cases h
theorem blsOf_eq : ∀ {ds : List D} {ns : List Bool}, blsOf ds = some ns → ds = ns.map D.bl
  | [], ns, h => by cases h; rfl
  | .bl i :: r, ns, h => by
    obtain ⟨m, h1, rfl⟩ := Option.map_eq_some_iff.mp h
    rw [blsOf_eq h1]; rfl
  | .non :: _, _, h | .int _ :: _, _, h | .str _ :: _, _, h | .tup _ :: _, _, h | .lst _ :: _, _, h | .dK _ :: _, _, h | .dT _ :: _, _, h | .exc _ _ :: _, _, h | .scr _ :: _, _, h => by cases h
@[simp] theorem intsOf_map : ∀ ns : List Int, intsOf (ns.map D.int) = some ns
  | [] => rfl
  | n :: ns => by rw [List.map_cons, intsOf, intsOf_map ns]; rfl
@[simp] theorem blsOf_map : ∀ ns : List Bool, blsOf (ns.map D.bl) = some ns
  | [] => rfl
  | n :: ns => by rw [List.map_cons, blsOf, blsOf_map ns]; rfl
def maxL : Int → List Int → Int
  | m, [] => m
  | m, x :: r => maxL (if m < x then x else m) r
def minL : Int → List Int → Int
  | m, [] => m
  | m, x :: r => minL (if x < m then x else m) r
theorem maxL_spec : ∀ (r : List Int) (m : Int), (maxL m r = m ∨ maxL m r ∈ r) ∧ m ≤ maxL m r ∧ ∀ y ∈ r, y ≤ maxL m r
  | [], m => ⟨.inl rfl, Int.le_refl _, fun _ h => absurd h (by simp)⟩
  | x :: r, m => by
    obtain ⟨h1, h2, h3⟩ := maxL_spec r (if m < x then x else m)
    refine ⟨?_, ?_, fun y hy => ?_⟩
    · show maxL (if m < x then x else m) r = m ∨ maxL (if m < x then x else m) r ∈ x :: r
      rcases h1 with h1 | h1
      · by_cases hc : m < x
        · rw [if_pos hc] at h1 ⊢; exact .inr (by rw [h1]; exact List.mem_cons_self)
        · rw [if_neg hc] at h1 ⊢; exact .inl h1
      · exact .inr (List.mem_cons_of_mem _ h1)
    · exact Int.le_trans (by split <;> omega) h2
    · show y ≤ maxL (if m < x then x else m) r
      rcases List.mem_cons.mp hy with rfl | hy
      · exact Int.le_trans (by split <;> omega) h2
      · exact h3 y hy
theorem minL_spec : ∀ (r : List Int) (m : Int), (minL m r = m ∨ minL m r ∈ r) ∧ minL m r ≤ m ∧ ∀ y ∈ r, minL m r ≤ y
  | [], m => ⟨.inl rfl, Int.le_refl _, fun _ h => absurd h (by simp)⟩
  | x :: r, m => by
    obtain ⟨h1, h2, h3⟩ := minL_spec r (if x < m then x else m)
    refine ⟨?_, ?_, fun y hy => ?_⟩
    · show minL (if x < m then x else m) r = m ∨ minL (if x < m then x else m) r ∈ x :: r
      rcases h1 with h1 | h1
      · by_cases hc : x < m
        · rw [if_pos hc] at h1 ⊢; exact .inr (by rw [h1]; exact List.mem_cons_self)
        · rw [if_neg hc] at h1 ⊢; exact .inl h1
      · exact .inr (List.mem_cons_of_mem _ h1)
    · exact Int.le_trans h2 (by split <;> omega)
    · show minL (if x < m then x else m) r ≤ y
      rcases List.mem_cons.mp hy with rfl | hy
      · exact Int.le_trans h2 (by split <;> omega)
      · exact h3 y hy
/-! ### the functions -/
inductive Bf where
  | abs | int | len | sum | all | any | max | min | list | tuple
  deriving DecidableEq
def Bf.nm : Bf → String
  | .abs => "abs" | .int => "int" | .len => "len" | .sum => "sum" | .all => "all" | .any => "any" | .max => "max" | .min => "min" | .list => "list" | .tuple => "tuple"
def Bf.ty : Bf → Bool
  | .int | .list | .tuple => true
  | _ => false
def Bf.val (b : Bf) : Value := if b.ty then .type b.nm else .builtin b.nm
def lenD : D → Option Nat
  | .lst ds => some ds.length
  | .tup ds => some ds.length
  | .str x => if x.length ≤ sizeLine then some x.length else none
  | .scr ns => some ns.length
  | _ => none
def maxD : List D → Option Ld
  | [.int i, .int j] => one (.int (if j > i then j else i))
  | [.lst ds] => match intsOf ds with
    | some (n :: ns) => one (.int (maxL n ns))
    | _ => none
  | _ => none
def minD : List D → Option Ld
  | [.int i, .int j] => one (.int (if j < i then j else i))
  | [.lst ds] => match intsOf ds with
    | some (n :: ns) => one (.int (minL n ns))
    | _ => none
  | _ => none
def intD : List D → Option Ld
  | [.int i] => one (.int i)
  | [.bl k] => one (.int (if k then 1 else 0))
  | _ => none
def absD : List D → Option Ld
  | [.int i] => one (.int (if i < 0 then -i else i))
  | _ => none
def sumD : List D → Option Ld
  | [.lst ds] => (intsOf ds).map fun ns => .dat (.int ns.sum)
  | _ => none
def allD : List D → Option Ld
  | [.lst ds] => (blsOf ds).map fun ns => .dat (.bl (ns.all id))
  | _ => none
def anyD : List D → Option Ld
  | [.lst ds] => (blsOf ds).map fun ns => .dat (.bl (ns.any id))
  | _ => none
def listD : List D → Option Ld
  | [.lst ds] => some (.frs (.lst ds))
  | [.tup ds] => some (.frs (.lst ds))
  | _ => none
def tupleD : List D → Option Ld
  | [.lst ds] => one (.tup ds)
  | [.tup ds] => one (.tup ds)
  | _ => none
def lenDs : List D → Option Ld
  | [d] => (lenD d).map fun (n : Nat) => Ld.dat (.int (n : Int))
  | _ => none
def Bf.run : Bf → List D → Option Ld
  | .abs => absD | .int => intD | .len => lenDs | .sum => sumD | .all => allD | .any => anyD | .max => maxD | .min => minD | .list => listD | .tuple => tupleD
section
variable {X : Cx} {K : PySem.W.Frag} {H0 H : Hp}
theorem VwL.one {vs : List V} {d : D} (h : VwL K H0 H vs [d]) : ∃ v, vs = [v] ∧ Vw K H0 H v d := by
  cases h with
  | cons a b => cases b; exact ⟨_, rfl, a⟩
theorem VwL.two {vs : List V} {d e : D} (h : VwL K H0 H vs [d, e]) : ∃ v u, vs = [v, u] ∧ Vw K H0 H v d ∧ Vw K H0 H u e := by
  cases h with
  | cons a b =>
    obtain ⟨u, rfl, c⟩ := b.one
    exact ⟨_, _, rfl, a, c⟩
theorem RepL.ints : ∀ {ns : List Int} {vs : List V}, RepL K H vs (ns.map D.int) → vs = ns.map V.int
  | [], _, .nil => rfl
  | n :: ns, _, .cons a b => by cases a; rw [RepL.ints b]; rfl
theorem RepL.bls : ∀ {ns : List Bool} {vs : List V}, RepL K H vs (ns.map D.bl) → vs = ns.map V.bl
  | [], _, .nil => rfl
  | n :: ns, _, .cons a b => by cases a; rw [RepL.bls b]; rfl
theorem arg1 {p : D → Bool} {g : List D → Option Ld} {ds : List D} {l : Ld} (h : g ds = some l) (hn : g [] = none) (h2 : ∀ a b r, g (a :: b :: r) = none) : ∃ d, ds = [d] := by
  cases ds with
  | nil => rw [hn] at h; cases h
  | cons a r =>
    cases r with
    | nil => exact ⟨a, rfl⟩
    | cons b r => rw [h2] at h; cases h
theorem Bf.ok (hc : X.calm = true) (b : Bf) : CallR X b.val (rDs X.K b.run) := by
  intro pn s sg H xs us Q I r q
  obtain ⟨H0, ds, l, sm, vw, g, p⟩ := q
  cases b
  · -- abs
    obtain ⟨d, rfl⟩ := arg1 (p := fun _ => true) (g := absD) g rfl (fun a b r => by cases a <;> rfl)
    obtain ⟨v, rfl, h⟩ := vw.one
    cases d <;> try (simp [Bf.run, absD] at g; done)
    cases h.int; cases g
    exact call_abs pn s sg H _ us Q I r ⟨_, rfl, p.same sm (.int _)⟩
  · obtain ⟨d, rfl⟩ := arg1 (p := fun _ => true) (g := intD) g rfl (fun a b r => by cases a <;> rfl)
    obtain ⟨v, rfl, h⟩ := vw.one
    cases d <;> try (simp [Bf.run, intD] at g; done)
    · cases h.bl; cases g
      exact call_int1 pn s sg H _ us Q I r (.inr ⟨_, rfl, p.same sm (.int _)⟩)
    · cases h.int; cases g
      exact call_int1 pn s sg H _ us Q I r (.inl ⟨_, rfl, p.same sm (.int _)⟩)
  · obtain ⟨d, rfl⟩ := arg1 (p := fun _ => true) (g := lenDs) g rfl (fun a b r => rfl)
    obtain ⟨v, rfl, h⟩ := vw.one
    obtain ⟨n, g2, rfl⟩ := Option.map_eq_some_iff.mp g
    cases d <;> try (simp [lenD] at g2; done)
    · cases h.str
      obtain ⟨hz, g3⟩ := grd g2
      cases g3
      exact call_len_str pn s sg H _ us Q I r ⟨_, rfl, hz, p.same sm (.int _)⟩
    · obtain ⟨a, ys, rfl, q1, r1⟩ := h.tup
      cases g2
      refine call_len_seq pn s sg H _ us Q I r ⟨a, ys, rfl, .inr (sameT sm q1), ?_⟩
      rw [r1.length]
      exact p.same sm (.int _)
    · obtain ⟨a, ys, rfl, q1, r1⟩ := h
      cases g2
      refine call_len_seq pn s sg H _ us Q I r ⟨a, ys, rfl, .inl (.of q1), ?_⟩
      rw [r1.length]
      exact p.same sm (.int _)
    · rename_i ns
      cases (show Rep X.K H0 v (.scr ns) from h) with
      | @scr a _ q1 =>
        cases g2
        refine call_len_seq pn s sg H _ us Q I r ⟨a, _, rfl, .inl (sm.seq q1), ?_⟩
        rw [List.length_map]
        exact p.same sm (.int _)
  · obtain ⟨d, rfl⟩ := arg1 (p := fun _ => true) (g := sumD) g rfl (fun a b r => by cases a <;> rfl)
    obtain ⟨v, rfl, h⟩ := vw.one
    cases d <;> try (simp [Bf.run, sumD] at g; done)
    obtain ⟨n, g2, rfl⟩ := Option.map_eq_some_iff.mp g
    obtain ⟨a, ys, rfl, q1, r1⟩ := h
    cases intsOf_eq g2
    cases r1.ints
    exact cr_sum hc pn s sg H _ us Q I r ⟨a, n, rfl, .of q1, p.same sm (.int _)⟩
  · obtain ⟨d, rfl⟩ := arg1 (p := fun _ => true) (g := allD) g rfl (fun a b r => by cases a <;> rfl)
    obtain ⟨v, rfl, h⟩ := vw.one
    cases d <;> try (simp [Bf.run, allD] at g; done)
    obtain ⟨n, g2, rfl⟩ := Option.map_eq_some_iff.mp g
    obtain ⟨a, ys, rfl, q1, r1⟩ := h
    cases blsOf_eq g2
    cases r1.bls
    exact cr_all hc pn s sg H _ us Q I r ⟨a, n, rfl, .of q1, p.same sm (.bl _)⟩
  · obtain ⟨d, rfl⟩ := arg1 (p := fun _ => true) (g := anyD) g rfl (fun a b r => by cases a <;> rfl)
    obtain ⟨v, rfl, h⟩ := vw.one
    cases d <;> try (simp [Bf.run, anyD] at g; done)
    obtain ⟨n, g2, rfl⟩ := Option.map_eq_some_iff.mp g
    obtain ⟨a, ys, rfl, q1, r1⟩ := h
    cases blsOf_eq g2
    cases r1.bls
    exact cr_any hc pn s sg H _ us Q I r ⟨a, n, rfl, .of q1, p.same sm (.bl _)⟩
  · have g : maxD ds = some l := g
    unfold maxD at g
    split at g
    · cases g
      obtain ⟨v, u, rfl, h1, h2⟩ := vw.two
      cases h1.int; cases h2.int
      exact call_max2 hc pn s sg H _ us Q I r ⟨_, _, rfl, p.same sm (.int _)⟩
    · split at g
      · rename_i n ns e
        cases g
        obtain ⟨v, rfl, h⟩ := vw.one
        obtain ⟨a, ys, rfl, q1, r1⟩ := h
        cases intsOf_eq e
        cases r1.ints
        refine cr_max hc pn s sg H _ us Q I r ⟨a, n :: ns, rfl, .of q1, Nat.succ_pos _, fun m h1 h2 => ?_⟩
        obtain ⟨k1, k2, k3⟩ := maxL_spec ns n
        have e1 : maxL n ns ∈ n :: ns := by
          rcases k1 with k1 | k1
          · rw [k1]; exact List.mem_cons_self
          · exact List.mem_cons_of_mem _ k1
        have e2 : m ≤ maxL n ns := by
          rcases List.mem_cons.mp h1 with rfl | h1
          · exact k2
          · exact k3 m h1
        have e3 := h2 _ e1
        have e4 : m = maxL n ns := by omega
        rw [e4]
        exact p.same sm (.int _)
      · cases g
    · cases g
  · have g : minD ds = some l := g
    unfold minD at g
    split at g
    · cases g
      obtain ⟨v, u, rfl, h1, h2⟩ := vw.two
      cases h1.int; cases h2.int
      exact call_min2 hc pn s sg H _ us Q I r ⟨_, _, rfl, p.same sm (.int _)⟩
    · split at g
      · rename_i n ns e
        cases g
        obtain ⟨v, rfl, h⟩ := vw.one
        obtain ⟨a, ys, rfl, q1, r1⟩ := h
        cases intsOf_eq e
        cases r1.ints
        refine cr_min hc pn s sg H _ us Q I r ⟨a, n :: ns, rfl, .of q1, Nat.succ_pos _, fun m h1 h2 => ?_⟩
        obtain ⟨k1, k2, k3⟩ := minL_spec ns n
        have e1 : minL n ns ∈ n :: ns := by
          rcases k1 with k1 | k1
          · rw [k1]; exact List.mem_cons_self
          · exact List.mem_cons_of_mem _ k1
        have e2 : minL n ns ≤ m := by
          rcases List.mem_cons.mp h1 with rfl | h1
          · exact k2
          · exact k3 m h1
        have e3 := h2 _ e1
        have e4 : m = minL n ns := by omega
        rw [e4]
        exact p.same sm (.int _)
      · cases g
    · cases g
  · obtain ⟨d, rfl⟩ := arg1 (p := fun _ => true) (g := listD) g rfl (fun a b r => by cases a <;> rfl)
    obtain ⟨v, rfl, h⟩ := vw.one
    cases d <;> try (simp [Bf.run, listD] at g; done)
    · cases g
      obtain ⟨a, ys, rfl, q1, r1⟩ := h.tup
      exact call_list_of pn s sg H _ us Q I r ⟨a, ys, rfl, .inr (sameT sm q1), fun pp hp => p pp _ hp r1⟩
    · cases g
      obtain ⟨a, ys, rfl, q1, r1⟩ := h
      exact call_list_of pn s sg H _ us Q I r ⟨a, ys, rfl, .inl (.of q1), fun pp hp => p pp _ hp r1⟩
  · obtain ⟨d, rfl⟩ := arg1 (p := fun _ => true) (g := tupleD) g rfl (fun a b r => by cases a <;> rfl)
    obtain ⟨v, rfl, h⟩ := vw.one
    cases d <;> try (simp [Bf.run, tupleD] at g; done)
    · cases g
      obtain ⟨a, ys, rfl, q1, r1⟩ := h.tup
      exact call_tuple_of pn s sg H _ us Q I r ⟨a, ys, rfl, .inr ⟨sameT sm q1, p.same sm (.tup q1 r1)⟩⟩
    · cases g
      obtain ⟨a, ys, rfl, q1, r1⟩ := h
      exact call_tuple_of pn s sg H _ us Q I r ⟨a, ys, rfl, .inl ⟨.of q1, fun pp hp => p.newT sm r1 hp⟩⟩
end
end FR
set_option Elab.async false
set_option linter.all false
set_option autoImplicit false
set_option maxRecDepth 100000
/-! FR4: readings over data, and how they are joined -/
namespace FR
open PySem PySem.Spec PyProof.Rows L2

/-- what is fixed through a body: the written part, what is wished of an error, how an error is borne -/
structure Cq where
  K : PySem.W.Frag
  W : WX
  XR : Xc → Hp → Hp → Value → Option Addr → Prop
  pin : List (Nat × Addr)
def Pst (C : Cq) (σ : L2.St) (H0 Hf : Hp) {α : Type} (r : R (α × En)) (k : α → En → Hp → Hp → Prop) : Prop := match r with
  | .ok (a, env') => ∀ H0' H', SR C.K env' σ H0' Hf H' → Same H0 H0' → k a env' H0' H'
  | .ex x env' => ∀ cls d H0' H', SR C.K env' σ H0' Hf H' → Same H0 H0' → C.XR x H0' H' cls d → C.W cls d σ H'
  | .bad => False
section
variable {C : Cq} {σ : L2.St} {H0 Hf Hf1 H0' : Hp} {α β : Type}
theorem Pst.imp {r : R (α × En)} {k k' : α → En → Hp → Hp → Prop} (h : Pst C σ H0 Hf r k) (f : ∀ a env' H0' H', SR C.K env' σ H0' Hf H' → Same H0 H0' → k a env' H0' H' → k' a env' H0' H') : Pst C σ H0 Hf r k' := by
  match r, h with
  | .ok (a, env'), h => exact fun H0' H' s m => f a env' H0' H' s m (h H0' H' s m)
  | .ex x env', h => exact h
theorem Pst.from {r : R (α × En)} {k : α → En → Hp → Hp → Prop} (s : Same H0 H0') (h : Pst C σ H0 Hf r k) : Pst C σ H0' Hf r k := by
  match r, h with
  | .ok (a, env'), h => exact fun H1 H' q m => h H1 H' q (s.trans m)
  | .ex x env', h => exact fun cls d H1 H' q m => h cls d H1 H' q (s.trans m)
/-- one behind another -/
theorem Pst.bind {r : R (α × En)} {f : α × En → R (β × En)} {k : β → En → Hp → Hp → Prop} (h : Pst C σ H0 Hf (r.bind f) k) :
    Pst C σ H0 Hf r fun a env' H0' _ => Pst C σ H0' Hf (f (a, env')) k := by
  match r, h with
  | .ok (a, env'), h => exact fun H0' H' s m => Pst.from m h
  | .ex x env', h => exact h
/-- while something is held beside -/
theorem Pst.hold {r : R (α × En)} {k k' : α → En → Hp → Hp → Prop} (h : Pst C σ H0 Hf r k) (back : ∀ env2 H0' H', SR C.K env2 σ H0' Hf1 H' → Same H0 H0' → SR C.K env2 σ H0' Hf H')
    (f : ∀ a env' H0' H', SR C.K env' σ H0' Hf1 H' → Same H0 H0' → k a env' H0' H' → k' a env' H0' H') : Pst C σ H0 Hf1 r k' := by
  match r, h with
  | .ok (a, env'), h => exact fun H0' H' s m => f a env' H0' H' s m (h H0' H' (back _ _ _ s m) m)
  | .ex x env', h => exact fun cls d H0' H' s m => h cls d H0' H' (back _ _ _ s m) m
end
inductive LdRs (K : PySem.W.Frag) (env : En) (σ : L2.St) (H0 Hf H : Hp) : List V → List Ld → Prop
  | nil : LdRs K env σ H0 Hf H [] []
  | cons {v : V} {l : Ld} {vs : List V} {ls : List Ld} : LdR K env σ H0 Hf H v l → (∀ p d, l = .frs d → v = .ref p → ∀ w d', (w, Ld.frs d') ∈ vs.zip ls → w ≠ .ref p) → LdRs K env σ H0 Hf H vs ls → LdRs K env σ H0 Hf H (v :: vs) (l :: ls)
def rdV (C : Cq) (c : En → R (Ld × En)) : TE := fun σ H Q => ∃ env H0 Hf, SR C.K env σ H0 Hf H ∧ Pst C σ H0 Hf (c env) fun l env' H0' H' => ∀ v, LdR C.K env' σ H0' Hf H' v l → Q v H'
def rdT (C : Cq) (c : En → R (Bool × En)) : TT := fun σ H Q => ∃ env H0 Hf, SR C.K env σ H0 Hf H ∧ Pst C σ H0 Hf (c env) fun b env' H0' H' => Q b H'
def rdA (C : Cq) (c : En → R (List Ld × En)) : TA := fun σ H Q => ∃ env H0 Hf, SR C.K env σ H0 Hf H ∧ Pst C σ H0 Hf (c env) fun ls env' H0' H' => ∀ vs, LdRs C.K env' σ H0' Hf H' vs ls → Q vs H'
section
variable {X : Cx} {C : Cq} {e : Expr}
theorem PE.weak {t t' : TE} (h : PE X e t) (w : ∀ σ H Q, t' σ H Q → t σ H Q) : PE X e t' := ⟨fun pn s sg H Q I q => h.run pn s sg H Q I (w sg H Q q)⟩
theorem PT.weak {t t' : TT} (h : PT X e t) (w : ∀ σ H Q, t' σ H Q → t σ H Q) : PT X e t' := ⟨fun pn s sg H Q I q => h.run pn s sg H Q I (w sg H Q q)⟩
theorem PA.weak {es : List Expr} {t t' : TA} (h : PA X es t) (w : ∀ σ H Q, t' σ H Q → t σ H Q) : PA X es t' := ⟨fun ps pn s sg H Q I q => h.run ps pn s sg H Q I (w sg H Q q)⟩
end
section
variable {C : Cq} {σ : L2.St} {H0 Hf H : Hp} {env : En} {Q : VK}
/-- what an operation hands on, to what is wanted -/
theorem postL (s : SR C.K env σ H0 Hf H) {l : Ld} (hl : ∀ i, l ≠ .cel i) (q : ∀ H0' H', SR C.K env σ H0' Hf H' → Same H0 H0' → ∀ v, LdR C.K env σ H0' Hf H' v l → Q v H') : PostL C.K H0 H Q l := by
  cases l with
  | cel i => exact absurd rfl (hl i)
  | dat z => exact fun v H0' H' g r => q H0' H' (s.gr g) g.z v r
  | frs z =>
    intro p o hp ho
    have sm : Same H (upd H p o) := fun b x e => by rw [upd_ne (ne_of_none e hp)]; exact e
    refine q H0 (upd H p o) ⟨s.zs.trans sm, s.fs.trans sm, s.dj, fun i t e => ?_, s.un, s.len⟩ (.refl _) _ ⟨p, o, rfl, upd_same, ho, s.zs.free hp, s.fs.free hp, fun i d e z => ?_⟩
    · obtain ⟨w, h1, h2⟩ := s.sl i t e
      refine ⟨w, h1, ?_⟩
      cases t with
      | un => trivial
      | val d => exact h2
      | own d =>
        obtain ⟨a, ob, b1, b2, b3⟩ := h2
        exact ⟨a, ob, b1, sm _ _ b2, b3⟩
    · obtain ⟨w, h1, a, ob, b1, b2, b3⟩ := s.sl i _ e
      rw [z] at h1
      cases h1
      cases b1
      rw [hp] at b2
      cases b2
/-- a load that is held while another thing is reckoned -/
theorem hold1 (s : SR C.K env σ H0 Hf H) {v : V} {l : Ld} (r : LdR C.K env σ H0 Hf H v l) {α : Type} {c : En → R (α × En)} {k : α → En → Hp → Hp → Prop} (h : Pst C σ H0 Hf (c env) k) {k' : Hp → α → En → Hp → Hp → Prop}
    (f : ∀ Hf1 a env' H0' H', SR C.K env' σ H0' Hf1 H' → SR C.K env' σ H0' Hf H' → Same H0 H0' → (cont env' l ≠ none → LdR C.K env' σ H0' Hf H' v l) →
      (∀ p d, l = .frs d → v = .ref p → Hf1 p ≠ none) → (∀ p, Hf1 p = none → Hf p = none) → k a env' H0' H' → k' Hf1 a env' H0' H') :
    ∃ Hf1, SR C.K env σ H0 Hf1 H ∧ Pst C σ H0 Hf1 (c env) (k' Hf1) := by
  obtain ⟨Hf1, s1, h1, h2, bk⟩ := LdR.hold s r
  exact ⟨Hf1, s1, h.hold (fun env2 H0' H' q m => (bk env2 H0' H' q m).1) fun a env' H0' H' q m z => f Hf1 a env' H0' H' q (bk env' H0' H' q m).1 m (bk env' H0' H' q m).2 h2 h1 z⟩
end

/-! ### the own syntax, its meaning -/
inductive T where
  | nm (i : Nat) | tp (ts : T) | nil | cons (a b : T)
  deriving DecidableEq
def T.slots : T → List Nat
  | .nm i => [i]
  | .tp ts => ts.slots
  | .nil => []
  | .cons a b => a.slots ++ b.slots
def asg : T → List D → En → Option En
  | .nm i, [d], env => if i < env.length then some (env.set i (.val d)) else none
  | .tp ts, [.tup ds], env => asg ts ds env
  | .nil, [], env => some env
  | .cons a b, d :: ds, env => (asg a [d] env).bind (asg b ds)
  | _, _, _ => none

inductive R1 where
  | ok (d : D) (outs : List D) | ex (x : Xc) (outs : List D) | bad
/-- a def: which parameters come by reference, whether its value is a fresh thing, what it does -/
structure Fn where
  md : List Bool
  ro : Bool
  run : List D → R1

structure Sm where
  v : En → R (Ld × En)
  t : En → R (Bool × En)
  a : En → R (List Ld × En)
  i : En → R (List D × En)
def tru : D → Option Bool
  | .non => some false
  | .bl b => some b
  | .int i => some (i != 0)
  | .lst ds => some !ds.isEmpty
  | .tup ds => some !ds.isEmpty
  | .str x => if x.length ≤ sizeLine then some ((x.length : Int) != 0) else none
  | _ => none
def itemsD : D → Option (List D)
  | .lst ds => some ds
  | .tup ds => some ds
  | _ => none
/-- a value's meaning gives the rest -/
def ofV (f : En → R (Ld × En)) : Sm where
  v := f
  t := fun env => (f env).bind fun (l, e) => match cont e l with
    | some d => R.of ((tru d).map (·, e))
    | none => .bad
  a := fun _ => .bad
  i := fun env => (f env).bind fun (l, e) => match stab l with
    | some d => R.of ((itemsD d).map (·, e))
    | none => .bad
def pureV (d : D) : En → R (Ld × En) := fun env => .ok (.dat d, env)
def m1 (f : En → R (Ld × En)) (g : D → Option Ld) : En → R (Ld × En) := fun env => (f env).bind fun (l, e) => match cont e l with
  | some d => R.of ((g d).map (·, e))
  | none => .bad
def m2 (f g : En → R (Ld × En)) (o : D → D → Option Ld) : En → R (Ld × En) := fun env => (f env).bind fun (l, e) => (g e).bind fun (r, e2) => match cont e2 l, cont e2 r with
  | some x, some y => R.of ((o x y).map (·, e2))
  | _, _ => .bad
def conts (env : En) : List Ld → Option (List D)
  | [] => some []
  | l :: ls => (cont env l).bind fun d => (conts env ls).map (d :: ·)
def stabs : List Ld → Option (List D)
  | [] => some []
  | l :: ls => (stab l).bind fun d => (stabs ls).map (d :: ·)
def ma (f : En → R (List Ld × En)) (g : List D → Option Ld) : En → R (Ld × En) := fun env => (f env).bind fun (ls, e) => match conts e ls with
  | some ds => R.of ((g ds).map (·, e))
  | none => .bad
def msl (f : En → R (Ld × En)) (lo hi : En → R (Option Int × En)) : En → R (Ld × En) := fun env => (f env).bind fun (l, e) => (lo e).bind fun (x, e2) => (hi e2).bind fun (y, e3) => match cont e3 l with
  | some d => R.of ((sliD d x y).map (·, e3))
  | none => .bad
def part (b : Bool) (f : En → R (Ld × En)) : En → R (Option Int × En) := fun env => if b then .ok (none, env) else (f env).bind fun (l, e) => match l with
  | .dat (.int i) => .ok (some i, e)
  | _ => .bad
/-- the arguments' data: by value, or what an owned slot or a fresh thing bears -/
def argsD (env : En) : List Bool → List Ld → Option (List D)
  | [], [] => some []
  | m :: ms, l :: ls => (if m then (match l with | .dat _ => none | _ => cont env l) else stab l).bind fun d => (argsD env ms ls).map (d :: ·)
  | _, _ => none
def cels : List Bool → List Ld → List Nat
  | m :: ms, .cel i :: ls => if m then i :: cels ms ls else cels ms ls
  | _ :: ms, _ :: ls => cels ms ls
  | _, _ => []
def setOuts (env : En) : List Bool → List Ld → List D → Option En
  | [], [], [] => some env
  | true :: ms, .cel i :: ls, d :: ds => setOuts (env.set i (.own d)) ms ls ds
  | true :: ms, .frs _ :: ls, _ :: ds => setOuts env ms ls ds
  | false :: ms, _ :: ls, ds => setOuts env ms ls ds
  | _, _, _ => none
def doCall (F : Fn) (ls : List Ld) (env : En) : R (Ld × En) := match argsD env F.md ls with
  | none => .bad
  | some ds => if (cels F.md ls).Nodup then (match F.run ds with
    | .ok d outs => R.of ((setOuts env F.md ls outs).map fun e => (if F.ro then .frs d else .dat d, e))
    | .ex x outs => match setOuts env F.md ls outs with
      | some e => .ex x e
      | none => .bad
    | .bad => .bad) else .bad
def permL (pm : List Nat) (ls : List Ld) : Option (List Ld) := pm.mapM fun i => ls[i]?
def isUn : Slot → Bool
  | .own _ => false
  | _ => true
def wipeE (env : En) (vs : List Nat) : En := env.mapIdx fun i t => if i ∈ vs then .un else t
def unwipe (old new : En) (vs : List Nat) : En := new.mapIdx fun i t => if i ∈ vs then old.getD i .un else t
def lcLoop (own : List Nat) (t : T) (c : En → R (Bool × En)) (f : En → R (Ld × En)) : List D → List D → En → R (List D × En)
  | [], acc, env => .ok (acc, env)
  | d :: ds, acc, env => match asg t [d] env with
    | none => .bad
    | some e1 => (c e1).bind fun (b, e2) => if b then (f e2).bind fun (l, e3) => (match stab l with
        | some y => lcLoop own t c f ds (acc ++ [y]) (wipeE e3 own)
        | none => .bad) else lcLoop own t c f ds acc (wipeE e2 own)
def R.nx {α : Type} : R α → R α
  | .ok a => .ok a
  | _ => .bad
def doLc (own : List Nat) (t : T) (it : En → R (List D × En)) (c : En → R (Bool × En)) (f : En → R (Ld × En)) : En → R (Ld × En) := fun env => (it env).bind fun (ds, e) =>
  if ds.length ≤ sizeLine ∧ t.slots.all (fun i => own.contains i) = true ∧ own.all (fun i => isUn (e.getD i .un)) = true then
    (lcLoop own t (fun e => (c e).nx) (fun e => (f e).nx) ds [] (wipeE e own)).bind fun (ys, e2) => .ok (.frs (.lst ys), unwipe e e2 own)
  else .bad
def rangeD (i : Int) (n : Nat) : List D := (List.range n).map fun (k : Nat) => D.int (i + (k : Int))
def tyD : D → Option String
  | .non => some "NoneType" | .bl _ => some "bool" | .int _ => some "int" | .str _ => some "str" | .tup _ => some "tuple" | .lst _ => some "list" | .dK _ => some "dict" | .dT _ => some "dict"
  | _ => none
def isiD (ts : List String) (d : D) : Option Ld := (tyD d).bind fun t => (ts.mapM fun u => kitB t u).map fun bs => Ld.dat (.bl (bs.any id))
/-- ascending, each once -/
def setofI (ns : List Int) : List Int := (ns.mergeSort (fun a b => decide (a ≤ b))).eraseReps
def setofD : D → Option Ld
  | .lst ds => if ds.length < 64 then (intsOf ds).map fun ns => .dat (.tup ((setofI ns).map D.int)) else none
  | _ => none
def lenRD : D → D → Option Ld
  | .int i, .int j => if -(2 ^ 62) ≤ i ∧ i < 2 ^ 62 ∧ -(2 ^ 62) ≤ j ∧ j < 2 ^ 62 then one (.int ((j - i).toNat : Nat)) else none
  | _, _ => none
def setSlot (env : En) (i : Nat) (t : Slot) : Option En := if i < env.length then some (env.set i t) else none
def consA (fa : En → R (Ld × En)) (fs : En → R (List Ld × En)) : En → R (List Ld × En) := fun env => (fa env).bind fun (l, e) => (fs e).bind fun (ls, e2) => match cont e2 l with
  | some _ => .ok (l :: ls, e2)
  | none => .bad
end FR
set_option Elab.async false
set_option linter.all false
set_option autoImplicit false
set_option maxRecDepth 100000
/-! FR5: each construct's rule over data -/
namespace FR
open PySem PySem.Spec PyProof.Rows L2

section
variable {C : Cq} {σ : L2.St} {H0 Hf H : Hp} {env : En}
theorem R_of_some {α : Type} {o : Option α} {k : α → Prop} {env' : En} {β : Type} (x : β) : True := trivial
/-- the end of an operation -/
theorem pstOf {Q : VK} {o : Option Ld} (s : SR C.K env σ H0 Hf H) (hcel : ∀ i, o ≠ some (.cel i)) (h : Pst C σ H0 Hf (R.of (o.map (·, env))) fun l env' H0' H' => ∀ v, LdR C.K env' σ H0' Hf H' v l → Q v H') : ∃ l, o = some l ∧ PostL C.K H0 H Q l := by
  cases o with
  | none => exact h.elim
  | some l => exact ⟨l, rfl, postL s (fun i z => hcel i (by rw [z])) h⟩
end
theorem Bop.noCel (o : Bop) (d e : D) (i : Nat) : o.run d e ≠ some (.cel i) := by
  cases o <;> cases d <;> cases e <;> simp [Bop.run, addD, subD, mulD, fdivD, modD, powD] <;> intros <;> simp_all
theorem Cop.noCel (o : Cop) (d e : D) (i : Nat) : o.run d e ≠ some (.cel i) := by
  cases o <;> simp [Cop.run]
theorem ixD_noCel (d e : D) (i : Nat) : ixD d e ≠ some (.cel i) := by
  cases d <;> cases e <;> simp [ixD]
theorem sliD_noCel (d : D) (a b : Option Int) (i : Nat) : sliD d a b ≠ some (.cel i) := by
  cases d <;> simp [sliD]
theorem Bf.noCel (b : Bf) (ds : List D) (i : Nat) : b.run ds ≠ some (.cel i) := by
  cases b
  · show absD ds ≠ _; unfold absD; split <;> simp
  · show intD ds ≠ _; unfold intD; split <;> simp
  · show lenDs ds ≠ _; unfold lenDs; split <;> simp
  · show sumD ds ≠ _; unfold sumD; split <;> simp
  · show allD ds ≠ _; unfold allD; split <;> simp
  · show anyD ds ≠ _; unfold anyD; split <;> simp
  · show maxD ds ≠ _; unfold maxD; split
    · simp
    · split <;> simp
    · simp
  · show minD ds ≠ _; unfold minD; split
    · simp
    · split <;> simp
    · simp
  · show listD ds ≠ _; unfold listD; split <;> simp
  · show tupleD ds ≠ _; unfold tupleD; split <;> simp
section
variable {X : Cx} {C : Cq} {a b c e : Expr} {pos : Pos} {fa fb fc : En → R (Ld × En)}
/-- two values in a row, then an operation -/
theorem two_ok {o : D → D → Option Ld} (hcel : ∀ d e i, o d e ≠ some (.cel i)) {σ : L2.St} {H : Hp} {Q : VK} (h : rdV C (m2 fa fb o) σ H Q) : tOp (rD2 C.K o) (rdV C fa) (rdV C fb) σ H Q := by
  obtain ⟨env, H0, Hf, s, h⟩ := h
  refine ⟨env, H0, Hf, s, (Pst.bind h).imp fun l e H0' H' s' m h => ?_⟩
  intro v r
  obtain ⟨Hf1, s1, h1⟩ := hold1 s' r (Pst.bind h) (k' := fun Hf1 l2 e2 H0'' H'' => ∀ u, LdR C.K e2 σ H0'' Hf1 H'' u l2 → rD2 C.K o v u H'' Q) (fun Hf1 l2 e2 H0'' H'' sa sb m2 hr _ hn k u r2 => by
    obtain ⟨sb', r2'⟩ : SR C.K e2 σ H0'' Hf H'' ∧ LdR C.K e2 σ H0'' Hf H'' u l2 := ⟨sb, by
      cases l2 with
      | dat d => exact r2
      | cel i => exact r2
      | frs d =>
        obtain ⟨p, ob, q1, q2, q3, q4, q5, q6⟩ := r2
        exact ⟨p, ob, q1, q2, q3, q4, hn p q5, q6⟩⟩
    simp only at k
    cases c1 : cont e2 l with
    | none => rw [c1] at k; exact k.elim
    | some x =>
      cases c2 : cont e2 l2 with
      | none => rw [c1, c2] at k; exact k.elim
      | some y =>
        rw [c1, c2] at k
        obtain ⟨z, e1, e2⟩ := pstOf sb' (hcel x y) k
        exact ⟨H0'', x, y, z, sb'.zs, (hr (by rw [c1]; simp)).vw sb' c1, r2'.vw sb' c2, e1, e2⟩)
  exact ⟨e, H0', Hf1, s1, h1⟩
theorem d_bin (o : Bop) (ha : PE X a (rdV C fa)) (hb : PE X b (rdV C fb)) (hK : X.K = C.K) : PE X (.BinOp a o.op b pos) (rdV C (m2 fa fb o.run)) := by
  refine PE.weak (pe_op o.ok ha hb) fun σ H Q h => ?_
  rw [hK]
  exact two_ok o.noCel h
theorem d_cmp (o : Cop) (hu : X.A.units + 65 < cLine) (ha : PE X a (rdV C fa)) (hb : PE X b (rdV C fb)) (hK : X.K = C.K) : PE X (.Compare a [o.op] [b] pos) (rdV C (m2 fa fb o.run)) := by
  refine PE.weak (pe_cmpR (o.ok hu) ha hb (by cases o <;> exact nomark _)) fun σ H Q h => ?_
  rw [hK]
  exact two_ok o.noCel h
theorem d_ix (ha : PE X a (rdV C fa)) (hb : PE X b (rdV C fb)) (hp : PlainIx b) (hK : X.K = C.K) : PE X (.Subscript a b pos) (rdV C (m2 fa fb ixD)) := by
  refine PE.weak (pe_ix ixD_ok ha hb hp) fun σ H Q h => ?_
  rw [hK]
  exact two_ok ixD_noCel h

theorem back_f {σ : L2.St} {H0 Hf Hf1 H : Hp} {env : En} {u : V} {l2 : Ld} (hn : ∀ p, Hf1 p = none → Hf p = none) (r2 : LdR C.K env σ H0 Hf1 H u l2) : LdR C.K env σ H0 Hf H u l2 := by
  cases l2 with
  | dat d => exact r2
  | cel i => exact r2
  | frs d =>
    obtain ⟨p, ob, q1, q2, q3, q4, q5, q6⟩ := r2
    exact ⟨p, ob, q1, q2, q3, q4, hn p q5, q6⟩
theorem back_fs {σ : L2.St} {H0 Hf Hf1 H : Hp} {env : En} (hn : ∀ p, Hf1 p = none → Hf p = none) : ∀ {us : List V} {ls : List Ld}, LdRs C.K env σ H0 Hf1 H us ls → LdRs C.K env σ H0 Hf H us ls
  | _, _, .nil => .nil
  | _, _, .cons a b c => .cons (back_f hn a) b (back_fs hn c)
/-- one value, then an operation -/
theorem one_ok {o : D → Option Ld} (hcel : ∀ d i, o d ≠ some (.cel i)) {σ : L2.St} {H : Hp} {Q : VK} (h : rdV C (m1 fa o) σ H Q) : tUn (rD1 C.K o) (rdV C fa) σ H Q := by
  obtain ⟨env, H0, Hf, s, h⟩ := h
  refine ⟨env, H0, Hf, s, (Pst.bind h).imp fun l e H0' H' s' m k => ?_⟩
  intro v r
  simp only at k
  cases c1 : cont e l with
  | none => rw [c1] at k; exact k.elim
  | some x =>
    rw [c1] at k
    obtain ⟨z, e1, e2⟩ := pstOf s' (hcel x) k
    exact ⟨H0', x, z, s'.zs, r.vw s' c1, e1, e2⟩
theorem LdRs.vw {σ : L2.St} {H0 Hf H : Hp} {env : En} (s : SR C.K env σ H0 Hf H) : ∀ {vs : List V} {ls : List Ld} {ds : List D}, LdRs C.K env σ H0 Hf H vs ls → conts env ls = some ds → VwL C.K H0 H vs ds
  | _, _, _, .nil, e => by cases e; exact .nil
  | _, _, ds, .cons (l := l) a b c, e => by
    obtain ⟨d, e1, e2⟩ := Option.bind_eq_some_iff.mp e
    obtain ⟨ds', e3, rfl⟩ := Option.map_eq_some_iff.mp e2
    exact .cons (a.vw s e1) (LdRs.vw s c e3)
theorem many_ok {fs : En → R (List Ld × En)} {o : List D → Option Ld} (hcel : ∀ d i, o d ≠ some (.cel i)) {σ : L2.St} {H : Hp} {Q : VK} (h : rdV C (ma fs o) σ H Q) : tCB (rDs C.K o) (rdA C fs) σ H Q := by
  obtain ⟨env, H0, Hf, s, h⟩ := h
  refine ⟨env, H0, Hf, s, (Pst.bind h).imp fun l e H0' H' s' m k => ?_⟩
  intro vs r
  simp only at k
  cases c1 : conts e l with
  | none => rw [c1] at k; exact k.elim
  | some x =>
    rw [c1] at k
    obtain ⟨z, e1, e2⟩ := pstOf s' (hcel x) k
    exact ⟨H0', x, z, s'.zs, r.vw s' c1, e1, e2⟩
theorem d_nil : PA X [] (rdA C fun env => .ok ([], env)) := by
  refine PA.weak pa_nil fun σ H Q h => ?_
  obtain ⟨env, H0, Hf, s, h⟩ := h
  exact h H0 H s (.refl _) [] .nil
theorem cons_read {fs : En → R (List Ld × En)} {σ : L2.St} {H : Hp} {Q : List V → Hp → Prop} (h : rdA C (consA fa fs) σ H Q) : tCons (rdV C fa) (rdA C fs) σ H Q := by
  obtain ⟨env, H0, Hf, s, h⟩ := h
  refine ⟨env, H0, Hf, s, ?_⟩
  cases e1 : fa env with
  | bad => unfold consA at h; rw [e1] at h; exact h
  | ex x e' => unfold consA at h; rw [e1] at h; exact h
  | ok p =>
    obtain ⟨l, e⟩ := p
    unfold consA at h
    rw [e1] at h
    intro H0' H' s' m v r
    have h : Pst C σ H0 Hf ((fs e).bind fun (ls, e2) => match cont e2 l with | some _ => .ok (l :: ls, e2) | none => .bad) _ := h
    obtain ⟨Hf1, s1, h1⟩ := hold1 s' r (c := fs) (Pst.from m (Pst.bind h)) (k' := fun Hf1 ls e2 H0'' H'' => ∀ us, LdRs C.K e2 σ H0'' Hf1 H'' us ls → fs e = .ok (ls, e2) → Q (v :: us) H'')
      (fun Hf1 ls e2 H0'' H'' sa sb m2 hr hp hn k us r2 e3 => by
        simp only at k
        cases c1 : cont e2 l with
        | none => rw [c1] at k; exact k.elim
        | some x =>
        rw [c1] at k
        refine k H0'' H'' sb (.refl _) (v :: us) (.cons (hr (by rw [c1]; simp)) (fun p d el ev w d' hw => ?_) (back_fs hn r2))
        intro ew
        have hp' := hp p d el ev
        have : ∀ {us : List V} {ls : List Ld}, LdRs C.K e2 σ H0'' Hf1 H'' us ls → (w, Ld.frs d') ∈ us.zip ls → Hf1 p = none := by
          intro us ls q
          induction q with
          | nil => intro z; simp at z
          | cons a1 a2 a3 ih =>
            intro z
            rw [List.zip_cons_cons, List.mem_cons] at z
            rcases z with z | z
            · cases z
              obtain ⟨p', ob, q1, q2, q3, q4, q5, q6⟩ := a1
              rw [ew] at q1
              cases q1
              exact q5
            · exact ih z
        exact hp' (this r2 hw))
    refine ⟨e, H0', Hf1, s1, ?_⟩
    cases e4 : fs e with
    | bad => rw [e4] at h1; exact h1
    | ex x e' => rw [e4] at h1; exact h1
    | ok q =>
      obtain ⟨ls, e2⟩ := q
      rw [e4] at h1
      exact fun H0'' H'' s2 m2 us r2 => h1 H0'' H'' s2 m2 us r2 rfl
theorem d_cons {es : List Expr} {fs : En → R (List Ld × En)} (ha : PE X a (rdV C fa)) (hs : PA X es (rdA C fs)) (hst : starEach (a :: es) X.env = (false, eval a X.env) :: starEach es X.env) : PA X (a :: es) (rdA C (consA fa fs)) :=
  PA.weak (pa_cons ha hs hst) fun σ H Q h => cons_read h
end
end FR
set_option Elab.async false
set_option linter.all false
set_option autoImplicit false
set_option maxRecDepth 100000
/-! FR6: names, displays, cuts, tests -/
namespace FR
open PySem PySem.Spec PyProof.Rows L2

section
variable {K : PySem.W.Frag} {env : En} {σ : L2.St} {H0 Hf H : Hp}
theorem getElem?_lt {α : Type} {l : List α} {i : Nat} {x : α} (h : l[i]? = some x) : i < l.length := (List.getElem?_eq_some_iff.mp h).1
/-- an owned slot is frozen -/
theorem SR.freeze (s : SR K env σ H0 Hf H) {i : Nat} {d : D} (e : env[i]? = some (.own d)) : ∃ H0' v, σ[i]? = some (some v) ∧ SR K (env.set i (.val d)) σ H0' Hf H ∧ Same H0 H0' ∧ Rep K H0' v d := by
  obtain ⟨w, h1, p, o, rfl, h2, h3, h4, h5⟩ := s.sl i _ e
  have hi := getElem?_lt e
  have sm : Same H0 (upd H0 p o) := fun b x q => by rw [upd_ne (ne_of_none q h4)]; exact q
  refine ⟨upd H0 p o, .ref p, h1, ⟨fun b x q => ?_, s.fs, fun q => ?_, fun j t q => ?_, fun j k q a b e1 e2 e3 e4 => ?_, by rw [List.length_set]; exact s.len⟩, sm, ObR.rep upd_same (h3.mono sm)⟩
  · by_cases hb : b = p
    · subst hb; rw [upd_same] at q; cases q; exact h2
    · rw [upd_ne hb] at q; exact s.zs _ _ q
  · by_cases hb : q = p
    · subst hb; exact .inr h5
    · rw [upd_ne hb]; exact s.dj q
  · by_cases hj : j = i
    · subst hj
      rw [List.getElem?_set_self hi] at q
      cases q
      exact ⟨_, h1, .ref p, rfl, ObR.rep upd_same (h3.mono sm)⟩
    · rw [List.getElem?_set_ne (Ne.symm hj)] at q
      obtain ⟨w, k1, k2⟩ := s.sl j t q
      refine ⟨w, k1, ?_⟩
      cases t with
      | un => trivial
      | val d => obtain ⟨v, a, b⟩ := k2; exact ⟨v, a, b.mono sm⟩
      | own d' =>
        obtain ⟨p', ob, a1, a2, a3, a4, a5⟩ := k2
        refine ⟨p', ob, a1, a2, a3.mono sm, ?_, a5⟩
        rw [upd_ne]
        · exact a4
        · rintro rfl
          subst a1
          exact hj (s.un j i _ _ _ q e k1 h1)
  · by_cases hj : j = i
    · subst hj; rw [List.getElem?_set_self hi] at e1; cases e1
    · by_cases hk : k = i
      · subst hk; rw [List.getElem?_set_self hi] at e2; cases e2
      · rw [List.getElem?_set_ne (Ne.symm hj)] at e1
        rw [List.getElem?_set_ne (Ne.symm hk)] at e2
        exact s.un j k q a b e1 e2 e3 e4
/-- .. or moved out -/
theorem SR.move (s : SR K env σ H0 Hf H) {i : Nat} {d : D} (e : env[i]? = some (.own d)) : ∃ v, σ[i]? = some (some v) ∧ SR K (env.set i .un) σ H0 Hf H ∧ LdR K (env.set i .un) σ H0 Hf H v (.frs d) := by
  obtain ⟨w, h1, p, o, rfl, h2, h3, h4, h5⟩ := s.sl i _ e
  have hi := getElem?_lt e
  refine ⟨.ref p, h1, ⟨s.zs, s.fs, s.dj, fun j t q => ?_, fun j k q a b e1 e2 e3 e4 => ?_, by rw [List.length_set]; exact s.len⟩, p, o, rfl, h2, h3, h4, h5, fun j d' q z => ?_⟩
  · by_cases hj : j = i
    · subst hj
      rw [List.getElem?_set_self hi] at q
      cases q
      exact ⟨_, h1, trivial⟩
    · rw [List.getElem?_set_ne (Ne.symm hj)] at q
      exact s.sl j t q
  · by_cases hj : j = i
    · subst hj; rw [List.getElem?_set_self hi] at e1; cases e1
    · by_cases hk : k = i
      · subst hk; rw [List.getElem?_set_self hi] at e2; cases e2
      · rw [List.getElem?_set_ne (Ne.symm hj)] at e1
        rw [List.getElem?_set_ne (Ne.symm hk)] at e2
        exact s.un j k q a b e1 e2 e3 e4
  · by_cases hj : j = i
    · subst hj; rw [List.getElem?_set_self hi] at q; cases q
    · rw [List.getElem?_set_ne (Ne.symm hj)] at q
      exact hj (s.un j i _ _ _ q e z h1)
/-- all of a row are frozen -/
theorem LdRs.stabs : ∀ {vs : List V} {ls : List Ld} {ds : List D}, SR K env σ H0 Hf H → LdRs K env σ H0 Hf H vs ls → stabs ls = some ds →
    ∃ H0', SR K env σ H0' Hf H ∧ Same H0 H0' ∧ RepL K H0' vs ds ∧ ∀ q, H0' q ≠ none → H0 q ≠ none ∨ ∃ w d', (w, Ld.frs d') ∈ vs.zip ls ∧ w = .ref q
  | _, _, _, s, .nil, e => by cases e; exact ⟨H0, s, .refl _, .nil, fun q h => .inl h⟩
  | _, _, ds, s, .cons (v := v) (l := l) (vs := vs) (ls := ls) a b c, e => by
    obtain ⟨d, e1, e2⟩ := Option.bind_eq_some_iff.mp e
    obtain ⟨ds', e3, rfl⟩ := Option.map_eq_some_iff.mp e2
    obtain ⟨H1, s1, m1, r1, n1⟩ := LdRs.stabs s c e3
    cases l with
    | cel i => cases e1
    | dat d' =>
      cases e1
      refine ⟨H1, s1, m1, .cons (Rep.mono m1 a) r1, fun q h => ?_⟩
      rcases n1 q h with z | ⟨w, d', z1, z2⟩
      · exact .inl z
      · exact .inr ⟨w, d', List.mem_cons_of_mem _ z1, z2⟩
    | frs d' =>
      cases e1
      obtain ⟨p, o, rfl, q1, q2, q3, q4, q5⟩ := a
      have h1p : H1 p = none := by
        cases z : H1 p with
        | none => rfl
        | some x =>
          rcases n1 p (by rw [z]; simp) with y | ⟨w, d2, y1, y2⟩
          · exact absurd q3 y
          · exact absurd y2 (b p d rfl rfl w d2 y1)
      have a' : LdR K env σ H1 Hf H (.ref p) (.frs d) := ⟨p, o, rfl, q1, q2.mono m1, h1p, q4, q5⟩
      have sm : Same H1 (upd H1 p o) := fun b x q => by rw [upd_ne (ne_of_none q h1p)]; exact q
      refine ⟨upd H1 p o, ⟨fun b x q => ?_, s1.fs, fun q => ?_, fun i t q => ?_, s1.un, s1.len⟩, m1.trans sm, .cons (ObR.rep upd_same (q2.mono (m1.trans sm))) (r1.mono sm), fun q h => ?_⟩
      · by_cases hb : b = p
        · subst hb; rw [upd_same] at q; cases q; exact q1
        · rw [upd_ne hb] at q; exact s1.zs _ _ q
      · by_cases hb : q = p
        · subst hb; exact .inr q4
        · rw [upd_ne hb]; exact s1.dj q
      · obtain ⟨w, h1, h2⟩ := s1.sl i t q
        refine ⟨w, h1, ?_⟩
        cases t with
        | un => trivial
        | val d => obtain ⟨v, a, b⟩ := h2; exact ⟨v, a, b.mono sm⟩
        | own d =>
          obtain ⟨p', ob, a1, a2, a3, a4, a5⟩ := h2
          refine ⟨p', ob, a1, a2, a3.mono sm, ?_, a5⟩
          rw [upd_ne]
          · exact a4
          · rintro rfl
            exact q5 i d q (by rw [h1, a1])
      · by_cases hq : q = p
        · subst hq; exact .inr ⟨.ref q, d, by simp, rfl⟩
        · rw [upd_ne hq] at h
          rcases n1 q h with z | ⟨w, d2, z1, z2⟩
          · exact .inl z
          · exact .inr ⟨w, d2, List.mem_cons_of_mem _ z1, z2⟩
theorem Vw.truV {v : V} {d : D} {k : Bool} (sm : Same H0 H) (h : Vw K H0 H v d) (e : tru d = some k) : TruV K v H k := by
  cases d with
  | non => cases h.non; cases e; rfl
  | bl b => cases h.bl; cases e; rfl
  | int i => cases h.int; cases e; rfl
  | str x => cases h.str; obtain ⟨hz, e⟩ := grd e; cases e; exact ⟨hz, rfl⟩
  | tup ds =>
    obtain ⟨a, xs, rfl, q, r⟩ := h.tup
    cases e
    refine .inr (.inl ⟨xs, sameT sm q, ?_⟩)
    have := r.length
    cases xs <;> cases ds <;> simp_all
  | lst ds =>
    obtain ⟨a, xs, rfl, q, r⟩ := h
    cases e
    refine .inl ⟨xs, .of q, ?_⟩
    have := r.length
    cases xs <;> cases ds <;> simp_all
  | dK kvs => cases e
  | dT kvs => cases e
  | exc c fs => cases e
  | scr ns => cases e
end
section
variable {X : Cx} {C : Cq} {a b c e : Expr} {pos : Pos} {fa fb fc : En → R (Ld × En)} {fs : En → R (List Ld × En)} {es : List Expr}
def varS (i : Nat) : En → R (Ld × En) := fun env => match env[i]? with
  | some (.val d) => .ok (.dat d, env)
  | some (.own _) => .ok (.cel i, env)
  | _ => .bad
theorem d_var {i : Nat} (h : PE X e (tVar i)) : PE X e (rdV C (varS i)) := PE.weak h fun σ H Q ⟨env, H0, Hf, s, h⟩ => by
  unfold varS at h
  cases q : env[i]? with
  | none => rw [q] at h; exact h.elim
  | some t =>
    rw [q] at h
    obtain ⟨o, h1, h2⟩ := s.sl i t q
    cases t with
    | un => exact h.elim
    | val d => obtain ⟨v, rfl, r⟩ := h2; exact ⟨v, h1, h H0 H s (.refl _) v r⟩
    | own d =>
      obtain ⟨p, ob, rfl, r⟩ := h2
      exact ⟨.ref p, h1, h H0 H s (.refl _) _ ⟨h1, d, q⟩⟩
def fzS (i : Nat) : En → R (Ld × En) := fun env => match env[i]? with
  | some (.own d) => .ok (.dat d, env.set i (.val d))
  | _ => .bad
theorem d_fz {i : Nat} (h : PE X e (tVar i)) : PE X e (rdV C (fzS i)) := PE.weak h fun σ H Q ⟨env, H0, Hf, s, h⟩ => by
  unfold fzS at h
  cases q : env[i]? with
  | none => rw [q] at h; exact h.elim
  | some t =>
    rw [q] at h
    cases t with
    | un => exact h.elim
    | val d => exact h.elim
    | own d =>
      obtain ⟨H1, v, e1, s1, m, r⟩ := s.freeze q
      exact ⟨v, e1, h H1 H s1 m v r⟩
def mvS (i : Nat) : En → R (Ld × En) := fun env => match env[i]? with
  | some (.own d) => .ok (.frs d, env.set i .un)
  | _ => .bad
theorem d_mv {i : Nat} (h : PE X e (tVar i)) : PE X e (rdV C (mvS i)) := PE.weak h fun σ H Q ⟨env, H0, Hf, s, h⟩ => by
  unfold mvS at h
  cases q : env[i]? with
  | none => rw [q] at h; exact h.elim
  | some t =>
    rw [q] at h
    cases t with
    | un => exact h.elim
    | val d => exact h.elim
    | own d =>
      obtain ⟨v, e1, s1, r⟩ := s.move q
      exact ⟨v, e1, h H0 H s1 (.refl _) v r⟩
theorem d_con {v : V} {d : D} (h : PE X e (tC v)) (r : ∀ H0, Rep C.K H0 v d) : PE X e (rdV C (pureV d)) := PE.weak h fun σ H Q ⟨env, H0, Hf, s, h⟩ => h H0 H s (.refl _) v (r H0)
/-! displays -/
def tupS (fs : En → R (List Ld × En)) : En → R (Ld × En) := fun env => (fs env).bind fun (ls, e) => match stabs ls with
  | some ds => if ds.length ≤ sizeLine then .ok (.dat (.tup ds), e) else .bad
  | none => .bad
def lstS (fs : En → R (List Ld × En)) : En → R (Ld × En) := fun env => (fs env).bind fun (ls, e) => match stabs ls with
  | some ds => if ds.length ≤ sizeLine then .ok (.frs (.lst ds), e) else .bad
  | none => .bad
theorem d_tup {k : Nat} (h : PA X es (rdA C fs)) : PE X (.Tuple es k pos) (rdV C (tupS fs)) := PE.weak (pe_tup h) fun σ H Q ⟨env, H0, Hf, s, h⟩ => by
  refine ⟨env, H0, Hf, s, (Pst.bind h).imp fun ls e H0' H' s' m k => ?_⟩
  intro vs r
  simp only at k
  cases c1 : stabs ls with
  | none => rw [c1] at k; exact k.elim
  | some ds =>
    rw [c1] at k
    obtain ⟨H1, s1, m1, r1, _⟩ := LdRs.stabs s' r c1
    have hl := r1.length
    simp only at k
    by_cases hz : ds.length ≤ sizeLine
    · rw [if_pos hz] at k
      exact ⟨by omega, fun p hp => (postL s1 (l := .dat (.tup ds)) (fun _ z => nomatch z) fun H2 H3 s2 m2 => k H2 H3 s2 (m1.trans m2)).newT s1.zs r1 hp⟩
    · rw [if_neg hz] at k; exact k.elim
theorem d_lst (h : PA X es (rdA C fs)) : PE X (.List es pos) (rdV C (lstS fs)) := PE.weak (pe_lst h) fun σ H Q ⟨env, H0, Hf, s, h⟩ => by
  refine ⟨env, H0, Hf, s, (Pst.bind h).imp fun ls e H0' H' s' m k => ?_⟩
  intro vs r
  simp only at k
  cases c1 : stabs ls with
  | none => rw [c1] at k; exact k.elim
  | some ds =>
    rw [c1] at k
    obtain ⟨H1, s1, m1, r1, _⟩ := LdRs.stabs s' r c1
    have hl := r1.length
    simp only at k
    by_cases hz : ds.length ≤ sizeLine
    · rw [if_pos hz] at k
      exact ⟨by omega, fun p hp => (postL s1 (l := .frs (.lst ds)) (fun _ z => nomatch z) fun H2 H3 s2 m2 => k H2 H3 s2 (m1.trans m2)) p _ hp r1⟩
    · rw [if_neg hz] at k; exact k.elim
/-! tests -/
theorem d_truth (h : PE X e (rdV C fa)) (he : ∀ whole, isTrue e X.env whole = (do let v ← whole; standAt e.pos; holding [v] (truthy v))) (hK : X.K = C.K) : PT X e (rdT C (ofV fa).t) := by
  refine PT.weak (pt_truth h he) fun σ H Q ⟨env, H0, Hf, s, h⟩ => ?_
  refine ⟨env, H0, Hf, s, (Pst.bind h).imp fun l e H0' H' s' m k => ?_⟩
  intro v r
  simp only at k
  cases c1 : cont e l with
  | none => rw [c1] at k; exact k.elim
  | some d =>
    rw [c1] at k
    simp only at k
    cases c2 : tru d with
    | none => rw [c2] at k; exact k.elim
    | some b =>
      rw [c2] at k
      rw [hK]
      exact ⟨b, (r.vw s' c1).truV s'.zs c2, k H0' H' s' (.refl _)⟩
theorem Cop.bl {o : Cop} {d e : D} {l : Ld} (h : o.run d e = some l) : ∃ b, l = .dat (.bl b) := by
  cases o
  · obtain ⟨b, _, e⟩ := mapB h; exact ⟨b, e⟩
  · obtain ⟨b, _, e⟩ := mapB h; exact ⟨b, e⟩
  · obtain ⟨b, _, e⟩ := mapB h; exact ⟨b, e⟩
  · obtain ⟨b, _, e⟩ := mapB h; exact ⟨b, e⟩
  · obtain ⟨b, _, e⟩ := mapB h; exact ⟨b, e⟩
  · obtain ⟨b, _, e⟩ := mapB h; exact ⟨b, e⟩
  · obtain ⟨_, h⟩ := grd h; cases h; exact ⟨_, rfl⟩
  · obtain ⟨_, h⟩ := grd h; cases h; exact ⟨_, rfl⟩
/-- a test by a value's reading: a bool -/
theorem test_of {σ : L2.St} {H : Hp} {Q : Bool → Hp → Prop} {t : TE} (hb : ∀ env l e', fa env = .ok (l, e') → ∃ k, l = .dat (.bl k)) (mono : ∀ Q Q' : VK, (∀ v H, Q v H → Q' v H) → t σ H Q → t σ H Q')
    (ht : ∀ Q : VK, rdV C fa σ H Q → t σ H Q) (h : rdT C (ofV fa).t σ H Q) : t σ H fun x H' => ∃ k, x = .bl k ∧ Q k H' := by
  obtain ⟨env, H0, Hf, s, h⟩ := h
  refine ht _ ⟨env, H0, Hf, s, ?_⟩
  cases e1 : fa env with
  | bad => unfold ofV at h; simp only at h; rw [e1] at h; exact h
  | ex x e' => unfold ofV at h; simp only at h; rw [e1] at h; exact h
  | ok p =>
    obtain ⟨l, e'⟩ := p
    obtain ⟨k, rfl⟩ := hb env l e' e1
    unfold ofV at h
    simp only at h
    rw [e1] at h
    intro H0' H' s' m v r
    cases (show Rep C.K H0' v (.bl k) from r)
    exact ⟨k, rfl, h H0' H' s' m⟩
theorem m2_ok {o : D → D → Option Ld} {P : Ld → Prop} (ho : ∀ d e l, o d e = some l → P l) {env : En} {l : Ld} {e' : En} (h : m2 fa fb o env = .ok (l, e')) : P l := by
  unfold m2 at h
  cases e1 : fa env with
  | bad => rw [e1] at h; cases h
  | ex x e => rw [e1] at h; cases h
  | ok p =>
    obtain ⟨l1, e2⟩ := p
    rw [e1] at h
    simp only [R.bind] at h
    cases e3 : fb e2 with
    | bad => rw [e3] at h; cases h
    | ex x e => rw [e3] at h; cases h
    | ok q =>
      obtain ⟨l2, e4⟩ := q
      rw [e3] at h
      simp only at h
      split at h
      · rename_i x y _ _
        cases e5 : o x y with
        | none => rw [e5] at h; cases h
        | some z =>
          have q := ho x y z e5
          rw [e5] at h
          cases h
          exact q
      · cases h
theorem dt_cmp (o : Cop) (hu : X.A.units + 65 < cLine) (ha : PE X a (rdV C fa)) (hb : PE X b (rdV C fb)) (hK : X.K = C.K) : PT X (.Compare a [o.op] [b] pos) (rdT C (ofV (m2 fa fb o.run)).t) := by
  refine PT.weak (pt_cmpR (o.ok hu) ha hb (by cases o <;> exact nomark _)) fun σ H Q h => ?_
  rw [hK]
  obtain ⟨env, H0, Hf, s, h⟩ := h
  refine two_ok o.noCel ⟨env, H0, Hf, s, ?_⟩
  cases e1 : m2 fa fb o.run env with
  | bad => unfold ofV at h; simp only at h; rw [e1] at h; exact h
  | ex x e' => unfold ofV at h; simp only at h; rw [e1] at h; exact h
  | ok p =>
    obtain ⟨l, e'⟩ := p
    obtain ⟨k, rfl⟩ := m2_ok (P := fun l => ∃ k, l = .dat (.bl k)) (fun d e l => Cop.bl) e1
    unfold ofV at h
    simp only at h
    rw [e1] at h
    intro H0' H' s' m v r
    cases (show Rep C.K H0' v (.bl k) from r)
    exact ⟨k, rfl, h H0' H' s' m⟩
def andT (f g : En → R (Bool × En)) : En → R (Bool × En) := fun env => (f env).bind fun (k, e) => if k then g e else .ok (false, e)
def orT (f g : En → R (Bool × En)) : En → R (Bool × En) := fun env => (f env).bind fun (k, e) => if k then .ok (true, e) else g e
def notT (f : En → R (Bool × En)) : En → R (Bool × En) := fun env => (f env).bind fun (k, e) => .ok (!k, e)
theorem PW.weak {t t' : TT} (h : PW X e t) (w : ∀ σ H Q, t' σ H Q → t σ H Q) : PW X e t' := ⟨fun wh pn s sg H Q I q => h.run wh pn s sg H Q I (w sg H Q q)⟩
theorem dw_and {rest : List Expr} {f g : En → R (Bool × En)} (ha : PT X a (rdT C f)) (hb : PW X (.BoolOp .And (b :: rest) pos) (rdT C g)) : PW X (.BoolOp .And (a :: b :: rest) pos) (rdT C (andT f g)) :=
  PW.weak (pw_and ha hb) fun σ H Q ⟨env, H0, Hf, s, h⟩ => ⟨env, H0, Hf, s, (Pst.bind h).imp fun k e H0' H' s' m h => by
    cases k with
    | true => exact ⟨e, H0', Hf, s', h⟩
    | false => exact h H0' H' s' (.refl _)⟩
theorem dw_or {rest : List Expr} {f g : En → R (Bool × En)} (ha : PT X a (rdT C f)) (hb : PW X (.BoolOp .Or (b :: rest) pos) (rdT C g)) : PW X (.BoolOp .Or (a :: b :: rest) pos) (rdT C (orT f g)) :=
  PW.weak (pw_or ha hb) fun σ H Q ⟨env, H0, Hf, s, h⟩ => ⟨env, H0, Hf, s, (Pst.bind h).imp fun k e H0' H' s' m h => by
    cases k with
    | true => exact h H0' H' s' (.refl _)
    | false => exact ⟨e, H0', Hf, s', h⟩⟩
theorem dt_not {f : En → R (Bool × En)} (ha : PT X a (rdT C f)) : PT X (.UnaryOp .Not a pos) (rdT C (notT f)) :=
  PT.weak (pt_not ha) fun σ H Q ⟨env, H0, Hf, s, h⟩ => ⟨env, H0, Hf, s, (Pst.bind h).imp fun k e H0' H' s' m h => h H0' H' s' (.refl _)⟩
def iteS (f : En → R (Bool × En)) (fa fb : En → R (Ld × En)) : En → R (Ld × En) := fun env => (f env).bind fun (k, e) => if k then fa e else fb e
theorem d_ite {f : En → R (Bool × En)} (hc : PT X c (rdT C f)) (ha : PE X a (rdV C fa)) (hb : PE X b (rdV C fb)) : PE X (.IfExp c a b pos) (rdV C (iteS f fa fb)) :=
  PE.weak (pe_ifExp hc ha hb) fun σ H Q ⟨env, H0, Hf, s, h⟩ => ⟨env, H0, Hf, s, (Pst.bind h).imp fun k e H0' H' s' m h => by
    cases k with
    | true => exact ⟨e, H0', Hf, s', h⟩
    | false => exact ⟨e, H0', Hf, s', h⟩⟩
def andV (fa fb : En → R (Ld × En)) : En → R (Ld × En) := fun env => (fa env).bind fun (l, e) => match (cont e l).bind tru with
  | some true => fb e
  | some false => .ok (l, e)
  | none => .bad
def orV (fa fb : En → R (Ld × En)) : En → R (Ld × En) := fun env => (fa env).bind fun (l, e) => match (cont e l).bind tru with
  | some true => .ok (l, e)
  | some false => fb e
  | none => .bad
theorem d_and {rest : List Expr} (ha : PE X a (rdV C fa)) (hb : PE X (.BoolOp .And (b :: rest) pos) (rdV C fb)) (hK : X.K = C.K) : PE X (.BoolOp .And (a :: b :: rest) pos) (rdV C (andV fa fb)) :=
  PE.weak (pe_andT ha hb) fun σ H Q ⟨env, H0, Hf, s, h⟩ => ⟨env, H0, Hf, s, (Pst.bind h).imp fun l e H0' H' s' m h => by
    intro v r
    simp only at h
    cases c1 : cont e l with
    | none => rw [c1] at h; exact h.elim
    | some d =>
      rw [c1] at h
      simp only [Option.bind_some] at h
      cases c2 : tru d with
      | none => rw [c2] at h; exact h.elim
      | some k =>
        rw [c2] at h
        rw [hK]
        refine ⟨k, (r.vw s' c1).truV s'.zs c2, ?_⟩
        cases k with
        | true => exact ⟨e, H0', Hf, s', h⟩
        | false => exact h H0' H' s' (.refl _) v r⟩
theorem d_or {rest : List Expr} (ha : PE X a (rdV C fa)) (hb : PE X (.BoolOp .Or (b :: rest) pos) (rdV C fb)) (hK : X.K = C.K) : PE X (.BoolOp .Or (a :: b :: rest) pos) (rdV C (orV fa fb)) :=
  PE.weak (pe_orT ha hb) fun σ H Q ⟨env, H0, Hf, s, h⟩ => ⟨env, H0, Hf, s, (Pst.bind h).imp fun l e H0' H' s' m h => by
    intro v r
    simp only at h
    cases c1 : cont e l with
    | none => rw [c1] at h; exact h.elim
    | some d =>
      rw [c1] at h
      simp only [Option.bind_some] at h
      cases c2 : tru d with
      | none => rw [c2] at h; exact h.elim
      | some k =>
        rw [c2] at h
        rw [hK]
        refine ⟨k, (r.vw s' c1).truV s'.zs c2, ?_⟩
        cases k with
        | true => exact h H0' H' s' (.refl _) v r
        | false => exact ⟨e, H0', Hf, s', h⟩⟩
def notV (fa : En → R (Ld × En)) : En → R (Ld × En) := m1 fa fun d => (tru d).map fun k => .dat (.bl !k)
theorem d_not (ha : PE X a (rdV C fa)) (hK : X.K = C.K) : PE X (.UnaryOp .Not a pos) (rdV C (notV fa)) :=
  PE.weak (pe_notT ha) fun σ H Q ⟨env, H0, Hf, s, h⟩ => ⟨env, H0, Hf, s, (Pst.bind h).imp fun l e H0' H' s' m h => by
    intro v r
    simp only at h
    cases c1 : cont e l with
    | none => rw [c1] at h; exact h.elim
    | some d =>
      rw [c1] at h
      simp only at h
      cases c2 : tru d with
      | none => rw [c2] at h; exact h.elim
      | some k =>
        rw [c2] at h
        rw [hK]
        exact ⟨k, (r.vw s' c1).truV s'.zs c2, h H0' H' s' (.refl _) _ (.bl _)⟩⟩
theorem d_neg (ha : PE X a (rdV C fa)) : PE X (.UnaryOp .USub a pos) (rdV C (m1 fa fun | .int i => one (.int (-i)) | _ => none)) :=
  PE.weak (pe_un un_neg ha) fun σ H Q ⟨env, H0, Hf, s, h⟩ => ⟨env, H0, Hf, s, (Pst.bind h).imp fun l e H0' H' s' m h => by
    intro v r
    simp only at h
    cases c1 : cont e l with
    | none => rw [c1] at h; exact h.elim
    | some d =>
      rw [c1] at h
      have w := r.vw s' c1
      cases d with
      | int i => cases w.int; exact ⟨i, rfl, h H0' H' s' (.refl _) _ (.int _)⟩
      | _ => exact h.elim⟩
/-! cuts -/
def rdP (C : Cq) (c : En → R (Option Int × En)) : TO := fun σ H Q => ∃ env H0 Hf, SR C.K env σ H0 Hf H ∧ Pst C σ H0 Hf (c env) fun o env' H0' H' => Q o H'
theorem PO.weak {o : Option Expr} {t t' : TO} (h : PO X o t) (w : ∀ σ H Q, t' σ H Q → t σ H Q) : PO X o t' := ⟨fun pn s sg H Q I q => h.run pn s sg H Q I (w sg H Q q)⟩
theorem dp_none : PO X none (rdP C (part true fa)) := PO.weak po_none fun σ H Q ⟨env, H0, Hf, s, h⟩ => h H0 H s (.refl _)
theorem dp_some (ha : PE X a (rdV C fa)) : PO X (some a) (rdP C (part false fa)) := PO.weak (po_some ha) fun σ H Q ⟨env, H0, Hf, s, h⟩ => by
  unfold part at h
  simp only [Bool.false_eq_true, if_false] at h
  refine ⟨env, H0, Hf, s, (Pst.bind h).imp fun l e H0' H' s' m h => ?_⟩
  intro v r
  cases l with
  | dat d =>
    cases d with
    | int i => cases (show Rep C.K H0' v (.int i) from r); exact ⟨i, rfl, h H0' H' s' (.refl _)⟩
    | _ => exact h.elim
  | _ => exact h.elim
theorem d_sli {lo hi : Option Expr} {p2 : Pos} {fl fh : En → R (Option Int × En)} (ha : PE X a (rdV C fa)) (hl : PO X lo (rdP C fl)) (hh : PO X hi (rdP C fh)) (hK : X.K = C.K) : PE X (.Subscript a (.Slice lo hi none p2) pos) (rdV C (msl fa fl fh)) := by
  refine PE.weak (pe_slice sliD_ok ha hl hh) fun σ H Q ⟨env, H0, Hf, s, h⟩ => ?_
  rw [hK]
  refine ⟨env, H0, Hf, s, (Pst.bind h).imp fun l e H0' H' s' m h => ?_⟩
  intro v r
  obtain ⟨Hf1, s1, hn, hp, bk⟩ := LdR.hold s' r
  refine ⟨e, H0', Hf1, s1, (Pst.bind h).hold (fun e2 Ha Hb q mm => (bk e2 Ha Hb q mm).1) fun x e2 H2 H3 q mm k => ?_⟩
  refine ⟨e2, H2, Hf1, q, (Pst.bind k).hold (fun e3 Ha Hb q' m3 => (bk e3 Ha Hb q' (mm.trans m3)).1) fun y e3 H4 H5 q' m3 k => ?_⟩
  obtain ⟨sb, hr⟩ := bk e3 H4 H5 q' (mm.trans m3)
  simp only at k
  cases c1 : cont e3 l with
  | none => rw [c1] at k; exact k.elim
  | some d =>
    rw [c1] at k
    obtain ⟨z, e1, e2⟩ := pstOf sb (sliD_noCel d x y) k
    exact ⟨H4, d, z, sb.zs, (hr (by rw [c1]; simp)).vw sb c1, e1, e2⟩
end
end FR
set_option Elab.async false
set_option linter.all false
set_option autoImplicit false
set_option maxRecDepth 100000
/-! FR7: rows with a star, targets, walks, comprehensions -/
namespace FR
open PySem PySem.Spec PyProof.Rows L2

section
variable {X : Cx} {C : Cq} {a b c e : Expr} {pos : Pos} {fa fb fc : En → R (Ld × En)} {fs : En → R (List Ld × En)} {es : List Expr}
theorem repL_ldrs {env : En} {σ : L2.St} {H0 Hf H : Hp} : ∀ {vs : List V} {ds : List D} {us : List V} {ls : List Ld}, RepL C.K H0 vs ds → LdRs C.K env σ H0 Hf H us ls → LdRs C.K env σ H0 Hf H (vs ++ us) (ds.map Ld.dat ++ ls)
  | _, _, _, _, .nil, r => r
  | _, _, _, _, .cons a b, r => .cons a (fun _ _ z => nomatch z) (repL_ldrs b r)
def starA (fa : En → R (Ld × En)) (fs : En → R (List Ld × En)) : En → R (List Ld × En) := fun env => (fa env).bind fun (l, e) => match stab l with
    | some d => match itemsD d with
      | some ds => (fs e).bind fun (ls, e2) => .ok (ds.map .dat ++ ls, e2)
      | none => .bad
    | none => .bad
theorem items_seq {H0 H : Hp} (sm : Same H0 H) {v : V} {d : D} {ds : List D} (r : Rep C.K H0 v d) (h : itemsD d = some ds) : ∃ p xs, v = .ref p ∧ (SqT C.K H p xs ∨ SqL C.K H p xs) ∧ RepL C.K H0 xs ds := by
  cases r with
  | tup q r => cases h; exact ⟨_, _, rfl, .inl (sameT sm q), r⟩
  | lst q r => cases h; exact ⟨_, _, rfl, .inr (.of (sm _ _ q)), r⟩
  | _ => cases h
theorem d_star {p : Pos} (ha : PE X a (rdV C fa)) (hs : PA X es (rdA C fs)) (hK : X.K = C.K) : PA X (.Starred a p :: es) (rdA C (starA fa fs)) := by
  refine PA.weak (StX.pa_star ha hs) fun σ H Q ⟨env, H0, Hf, s, h⟩ => ?_
  rw [hK]
  refine ⟨env, H0, Hf, s, (Pst.bind h).imp fun l e H0' H' s' m h => ?_⟩
  intro v r
  simp only at h
  cases c1 : stab l with
  | none => rw [c1] at h; exact h.elim
  | some d =>
    rw [c1] at h
    simp only at h
    cases c2 : itemsD d with
    | none => rw [c2] at h; exact h.elim
    | some ds =>
      rw [c2] at h
      obtain ⟨H1, s1, m1, r1⟩ := LdR.stab s' r c1
      obtain ⟨q, xs, rfl, h1, h2⟩ := items_seq s1.zs r1 c2
      refine ⟨q, xs, rfl, h1, e, H1, Hf, s1, (Pst.bind (Pst.from m1 h)).imp fun ls e2 H2 H3 s2 m2 h => ?_⟩
      exact fun us r2 => h H2 H3 s2 (.refl _) _ (repL_ldrs (h2.mono m2) r2)
end
/-! ### targets -/
section
variable {K : PySem.W.Frag} {env : En} {σ : L2.St} {H0 Hf H : Hp}
theorem SR.put (s : SR K env σ H0 Hf H) {i : Nat} {v : V} {d : D} (hi : i < env.length) (r : Rep K H0 v d) : SR K (env.set i (.val d)) (σ.set i (some v)) H0 Hf H := by
  have hs : i < σ.length := by rw [← s.len]; exact hi
  refine ⟨s.zs, s.fs, s.dj, fun j t q => ?_, fun j k q a b e1 e2 e3 e4 => ?_, by rw [List.length_set, List.length_set]; exact s.len⟩
  · by_cases hj : j = i
    · subst hj
      rw [List.getElem?_set_self hi] at q
      cases q
      exact ⟨_, List.getElem?_set_self hs, v, rfl, r⟩
    · rw [List.getElem?_set_ne (Ne.symm hj)] at q
      obtain ⟨w, k1, k2⟩ := s.sl j t q
      exact ⟨w, by rw [List.getElem?_set_ne (Ne.symm hj)]; exact k1, k2⟩
  · by_cases hj : j = i
    · subst hj; rw [List.getElem?_set_self hi] at e1; cases e1
    · by_cases hk : k = i
      · subst hk; rw [List.getElem?_set_self hi] at e2; cases e2
      · rw [List.getElem?_set_ne (Ne.symm hj)] at e1 e3
        rw [List.getElem?_set_ne (Ne.symm hk)] at e2 e4
        exact s.un j k q a b e1 e2 e3 e4
/-- an owned thing comes into a slot -/
theorem SR.putO (s : SR K env σ H0 Hf H) {i : Nat} {v : V} {d : D} (hi : i < env.length) (r : LdR K env σ H0 Hf H v (.frs d)) : SR K (env.set i (.own d)) (σ.set i (some v)) H0 Hf H := by
  have hs : i < σ.length := by rw [← s.len]; exact hi
  obtain ⟨p, o, rfl, h1, h2, h3, h4, h5⟩ := r
  refine ⟨s.zs, s.fs, s.dj, fun j t q => ?_, fun j k q a b e1 e2 e3 e4 => ?_, by rw [List.length_set, List.length_set]; exact s.len⟩
  · by_cases hj : j = i
    · subst hj
      rw [List.getElem?_set_self hi] at q
      cases q
      exact ⟨_, List.getElem?_set_self hs, p, o, rfl, h1, h2, h3, h4⟩
    · rw [List.getElem?_set_ne (Ne.symm hj)] at q
      obtain ⟨w, k1, k2⟩ := s.sl j t q
      exact ⟨w, by rw [List.getElem?_set_ne (Ne.symm hj)]; exact k1, k2⟩
  · by_cases hj : j = i
    · by_cases hk : k = i
      · rw [hj, hk]
      · subst hj
        rw [List.getElem?_set_ne (Ne.symm hk)] at e2 e4
        rw [List.getElem?_set_self hs] at e3
        cases e3
        exact absurd e4 (h5 k b e2)
    · rw [List.getElem?_set_ne (Ne.symm hj)] at e1 e3
      by_cases hk : k = i
      · subst hk
        rw [List.getElem?_set_self hs] at e4
        cases e4
        exact absurd e3 (h5 j a e1)
      · rw [List.getElem?_set_ne (Ne.symm hk)] at e2 e4
        exact s.un j k q a b e1 e2 e3 e4
end
section
variable {X : Cx} {C : Cq} {pos : Pos}
/-- σ' is σ but at some slots -/
def ButAt (is : List Nat) (σ σ' : L2.St) : Prop := σ'.length = σ.length ∧ ∀ i, i ∉ is → σ'[i]? = σ[i]?
theorem ButAt.trans {a b : List Nat} {s t u : L2.St} (x : ButAt a s t) (y : ButAt b t u) : ButAt (a ++ b) s u := ⟨y.1.trans x.1, fun i h => by
  rw [List.mem_append, not_or] at h
  rw [y.2 i h.2, x.2 i h.1]⟩
def gD (C : Cq) (t : T) : TG := fun v σ H Q => ∃ env H0 Hf d env', SR C.K env σ H0 Hf H ∧ Rep C.K H0 v d ∧ asg t [d] env = some env' ∧ ∀ σ', ButAt t.slots σ σ' → SR C.K env' σ' H0 Hf H → Q σ' H
def gDs (C : Cq) (t : T) : TGs := fun vs σ H Q => ∃ env H0 Hf ds env', SR C.K env σ H0 Hf H ∧ RepL C.K H0 vs ds ∧ asg t ds env = some env' ∧ ∀ σ', ButAt t.slots σ σ' → SR C.K env' σ' H0 Hf H → Q σ' H
theorem PG.weak {e : Expr} {t t' : TG} (h : PG X e t) (w : ∀ v σ H Q, t' v σ H Q → t v σ H Q) : PG X e t' := ⟨fun pn s sg H v u Q I r q => h.run pn s sg H v u Q I r (w v sg H Q q)⟩
theorem PGs.weak {e : List Expr} {t t' : TGs} (h : PGs X e t) (w : ∀ v σ H Q, t' v σ H Q → t v σ H Q) : PGs X e t' := ⟨fun pn s sg H v u Q I r q => h.run pn s sg H v u Q I r (w v sg H Q q)⟩
theorem g_name {i : Nat} {e : Expr} (h : PG X e (gName i)) : PG X e (gD C (.nm i)) := PG.weak h fun v σ H Q ⟨env, H0, Hf, d, env', s, r, h, q⟩ => by
  obtain ⟨hi, h⟩ := grd h
  cases h
  exact q _ ⟨by rw [List.length_set], fun j hj => List.getElem?_set_ne (fun z => hj (by rw [← z]; exact List.mem_singleton.mpr rfl))⟩ (s.put hi r)
theorem g_nil : PGs X [] (gDs C .nil) := PGs.weak pgs_nil fun v σ H Q ⟨env, H0, Hf, d, env', s, r, h, q⟩ => by
  cases d with
  | nil => cases h; cases r; exact ⟨rfl, q _ ⟨rfl, fun _ _ => rfl⟩ s⟩
  | cons _ _ => cases h
theorem g_cons {e : Expr} {es : List Expr} {t ts : T} (h1 : PG X e (gD C t)) (h2 : PGs X es (gDs C ts)) (hs : (assignEach (e :: es) X.env).map (·.2) = assign e X.env :: (assignEach es X.env).map (·.2)) : PGs X (e :: es) (gDs C (.cons t ts)) :=
  PGs.weak (pgs_cons h1 h2 hs) fun v σ H Q ⟨env, H0, Hf, ds, env', s, r, h, q⟩ => by
    cases ds with
    | nil => cases h
    | cons d ds =>
      obtain ⟨e1, h3, h4⟩ := Option.bind_eq_some_iff.mp h
      cases r with
      | cons ra rb =>
        refine ⟨_, _, rfl, env, H0, Hf, d, e1, s, ra, h3, fun σ1 b1 s1 => ⟨e1, H0, Hf, ds, env', s1, rb, h4, fun σ2 b2 s2 => q σ2 (b1.trans b2) s2⟩⟩
theorem g_tup {es : List Expr} {k n : Nat} {ts : T} (hc : X.calm = true) (hK : X.K = C.K) (h : PGs X es (gDs C ts)) (hn : (assignEach es X.env).length = n) (hst : (assignEach es X.env).findIdx? (·.1) = none)
    (hl : ∀ ds env env', asg ts ds env = some env' → ds.length = n) : PG X (.Tuple es k pos) (gD C (.tp ts)) :=
  PG.weak (pg_tup hc h hn hst) fun v σ H Q ⟨env, H0, Hf, d, env', s, r, h, q⟩ => by
    cases d with
    | tup ds =>
      cases r with
      | tup q1 r1 =>
        have h : asg ts ds env = some env' := h
        exact ⟨_, _, rfl, by rw [hK]; exact sameT s.zs q1, r1.length.trans (hl ds env env' h), env, H0, Hf, ds, env', s, r1, h, q⟩
    | _ => cases h
end
/-! ### walks -/
section
variable {X : Cx} {C : Cq}
/-- the walk J yields these data, one behind another, while the frozen part stays -/
def Yields (K : PySem.W.Frag) (J : It) (H0 : Hp) (ds : List D) : Prop :=
  (∀ i H0' H', Same H0 H0' → Same H0' H' → i < ds.length → J.go i H') ∧ (∀ H0' H', Same H0 H0' → Same H0' H' → J.stop ds.length H') ∧
  ∀ i H0' H' x H'', Same H0 H0' → Same H0' H' → J.yld i H' x H'' → ∀ d, ds[i]? = some d → ∃ H1, Gr H0' H' H1 H'' ∧ Rep K H1 x d
def rdI (C : Cq) (c : En → R (List D × En)) : TI := fun σ H R => ∃ env H0 Hf, SR C.K env σ H0 Hf H ∧ Pst C σ H0 Hf (c env) fun ds env' H0' H' => ∀ J, Yields C.K J H0' ds → R J H'
theorem PI.weak {tg e : Expr} {t t' : TI} (h : PI X tg e t) (w : ∀ σ H Q, t' σ H Q → t σ H Q) : PI X tg e t' := ⟨fun pn s sg H Q I q => h.run pn s sg H Q I (w sg H Q q)⟩
theorem yields_list {K : PySem.W.Frag} {H0 : Hp} {a : Addr} {xs : List V} {ds : List D} (h : H0 a = some (.lst xs)) (r : RepL K H0 xs ds) : Yields K (Itl K a) H0 ds := by
  have hl := r.length
  refine ⟨fun i H1 H2 s1 s2 hi => ?_, fun H1 H2 s1 s2 => ⟨xs, .of (s2 _ _ (s1 _ _ h)), by omega⟩, fun i H1 H2 x H3 s1 s2 y d e => ?_⟩
  · obtain ⟨v, e1, _⟩ := r.get (List.getElem?_eq_getElem hi)
    exact ⟨xs, v, .of (s2 _ _ (s1 _ _ h)), e1⟩
  · obtain ⟨rfl, y⟩ := y
    obtain ⟨v, e1, e2⟩ := r.get e
    have := (y xs (.of (s2 _ _ (s1 _ _ h)))).symm.trans e1
    cases this
    exact ⟨H1, .refl s2, e2.mono s1⟩
theorem yields_tup {K : PySem.W.Frag} {H0 : Hp} {a : Addr} {xs : List V} {ds : List D} (h : SqT K H0 a xs) (r : RepL K H0 xs ds) : Yields K (Itt K a) H0 ds := by
  have hl := r.length
  refine ⟨fun i H1 H2 s1 s2 hi => ?_, fun H1 H2 s1 s2 => ⟨xs, sameT s2 (sameT s1 h), by omega⟩, fun i H1 H2 x H3 s1 s2 y d e => ?_⟩
  · obtain ⟨v, e1, _⟩ := r.get (List.getElem?_eq_getElem hi)
    exact ⟨xs, v, sameT s2 (sameT s1 h), e1⟩
  · obtain ⟨rfl, y⟩ := y
    obtain ⟨v, e1, e2⟩ := r.get e
    have := (y xs (sameT s2 (sameT s1 h))).symm.trans e1
    cases this
    exact ⟨H1, .refl s2, e2.mono s1⟩
/-- a list or a tuple walked -/
theorem pi_seq {tg l : Expr} {tl : TE} (hl : PE X l tl) : PI X tg l (fun σ H R => tl σ H fun v H1 => ∃ a, v = .ref a ∧ ((∃ xs, SqL X.K H1 a xs ∧ R (Itl X.K a) H1) ∨ ∃ xs, SqT X.K H1 a xs ∧ R (Itt X.K a) H1)) := by
  refine ⟨fun pn s sg H R I h => ?_⟩
  refine thn (hl.run pn s sg H _ I h) fun v s1 ⟨x, H1, I1, r1, a, e, q⟩ => ?_
  subst e
  cases r1
  rcases q with ⟨xs, hq, q⟩ | ⟨xs, hq, q⟩
  · obtain ⟨its, rv, p, hz⟩ := I1.list hq
    refine wpAny_pyIter_list p.isList ?_
    refine ⟨s1.heap.objs.size, [s1.heap.objs.size], _, _, H1, rfl, I1.kept (t' := s1.toks) fun b o e => Heap.get?_push_of_some _ e, turn_list a _, ⟨_, Heap.get?_push_size _ rfl, rfl, rfl⟩, fun b hb => ?_, q⟩
    obtain rfl : b = s1.heap.objs.size := by simpa using hb
    exact I1.fpOk (Nat.le_refl _) (I1.hok.fresh (Nat.le_refl _))
  · obtain ⟨its, rv, p, hz⟩ := I1.tuple hq
    refine wpAny_pyIter_tuple (show s1.heap.IsTuple a its.toArray from p) ?_
    refine ⟨s1.heap.objs.size, [s1.heap.objs.size], _, _, H1, rfl, I1.kept (t' := s1.toks) fun b o e => Heap.get?_push_of_some _ e, turn_tuple a _, ⟨_, Heap.get?_push_size _ rfl, rfl, rfl⟩, fun b hb => ?_, q⟩
    obtain rfl : b = s1.heap.objs.size := by simpa using hb
    exact I1.fpOk (Nat.le_refl _) (I1.hok.fresh (Nat.le_refl _))
theorem di_seq {tg l : Expr} {fa : En → R (Ld × En)} (h : PE X l (rdV C fa)) (hK : X.K = C.K) : PI X tg l (rdI C (ofV fa).i) := PI.weak (pi_seq h) fun σ H R ⟨env, H0, Hf, s, h⟩ => by
  refine ⟨env, H0, Hf, s, (Pst.bind h).imp fun l e H0' H' s' m h => ?_⟩
  intro v r
  simp only at h
  cases c1 : stab l with
  | none => rw [c1] at h; exact h.elim
  | some d =>
    rw [c1] at h
    simp only at h
    cases c2 : itemsD d with
    | none => rw [c2] at h; exact h.elim
    | some ds =>
      rw [c2] at h
      obtain ⟨H1, s1, m1, r1⟩ := LdR.stab s' r c1
      have h := h H1 H' s1 m1
      rw [hK]
      cases r1 with
      | tup q r => cases c2; exact ⟨_, rfl, .inr ⟨_, sameT s1.zs q, h _ (yields_tup q r)⟩⟩
      | lst q r => cases c2; exact ⟨_, rfl, .inl ⟨_, .of (s1.zs _ _ q), h _ (yields_list q r)⟩⟩
      | _ => cases c2
def rngS (fa : En → R (Ld × En)) : En → R (List D × En) := fun env => (fa env).bind fun (l, e) => match l with
    | .dat (.int j) => if -(2 ^ 62) ≤ j ∧ j < 2 ^ 62 then .ok (rangeD 0 j.toNat, e) else .bad
    | _ => .bad
theorem yields_rng {K : PySem.W.Frag} {H0 : Hp} (lo : Int) (n : Nat) : Yields K (Itr lo n) H0 (rangeD lo n) := by
  have hl : (rangeD lo n).length = n := by unfold rangeD; rw [List.length_map, List.length_range]
  refine ⟨fun i H1 H2 s1 s2 hi => by rw [hl] at hi; exact hi, fun H1 H2 s1 s2 => by rw [hl]; exact Nat.le_refl n, fun i H1 H2 x H3 s1 s2 y d e => ?_⟩
  obtain ⟨rfl, rfl⟩ := y
  have hi : i < n := by rw [← hl]; exact (List.getElem?_eq_some_iff.mp e).1
  unfold rangeD at e
  rw [List.getElem?_map, List.getElem?_range hi] at e
  cases e
  exact ⟨H1, .refl s2, .int _⟩
theorem di_rng {tg a : Expr} {p pos : Pos} {fa : En → R (Ld × En)} (ha : PE X a (rdV C fa)) (hg : Gl X "range") (hm : X.mg "range" = none) (hs : starEach [a] X.env = [(false, eval a X.env)]) : PI X tg (.Call (.Name "range" p) [a] [] pos) (rdI C (rngS fa)) :=
  PI.weak (pi_range1 hg hm (pa_cons ha pa_nil hs) hs) fun σ H R ⟨env, H0, Hf, s, h⟩ => by
    refine ⟨env, H0, Hf, s, (Pst.bind h).imp fun l e H0' H' s' m h => ?_⟩
    intro v r
    simp only at h
    split at h
    · rename_i j
      cases (show Rep C.K H0' v (.int j) from r)
      by_cases hj : -(2 ^ 62) ≤ j ∧ j < 2 ^ 62
      · rw [if_pos hj] at h
        exact ⟨j, rfl, hj.1, hj.2, h H0' H' s' (.refl _) _ (yields_rng 0 j.toNat)⟩
      · rw [if_neg hj] at h; exact h.elim
    · exact h.elim
end

/-! ### comprehensions -/
section
variable {K : PySem.W.Frag} {env : En} {σ : L2.St} {H0 Hf H : Hp}
theorem SR.held {D : Addr} {o o' : HO} (s : SR K env σ H0 (upd Hf D o) H) (hf : Hf D = none) : SR K env σ H0 (upd Hf D o') (upd H D o') := by
  have h0 : H0 D = none := by
    rcases s.dj D with z | z
    · exact z
    · rw [upd_same] at z; cases z
  refine ⟨fun b x q => ?_, fun b x q => ?_, fun q => ?_, fun i t q => ?_, s.un, s.len⟩
  · rw [upd_ne (ne_of_none q h0)]; exact s.zs _ _ q
  · by_cases hb : b = D
    · subst hb; rw [upd_same] at q ⊢; exact q
    · rw [upd_ne hb] at q ⊢
      exact s.fs _ _ (by rw [upd_ne hb]; exact q)
  · by_cases hb : q = D
    · subst hb; exact .inl h0
    · rw [upd_ne hb]
      have := s.dj q
      rw [upd_ne hb] at this
      exact this
  · obtain ⟨w, h1, h2⟩ := s.sl i t q
    refine ⟨w, h1, ?_⟩
    cases t with
    | un => trivial
    | val d => exact h2
    | own d =>
      obtain ⟨p, ob, a1, a2, a3, a4, a5⟩ := h2
      have hp : p ≠ D := by
        rintro rfl
        rw [upd_same] at a5; cases a5
      rw [upd_ne hp] at a5
      exact ⟨p, ob, a1, by rw [upd_ne hp]; exact a2, a3, a4, by rw [upd_ne hp]; exact a5⟩
theorem SR.laid {D : Addr} {o : HO} (s : SR K env σ H0 Hf H) (hD : H D = none) : SR K env σ H0 (upd Hf D o) (upd H D o) := by
  have sm : Same H (upd H D o) := fun b x e => by rw [upd_ne (ne_of_none e hD)]; exact e
  refine ⟨s.zs.trans sm, fun b x q => ?_, fun q => ?_, fun i t q => ?_, s.un, s.len⟩
  · by_cases hb : b = D
    · subst hb; rw [upd_same] at q ⊢; exact q
    · rw [upd_ne hb] at q; exact sm _ _ (s.fs _ _ q)
  · by_cases hb : q = D
    · subst hb; exact .inl (s.zs.free hD)
    · rw [upd_ne hb]; exact s.dj q
  · obtain ⟨w, h1, h2⟩ := s.sl i t q
    refine ⟨w, h1, ?_⟩
    cases t with
    | un => trivial
    | val d => exact h2
    | own d =>
      obtain ⟨p, ob, a1, a2, a3, a4, a5⟩ := h2
      exact ⟨p, ob, a1, sm _ _ a2, a3, a4, by rw [upd_ne (ne_of_none a2 hD)]; exact a5⟩
/-- back from beside: the held thing is fresh -/
theorem SR.unlaid {D : Addr} {o : HO} {d : FR.D} (s : SR K env σ H0 (upd Hf D o) H) (hf : Hf D = none) (ho : ObR K H0 o d) : SR K env σ H0 Hf H ∧ LdR K env σ H0 Hf H (.ref D) (.frs d) := by
  have h0 : H0 D = none := by
    rcases s.dj D with z | z
    · exact z
    · rw [upd_same] at z; cases z
  have sf : Same Hf (upd Hf D o) := fun b x q => by rw [upd_ne (ne_of_none q hf)]; exact q
  refine ⟨⟨s.zs, sf.trans s.fs, fun q => ?_, fun i t q => ?_, s.un, s.len⟩, D, o, rfl, s.fs _ _ upd_same, ho, h0, hf, fun i e q z => ?_⟩
  · rcases s.dj q with z | z
    · exact .inl z
    · exact .inr (sf.free z)
  · obtain ⟨w, h1, h2⟩ := s.sl i t q
    refine ⟨w, h1, ?_⟩
    cases t with
    | un => trivial
    | val d => exact h2
    | own d =>
      obtain ⟨p, ob, a1, a2, a3, a4, a5⟩ := h2
      exact ⟨p, ob, a1, a2, a3, a4, sf.free a5⟩
  · obtain ⟨w, h1, p, ob, a1, a2, a3, a4, a5⟩ := s.sl i _ q
    rw [z] at h1
    cases h1
    cases a1
    rw [upd_same] at a5
    cases a5
theorem wipeE_get (env : En) (vs : List Nat) (i : Nat) : (wipeE env vs)[i]? = (env[i]?).map fun t => if i ∈ vs then .un else t := by
  unfold wipeE
  rw [List.getElem?_mapIdx]
theorem SR.wipe (s : SR K env σ H0 Hf H) (vs : List Nat) : SR K (wipeE env vs) (L2.wipe σ vs) H0 Hf H := by
  have get : ∀ i t, (wipeE env vs)[i]? = some t → t ≠ .un → i ∉ vs ∧ env[i]? = some t := fun i t q hn => by
    rw [wipeE_get] at q
    obtain ⟨t', q1, q2⟩ := Option.map_eq_some_iff.mp q
    by_cases hi : i ∈ vs
    · rw [if_pos hi] at q2; exact absurd q2.symm hn
    · rw [if_neg hi] at q2; subst q2; exact ⟨hi, q1⟩
  refine ⟨s.zs, s.fs, s.dj, fun i t q => ?_, fun i j p d e e1 e2 e3 e4 => ?_, ?_⟩
  · cases t with
    | un =>
      have hi : i < (L2.wipe σ vs).length := by
        rw [wipe_length, ← s.len]
        have := getElem?_lt q
        unfold wipeE at this
        rw [List.length_mapIdx] at this
        exact this
      exact ⟨_, List.getElem?_eq_getElem hi, trivial⟩
    | val d =>
      obtain ⟨hi, q⟩ := get i _ q (by simp)
      obtain ⟨w, h1, h2⟩ := s.sl i _ q
      exact ⟨w, by rw [wipe_out hi]; exact h1, h2⟩
    | own d =>
      obtain ⟨hi, q⟩ := get i _ q (by simp)
      obtain ⟨w, h1, h2⟩ := s.sl i _ q
      exact ⟨w, by rw [wipe_out hi]; exact h1, h2⟩
  · obtain ⟨hi, q1⟩ := get i _ e1 (by simp)
    obtain ⟨hj, q2⟩ := get j _ e2 (by simp)
    rw [wipe_out hi] at e3
    rw [wipe_out hj] at e4
    exact s.un i j p d e q1 q2 e3 e4
  · unfold wipeE
    rw [List.length_mapIdx, wipe_length]
    exact s.len
theorem SR.unwipe {env0 : En} {vs : List Nat} {Hx H' Hf0 : Hp} (s0 : SR K env0 σ Hx Hf0 H) (hv : ∀ i ∈ vs, isUn (env0.getD i .un) = true) (m : Same Hx H0) (s : SR K env (L2.wipe σ vs) H0 Hf H') : SR K (unwipe env0 env vs) σ H0 Hf H' := by
  have get : ∀ i t, (FR.unwipe env0 env vs)[i]? = some t → (i ∉ vs ∧ env[i]? = some t) ∨ (i ∈ vs ∧ t = env0.getD i .un ∧ i < env.length) := fun i t q => by
    unfold FR.unwipe at q
    rw [List.getElem?_mapIdx] at q
    obtain ⟨t', q1, q2⟩ := Option.map_eq_some_iff.mp q
    by_cases hi : i ∈ vs
    · rw [if_pos hi] at q2; exact .inr ⟨hi, q2.symm, getElem?_lt q1⟩
    · rw [if_neg hi] at q2; subst q2; exact .inl ⟨hi, q1⟩
  have hlen : env.length = σ.length := by rw [s.len, wipe_length]
  refine ⟨s.zs, s.fs, s.dj, fun i t q => ?_, fun i j p d e e1 e2 e3 e4 => ?_, ?_⟩
  · rcases get i t q with ⟨hi, q1⟩ | ⟨hi, rfl, hl⟩
    · obtain ⟨w, h1, h2⟩ := s.sl i _ q1
      rw [wipe_out hi] at h1
      exact ⟨w, h1, h2⟩
    · have hu := hv i hi
      have hl0 : i < env0.length := by rw [s0.len, ← hlen]; exact hl
      have e0 : env0[i]? = some (env0.getD i .un) := by rw [List.getD_eq_getElem?_getD, List.getElem?_eq_getElem hl0]; rfl
      obtain ⟨w, h1, h2⟩ := s0.sl i _ e0
      refine ⟨w, h1, ?_⟩
      cases ht : env0.getD i .un with
      | un => trivial
      | val d => rw [ht] at h2; obtain ⟨v, a, b⟩ := h2; exact ⟨v, a, b.mono m⟩
      | own d => rw [ht] at hu; cases hu
  · rcases get i _ e1 with ⟨hi, q1⟩ | ⟨hi, hu, _⟩
    · rcases get j _ e2 with ⟨hj, q2⟩ | ⟨hj, hu, _⟩
      · exact s.un i j p d e q1 q2 (by rw [wipe_out hi]; exact e3) (by rw [wipe_out hj]; exact e4)
      · have := hv j hj; rw [← hu] at this; cases this
    · have := hv i hi; rw [← hu] at this; cases this
  · unfold FR.unwipe
    rw [List.length_mapIdx]
    exact hlen
theorem wipe_but {vs is : List Nat} {σ' : L2.St} (h : ButAt is (L2.wipe σ vs) σ') (hs : ∀ i ∈ is, i ∈ vs) : L2.wipe σ' vs = L2.wipe σ vs := by
  have wi : ∀ (τ : L2.St) (i : Nat), i ∈ vs → i < τ.length → (L2.wipe τ vs)[i]? = some none := fun τ i hi hl => by
    cases e : (L2.wipe τ vs)[i]? with
    | none =>
      have := List.getElem?_eq_none_iff.mp e
      rw [wipe_length] at this
      omega
    | some o =>
      cases o with
      | none => rfl
      | some x => exact absurd hi (wipe_some e).2
  have hl : σ'.length = σ.length := by rw [h.1, wipe_length]
  refine List.ext_getElem? fun i => ?_
  by_cases hi : i ∈ vs
  · by_cases hlt : i < σ.length
    · rw [wi σ' i hi (by omega), wi σ i hi hlt]
    · rw [List.getElem?_eq_none (by rw [wipe_length]; omega), List.getElem?_eq_none (by rw [wipe_length]; omega)]
  · rw [wipe_out hi, h.2 i fun z => hi (hs i z)]
end
section
variable {X : Cx} {C : Cq}
/-- no error leaves -/
abbrev Cq.mute (C : Cq) : Cq := { C with W := fun _ _ _ _ => False }
theorem Pst.nx {σ : L2.St} {H0 Hf : Hp} {α : Type} {r : R (α × En)} {k : α → En → Hp → Hp → Prop} (h : Pst C σ H0 Hf r.nx k) : Pst C.mute σ H0 Hf r k := by
  match r, h with
  | .ok (a, e), h => exact h
  | .ex x e, h => exact h.elim
  | .bad, h => exact h.elim
theorem lcLoop_cons (own : List Nat) (t : T) (c : En → R (Bool × En)) (f : En → R (Ld × En)) (d : D) (ds acc : List D) (env : En) : lcLoop own t c f (d :: ds) acc env = match asg t [d] env with
    | none => .bad
    | some e1 => (c e1).bind fun (b, e2) => if b then (f e2).bind fun (l, e3) => (match stab l with
        | some y => lcLoop own t c f ds (acc ++ [y]) (wipeE e3 own)
        | none => .bad) else lcLoop own t c f ds acc (wipeE e2 own) := rfl
theorem lc_read {own : List Nat} {t : T} {fi : En → R (List D × En)} {ft : En → R (Bool × En)} {fe : En → R (Ld × En)} {σ : L2.St} {H : Hp} {Q : VK} (h : rdV C (doLc own t fi ft fe) σ H Q) :
    tLc (rdI C fi) (gD C.mute t) (rdT C.mute ft) (rdV C.mute fe) own σ H Q := by
  obtain ⟨env, H0, Hf, s, h⟩ := h
  refine ⟨env, H0, Hf, s, (Pst.bind h).imp fun ds e H1 H2 s1 m1 h => ?_⟩
  intro J Y DD hD
  simp only at h
  by_cases hcon : ¬ (ds.length ≤ sizeLine ∧ t.slots.all (fun i => own.contains i) = true ∧ own.all (fun i => isUn (e.getD i .un)) = true)
  · rw [if_neg hcon] at h; exact h.elim
  have hcond := Classical.not_not.mp hcon
  rw [if_pos hcond] at h
  obtain ⟨hz, hsl, hun⟩ := hcond
  have hsl' : ∀ i ∈ t.slots, i ∈ own := fun i hi => by
    have := List.all_eq_true.mp hsl i hi
    exact List.contains_iff_mem.mp this
  have hun' : ∀ i ∈ own, isUn (e.getD i .un) = true := fun i hi => List.all_eq_true.mp hun i hi
  have hf : Hf DD = none := s1.fs.free hD
  obtain ⟨gt, hgt⟩ : ∃ g, g = (fun e => (ft e).nx) := ⟨_, rfl⟩
  obtain ⟨ge, hge⟩ : ∃ g, g = (fun e => (fe e).nx) := ⟨_, rfl⟩
  rw [← hgt, ← hge] at h
  generalize hrr : lcLoop own t gt ge ds [] (wipeE e own) = rr at h
  refine ⟨fun i m H' => ∃ H0' env' accV acc, m = ds.length - i ∧ i ≤ ds.length ∧ SR C.K env' (L2.wipe σ own) H0' (upd Hf DD (.lst accV)) H' ∧ Same H1 H0' ∧ RepL C.K H0' accV acc ∧ acc.length ≤ i ∧
    lcLoop own t gt ge (ds.drop i) acc env' = rr,
    ⟨ds.length, H1, wipeE e own, [], [], by simp, Nat.zero_le _, (s1.wipe own).laid hD, .refl _, .nil, Nat.zero_le _, hrr⟩, ?_⟩
  rintro i m H' ⟨H0', env', accV, acc, rfl, hle, s', m', ra, hacc, hl⟩
  by_cases hlt : i < ds.length
  · right
    refine ⟨Y.1 i H0' H' m' s'.zs hlt, fun H'' => ∃ H0' env' accV acc, SR C.K env' (L2.wipe σ own) H0' (upd Hf DD (.lst accV)) H'' ∧ Same H1 H0' ∧ RepL C.K H0' accV acc ∧ acc.length ≤ i + 1 ∧
      lcLoop own t gt ge (ds.drop (i + 1)) acc env' = rr, fun H'' ⟨a1, a2, a3, a4, b1, b2, b3, b4, b5⟩ => ⟨ds.length - (i + 1), by omega, a1, a2, a3, a4, rfl, hlt, b1, b2, b3, b4, b5⟩, fun x H'' y => ?_⟩
    have hd : ds.drop i = ds[i] :: ds.drop (i + 1) := List.drop_eq_getElem_cons hlt
    obtain ⟨Ha, ga, rx⟩ := Y.2.2 i H0' H' x H'' m' s'.zs y ds[i] (List.getElem?_eq_getElem hlt)
    have sa := s'.gr ga
    have ma : Same H1 Ha := m'.trans ga.z
    rw [hd, lcLoop_cons] at hl
    cases ea : asg t [ds[i]] env' with
    | none => rw [ea] at hl; rw [← hl] at h; exact h.elim
    | some e1 =>
      rw [ea] at hl
      simp only at hl
      refine ⟨env', Ha, upd Hf DD (.lst accV), ds[i], e1, sa, rx, ea, fun σ2 hb s2 => ⟨wipe_but hb hsl', ?_⟩⟩
      have hw : L2.wipe σ2 own = L2.wipe σ own := wipe_but hb hsl'
      have hgt1 : gt e1 = (ft e1).nx := by rw [hgt]
      rw [hgt1] at hl
      cases eb : ft e1 with
      | bad => rw [eb] at hl; rw [← hl] at h; exact h.elim
      | ex x e' => rw [eb] at hl; rw [← hl] at h; exact h.elim
      | ok pb =>
        obtain ⟨k, e2⟩ := pb
        refine ⟨e1, Ha, upd Hf DD (.lst accV), s2, ?_⟩
        rw [eb] at hl ⊢
        intro Hb H3 s3 m3
        cases k with
        | false =>
          have hl : lcLoop own t gt ge (ds.drop (i + 1)) acc (wipeE e2 own) = rr := hl
          have := s3.wipe own
          rw [hw] at this
          exact ⟨Hb, wipeE e2 own, accV, acc, this, ma.trans m3, ra.mono (ga.z.trans m3), by omega, hl⟩
        | true =>
          have hge1 : ge e2 = (fe e2).nx := by rw [hge]
          have hl : ((ge e2).bind fun x => match stab x.1 with | some y => lcLoop own t gt ge (ds.drop (i + 1)) (acc ++ [y]) (wipeE x.2 own) | none => .bad) = rr := hl
          rw [hge1] at hl
          refine ⟨e2, Hb, upd Hf DD (.lst accV), s3, ?_⟩
          cases ec : fe e2 with
          | bad => rw [ec] at hl; rw [← hl] at h; exact h.elim
          | ex x e' => rw [ec] at hl; rw [← hl] at h; exact h.elim
          | ok pc =>
            obtain ⟨l, e3⟩ := pc
            rw [ec] at hl
            have hl : (match stab l with | some y => lcLoop own t gt ge (ds.drop (i + 1)) (acc ++ [y]) (wipeE e3 own) | none => .bad) = rr := hl
            intro Hc H4 s4 m4 yv ry
            cases ed : stab l with
            | none => rw [ed] at hl; rw [← hl] at h; exact h.elim
            | some yd =>
              rw [ed] at hl
              obtain ⟨Hd, s5, m5, r5⟩ := LdR.stab s4 ry ed
              have hlen := ra.length
              refine ⟨accV, s5.fs _ _ upd_same, by omega, Hd, wipeE e3 own, accV ++ [yv], acc ++ [yd], ?_, ma.trans (m3.trans (m4.trans m5)), (ra.mono (ga.z.trans (m3.trans (m4.trans m5)))).append (.cons r5 .nil), by rw [List.length_append]; show _ + 1 ≤ _; omega, hl⟩
              have := (s5.held (o' := .lst (accV ++ [yv])) hf).wipe own
              rw [hw] at this
              exact this
  · left
    have ei : i = ds.length := by omega
    subst ei
    refine ⟨Y.2.1 H0' H' m' s'.zs, ?_⟩
    rw [List.drop_length] at hl
    rw [← hl] at h
    obtain ⟨s6, r6⟩ := s'.unlaid (d := .lst acc) hf ra
    have s7 := SR.unwipe s1 hun' m' s6
    refine h H0' H' s7 m' (.ref DD) ?_
    obtain ⟨p, o, e1, e2, e3, e4, e5, e6⟩ := r6
    refine ⟨p, o, e1, e2, e3, e4, e5, fun j d q z => ?_⟩
    unfold FR.unwipe at q
    rw [List.getElem?_mapIdx] at q
    obtain ⟨t', q1, q2⟩ := Option.map_eq_some_iff.mp q
    by_cases hj : j ∈ own
    · rw [if_pos hj] at q2
      have := hun' j hj
      rw [q2] at this
      cases this
    · rw [if_neg hj] at q2
      subst q2
      exact e6 j d q1 (by rw [wipe_out hj]; exact z)
theorem d_lc {elt tg iter : Expr} {ifs : List Expr} {scope : Scope} {ow : List (Str × Nat)} {own : List Nat} {pos : Pos} {t : T} {fi : En → R (List D × En)} {ft : En → R (Bool × En)} {fe : En → R (Ld × En)} (how : ow.map (·.2) = own)
    (hc : X.calm = true) (hN : X.N.Nodup) (hi : PI X tg iter (rdI C fi)) (ok : BlkOk X.N X.env.scope scope ow)
    (hg : ∀ (s : Shared) (H : Hp) (D : Addr) (cl : List (Str × Addr)) (fp : List Addr), PG (X.blk s H scope (compEnvC scope cl D X.env) fp) tg (gD C.mute t))
    (ht : ∀ (s : Shared) (H : Hp) (D : Addr) (cl : List (Str × Addr)) (fp : List Addr), PTs (X.blk s H scope (compEnvC scope cl D X.env) fp) ifs (rdT C.mute ft))
    (he : ∀ (s : Shared) (H : Hp) (D : Addr) (cl : List (Str × Addr)) (fp : List Addr), PE (X.blk s H scope (compEnvC scope cl D X.env) fp) elt (rdV C.mute fe)) (hs : ∀ x, foldedSetIterable iter X.env x = pure x) :
    PE X (.ListComp elt [⟨tg, iter, ifs, 0⟩] scope pos) (rdV C (doLc own t fi ft fe)) := by
  refine PE.weak (pe_lc hc hN hi ok hg ht he hs) fun σ H Q h => ?_
  rw [how]
  exact lc_read h
end
end FR
set_option Elab.async false
set_option linter.all false
set_option autoImplicit false
set_option maxRecDepth 100000
/-! FR8: a def's promise over data, its call -/
namespace FR
open PySem PySem.Spec PyProof.Rows L2

def refs : List Bool → List V → List Addr
  | true :: ms, .ref p :: vs => p :: refs ms vs
  | _ :: ms, _ :: vs => refs ms vs
  | _, _ => []
inductive ArgR (K : PySem.W.Frag) (H0 H : Hp) : List Bool → List V → List D → Prop
  | nil : ArgR K H0 H [] [] []
  | val {v : V} {d : D} {ms : List Bool} {vs : List V} {ds : List D} : Rep K H0 v d → ArgR K H0 H ms vs ds → ArgR K H0 H (false :: ms) (v :: vs) (d :: ds)
  | ref {p : Addr} {o : HO} {d : D} {ms : List Bool} {vs : List V} {ds : List D} : H p = some o → ObR K H0 o d → H0 p = none → p ∉ refs ms vs → ArgR K H0 H ms vs ds → ArgR K H0 H (true :: ms) (.ref p :: vs) (d :: ds)
inductive OutR (K : PySem.W.Frag) (H0 H : Hp) : List Bool → List V → List D → Prop
  | nil : OutR K H0 H [] [] []
  | val {v : V} {ms : List Bool} {vs : List V} {ds : List D} : OutR K H0 H ms vs ds → OutR K H0 H (false :: ms) (v :: vs) ds
  | ref {p : Addr} {o : HO} {d : D} {ms : List Bool} {vs : List V} {ds : List D} : H p = some o → ObR K H0 o d → H0 p = none → OutR K H0 H ms vs ds → OutR K H0 H (true :: ms) (.ref p :: vs) (d :: ds)
def RetR (K : PySem.W.Frag) (ro : Bool) (H0 Hf H : Hp) (rs : List Addr) (v : V) (d : D) : Prop :=
  if ro = true then ∃ p o, v = .ref p ∧ H p = some o ∧ ObR K H0 o d ∧ H0 p = none ∧ Hf p = none ∧ p ∉ rs else Rep K H0 v d
def PostF (C : Cq) (F : Fn) (vs : List V) (H0 Hf : Hp) (Q : VK) (E : XK) : R1 → Prop
  | .ok d outs => ∀ v H0' H', Same H0 H0' → Same H0' H' → Same Hf H' → (∀ p, H0' p = none ∨ Hf p = none) → OutR C.K H0' H' F.md vs outs → RetR C.K F.ro H0' Hf H' (refs F.md vs) v d → Q v H'
  | .ex x outs => ∀ cls dd H0' H', Same H0 H0' → Same H0' H' → Same Hf H' → (∀ p, H0' p = none ∨ Hf p = none) → OutR C.K H0' H' F.md vs outs → C.XR x H0' H' cls dd → E cls dd H'
  | .bad => False
def spF (C : Cq) (F : Fn) : Sp := fun vs H Q E => ∃ H0 Hf ds, Same H0 H ∧ Same Hf H ∧ (∀ p, H0 p = none ∨ Hf p = none) ∧ (∀ p ∈ refs F.md vs, Hf p = none) ∧ ArgR C.K H0 H F.md vs ds ∧ PostF C F vs H0 Hf Q E (F.run ds)
theorem ArgR.len {K : PySem.W.Frag} {H0 H : Hp} : ∀ {ms : List Bool} {vs : List V} {ds : List D}, ArgR K H0 H ms vs ds → vs.length = ms.length
  | _, _, _, .nil => rfl
  | _, _, _, .val _ a => congrArg (· + 1) a.len
  | _, _, _, .ref _ _ _ _ a => congrArg (· + 1) a.len
theorem ArgR.mono {K : PySem.W.Frag} {H0 H0' H : Hp} (s : Same H0 H0') : ∀ {ms : List Bool} {vs : List V} {ds : List D}, (∀ p ∈ refs ms vs, H0' p = none) → ArgR K H0 H ms vs ds → ArgR K H0' H ms vs ds
  | _, _, _, _, .nil => .nil
  | _, _, _, n, .val a b => .val (a.mono s) (ArgR.mono s (fun p hp => n p (by unfold refs; exact hp)) b)
  | _, _, _, n, .ref a b c d e => .ref a (b.mono s) (n _ (by unfold refs; exact List.mem_cons_self)) d (ArgR.mono s (fun p hp => n p (by unfold refs; exact List.mem_cons_of_mem _ hp)) e)
section
variable {K : PySem.W.Frag} {env : En} {σ : L2.St} {H0 Hf H : Hp}
theorem LdRs.frsAt : ∀ {vs : List V} {ls : List Ld} {w : V} {d : D}, LdRs K env σ H0 Hf H vs ls → (w, Ld.frs d) ∈ vs.zip ls → LdR K env σ H0 Hf H w (.frs d)
  | _, _, _, _, .nil, z => by simp at z
  | _, _, w, d, .cons a b c, z => by
    rw [List.zip_cons_cons, List.mem_cons] at z
    rcases z with z | z
    · cases z; exact a
    · exact c.frsAt z
theorem SR.frz1 (s : SR K env σ H0 Hf H) {p : Addr} {o : HO} {d : D} (q1 : H p = some o) (q2 : ObR K H0 o d) (q3 : H0 p = none) (q4 : Hf p = none) (q5 : ∀ (i : Nat) (e : D), env[i]? = some (.own e) → σ[i]? ≠ some (some (.ref p))) :
    SR K env σ (upd H0 p o) Hf H ∧ Same H0 (upd H0 p o) ∧ Rep K (upd H0 p o) (.ref p) d := by
  have sm : Same H0 (upd H0 p o) := fun b x q => by rw [upd_ne (ne_of_none q q3)]; exact q
  refine ⟨⟨fun b x q => ?_, s.fs, fun q => ?_, fun i t q => ?_, s.un, s.len⟩, sm, ObR.rep upd_same (q2.mono sm)⟩
  · by_cases hb : b = p
    · subst hb; rw [upd_same] at q; cases q; exact q1
    · rw [upd_ne hb] at q; exact s.zs _ _ q
  · by_cases hb : q = p
    · subst hb; exact .inr q4
    · rw [upd_ne hb]; exact s.dj q
  · obtain ⟨w, h1, h2⟩ := s.sl i t q
    refine ⟨w, h1, ?_⟩
    cases t with
    | un => trivial
    | val d => obtain ⟨v, a, b⟩ := h2; exact ⟨v, a, b.mono sm⟩
    | own d =>
      obtain ⟨p', ob, a1, a2, a3, a4, a5⟩ := h2
      refine ⟨p', ob, a1, a2, a3.mono sm, ?_, a5⟩
      rw [upd_ne]
      · exact a4
      · rintro rfl
        exact q5 i d q (by rw [h1, a1])
theorem args_ok : ∀ {md : List Bool} {vs : List V} {ls : List Ld} {ds : List D}, SR K env σ H0 Hf H → LdRs K env σ H0 Hf H vs ls → argsD env md ls = some ds → (cels md ls).Nodup →
    ∃ H0', SR K env σ H0' Hf H ∧ Same H0 H0' ∧ ArgR K H0' H md vs ds ∧ (∀ q, H0' q ≠ none → H0 q ≠ none ∨ ∃ w d', (w, Ld.frs d') ∈ vs.zip ls ∧ w = .ref q) ∧
      (∀ q ∈ refs md vs, Hf q = none ∧ ((∃ i ∈ cels md ls, σ[i]? = some (some (.ref q)) ∧ ∃ d, env[i]? = some (.own d)) ∨ ∃ w d', (w, Ld.frs d') ∈ vs.zip ls ∧ w = .ref q))
  | [], _, _, _, s, .nil, e, _ => by cases e; exact ⟨H0, s, .refl _, .nil, fun q h => .inl h, fun q h => by simp [refs] at h⟩
  | [], _, _, _, s, .cons _ _ _, e, _ => by cases e
  | _ :: _, _, _, _, s, .nil, e, _ => by cases e
  | m :: md, _, _, ds, s, .cons (v := v) (l := l) (vs := vs) (ls := ls) a b c, e, hn => by
    obtain ⟨d, e1, e2⟩ := Option.bind_eq_some_iff.mp e
    obtain ⟨ds', e3, rfl⟩ := Option.map_eq_some_iff.mp e2
    have hn' : (cels md ls).Nodup := by
      cases m <;> cases l <;> first | exact hn | (exact (List.nodup_cons.mp hn).2)
    obtain ⟨H1, s1, m1, r1, n1, f1⟩ := args_ok s c e3 hn'
    have none1 : ∀ p d', l = .frs d' → v = .ref p → H0 p = none → H1 p = none := fun p d' el ev h0 => by
      cases z : H1 p with
      | none => rfl
      | some x =>
        rcases n1 p (by rw [z]; simp) with y | ⟨w, d2, y1, y2⟩
        · exact absurd h0 y
        · exact absurd y2 (b p d' el ev w d2 y1)
    have later : ∀ {q : Addr}, (∃ w d', (w, Ld.frs d') ∈ vs.zip ls ∧ w = V.ref q) → ∃ w d', (w, Ld.frs d') ∈ (v :: vs).zip (l :: ls) ∧ w = .ref q := fun ⟨w, d', z1, z2⟩ => ⟨w, d', List.mem_cons_of_mem _ z1, z2⟩
    have celm : ∀ {i : Nat}, i ∈ cels md ls → i ∈ cels (m :: md) (l :: ls) := fun {i} hi => by
      cases m <;> cases l <;> first | exact hi | exact List.mem_cons_of_mem _ hi
    cases m with
    | false =>
      have fr : ∀ q ∈ refs (false :: md) (v :: vs), q ∈ refs md vs := fun q hq => by unfold refs at hq; exact hq
      cases l with
      | cel i => cases e1
      | dat d' =>
        cases e1
        refine ⟨H1, s1, m1, .val (Rep.mono m1 a) r1, fun q h => (n1 q h).imp id later, fun q hq => ?_⟩
        obtain ⟨z1, z2⟩ := f1 q (fr q hq)
        exact ⟨z1, z2.imp (fun ⟨i, hi, h⟩ => ⟨i, celm hi, h⟩) later⟩
      | frs d' =>
        cases e1
        obtain ⟨p, o, rfl, q1, q2, q3, q4, q5⟩ := a
        have h1p := none1 p _ rfl rfl q3
        obtain ⟨s2, sm, rp⟩ := s1.frz1 q1 (q2.mono m1) h1p q4 q5
        have np : ∀ q ∈ refs md vs, q ≠ p := fun q hq z => by
          subst z
          rcases (f1 q hq).2 with ⟨i, hi, h, dd, he⟩ | ⟨w, d2, y1, y2⟩
          · exact q5 i dd he h
          · exact b q _ rfl rfl w d2 y1 y2
        refine ⟨upd H1 p o, s2, m1.trans sm, .val rp (r1.mono sm fun q hq => ?_), fun q h => ?_, fun q hq => ?_⟩
        · rw [upd_ne (np q hq)]
          have : ∀ {ms : List Bool} {vs : List V} {ds : List D}, ArgR K H1 H ms vs ds → q ∈ refs ms vs → H1 q = none := by
            intro ms vs ds hh
            induction hh with
            | nil => intro z; simp [refs] at z
            | val _ _ ih => intro z; exact ih (by unfold refs at z; exact z)
            | ref _ _ a _ _ ih =>
              intro z
              unfold refs at z
              rcases List.mem_cons.mp z with z | z
              · rw [z]; exact a
              · exact ih z
          exact this r1 hq
        · by_cases hq : q = p
          · subst hq; exact .inr ⟨.ref q, _, List.mem_cons_self, rfl⟩
          · rw [upd_ne hq] at h
            exact (n1 q h).imp id later
        · obtain ⟨z1, z2⟩ := f1 q (fr q hq)
          exact ⟨z1, z2.imp (fun ⟨i, hi, h⟩ => ⟨i, celm hi, h⟩) later⟩
    | true =>
      cases l with
      | dat d' => cases e1
      | cel i =>
        obtain ⟨h1, dd, h2⟩ := a
        have e1 : ownOf env[i]? = some d := e1
        rw [h2] at e1
        cases e1
        obtain ⟨w, k1, p, ob, k2, k3, k4, k5, k6⟩ := s1.sl i _ h2
        rw [h1] at k1; cases k1; cases k2
        have hi : i ∉ cels md ls := (List.nodup_cons.mp hn).1
        have np : p ∉ refs md vs := fun hq => by
          rcases (f1 p hq).2 with ⟨j, hj, h, d3, he⟩ | ⟨w, d2, y1, y2⟩
          · exact hi (s.un i j p _ _ h2 he h1 h ▸ hj)
          · subst y2
            obtain ⟨p', o', z1, z2, z3, z4, z5, z6⟩ := c.frsAt y1
            cases z1
            exact z6 i _ h2 h1
        refine ⟨H1, s1, m1, .ref k3 k4 k5 np r1, fun q h => (n1 q h).imp id later, fun q hq => ?_⟩
        unfold refs at hq
        rcases List.mem_cons.mp hq with rfl | hq
        · exact ⟨k6, .inl ⟨i, List.mem_cons_self, h1, _, h2⟩⟩
        · obtain ⟨z1, z2⟩ := f1 q hq
          exact ⟨z1, z2.imp (fun ⟨i, hi, h⟩ => ⟨i, celm hi, h⟩) later⟩
      | frs d' =>
        cases e1
        obtain ⟨p, o, rfl, q1, q2, q3, q4, q5⟩ := a
        have h1p := none1 p _ rfl rfl q3
        have np : p ∉ refs md vs := fun hq => by
          rcases (f1 p hq).2 with ⟨i, hi, h, dd, he⟩ | ⟨w, d2, y1, y2⟩
          · exact q5 i dd he h
          · exact b p _ rfl rfl w d2 y1 y2
        refine ⟨H1, s1, m1, .ref q1 (q2.mono m1) h1p np r1, fun q h => (n1 q h).imp id later, fun q hq => ?_⟩
        unfold refs at hq
        rcases List.mem_cons.mp hq with rfl | hq
        · exact ⟨q4, .inr ⟨_, _, List.mem_cons_self, rfl⟩⟩
        · obtain ⟨z1, z2⟩ := f1 q hq
          exact ⟨z1, z2.imp (fun ⟨i, hi, h⟩ => ⟨i, celm hi, h⟩) later⟩
/-- the state, but what owned slots at L bear -/
structure SRx (K : PySem.W.Frag) (env : En) (σ : L2.St) (H0 Hf H : Hp) (L : List Addr) : Prop where
  zs : Same H0 H
  fs : Same Hf H
  dj : ∀ p, H0 p = none ∨ Hf p = none
  sl : ∀ (i : Nat) (t : Slot), env[i]? = some t → ∃ o, σ[i]? = some o ∧ (SlotR K H0 Hf H t o ∨ ∃ d p, t = .own d ∧ o = some (.ref p) ∧ p ∈ L ∧ H0 p = none ∧ Hf p = none)
  un : ∀ (i j : Nat) (p : Addr) (d e : D), env[i]? = some (.own d) → env[j]? = some (.own e) → σ[i]? = some (some (.ref p)) → σ[j]? = some (some (.ref p)) → i = j
  len : env.length = σ.length
theorem SRx.sr (s : SRx K env σ H0 Hf H []) : SR K env σ H0 Hf H := by
  refine ⟨s.zs, s.fs, s.dj, fun i t e => ?_, s.un, s.len⟩
  obtain ⟨o, h1, h2 | ⟨d, p, _, _, h, _⟩⟩ := s.sl i t e
  · exact ⟨o, h1, h2⟩
  · cases h
theorem outs_ok {md : List Bool} {vs : List V} {outs : List D} (o : OutR K H0 H md vs outs) : ∀ {ls : List Ld} {env env' : En}, SRx K env σ H0 Hf H (refs md vs) → setOuts env md ls outs = some env' →
    (∀ i ∈ cels md ls, ∃ d, env[i]? = some (.own d)) → (cels md ls).Nodup → (∀ p ∈ refs md vs, Hf p = none) → vs.length = ls.length →
    (∀ (k : Nat) v i, vs[k]? = some v → ls[k]? = some (.cel i) → σ[i]? = some (some v)) → (∀ v d, (v, Ld.frs d) ∈ vs.zip ls → ∀ (i : Nat) e, env[i]? = some (.own e) → σ[i]? ≠ some (some v)) → (refs md vs).Nodup → SR K env' σ H0 Hf H := by
  induction o with
  | nil =>
    intro ls env env' s e _ _ _ _ _ _ _
    cases ls with
    | nil => cases e; exact s.sr
    | cons _ _ => cases e
  | @val v md vs outs o ih =>
    intro ls env env' s e hc hn hr hl hσ hf hnd
    cases ls with
    | nil => cases hl
    | cons l ls =>
      have e : setOuts env md ls outs = some env' := by
        cases outs <;> cases l <;> exact e
      have cs : ∀ i ∈ cels md ls, i ∈ cels (false :: md) (l :: ls) := fun i hi => by cases l <;> exact hi
      have rr : refs (false :: md) (v :: vs) = refs md vs := rfl
      rw [rr] at s hr hnd
      have hn' : (cels md ls).Nodup := by cases l <;> exact hn
      exact ih s e (fun i hi => hc i (cs i hi)) hn' hr (Nat.succ.inj hl) (fun k v i h1 h2 => hσ (k + 1) v i h1 h2) (fun v d hv => hf v d (List.mem_cons_of_mem _ hv)) hnd
  | @ref p ob d md vs outs a b c o ih =>
    intro ls env env' s e hc hn hr hl hσ hf hnd
    cases ls with
    | nil => cases hl
    | cons l ls =>
      cases l with
      | dat _ => cases e
      | frs d' =>
        have e : setOuts env md ls outs = some env' := e
        have hf0 := hf (.ref p) d' List.mem_cons_self
        refine ih ⟨s.zs, s.fs, s.dj, fun i t q => ?_, s.un, s.len⟩ e hc hn (fun q hq => hr q (List.mem_cons_of_mem _ hq)) (Nat.succ.inj hl) (fun k v i h1 h2 => hσ (k + 1) v i h1 h2) (fun v d hv => hf v d (List.mem_cons_of_mem _ hv)) (List.nodup_cons.mp hnd).2
        obtain ⟨w, h1, h2 | ⟨d, p', rfl, rfl, h, h3⟩⟩ := s.sl i t q
        · exact ⟨w, h1, .inl h2⟩
        · refine ⟨_, h1, .inr ⟨d, p', rfl, rfl, ?_, h3⟩⟩
          have h : p' ∈ p :: refs md vs := h
          rcases List.mem_cons.mp h with rfl | h
          · exact absurd h1 (hf0 i d q)
          · exact h
      | cel i =>
        have e : setOuts (env.set i (.own d)) md ls outs = some env' := e
        obtain ⟨hi, hn'⟩ := List.nodup_cons.mp (show (i :: cels md ls).Nodup from hn)
        obtain ⟨d0, ei⟩ := hc i List.mem_cons_self
        have hs : σ[i]? = some (some (.ref p)) := hσ 0 _ i rfl rfl
        have hil := getElem?_lt ei
        have hfp : Hf p = none := hr p List.mem_cons_self
        refine ih ⟨s.zs, s.fs, s.dj, fun j t q => ?_, fun j k q x y e1 e2 e3 e4 => ?_, by rw [List.length_set]; exact s.len⟩ e (fun j hj => ?_) hn' (fun q hq => hr q (List.mem_cons_of_mem _ hq)) (Nat.succ.inj hl) (fun k v i h1 h2 => hσ (k + 1) v i h1 h2) (fun v d' hv j e' q => ?_) (List.nodup_cons.mp hnd).2
        · by_cases hj : j = i
          · subst hj
            rw [List.getElem?_set_self hil] at q
            cases q
            exact ⟨_, hs, .inl ⟨p, ob, rfl, a, b, c, hfp⟩⟩
          · rw [List.getElem?_set_ne (Ne.symm hj)] at q
            obtain ⟨w, h1, h2 | ⟨d', p', rfl, rfl, h, h3⟩⟩ := s.sl j t q
            · exact ⟨w, h1, .inl h2⟩
            · refine ⟨_, h1, .inr ⟨d', p', rfl, rfl, ?_, h3⟩⟩
              have h : p' ∈ p :: refs md vs := h
              rcases List.mem_cons.mp h with rfl | h
              · exact absurd (s.un j i p' _ _ q ei h1 hs) hj
              · exact h
        · have g : ∀ (j : Nat) x, (env.set i (.own d))[j]? = some (.own x) → ∃ z, env[j]? = some (.own z) := fun j x q => by
            by_cases hj : j = i
            · subst hj; exact ⟨d0, ei⟩
            · rw [List.getElem?_set_ne (Ne.symm hj)] at q; exact ⟨x, q⟩
          obtain ⟨x', e1⟩ := g j x e1
          obtain ⟨y', e2⟩ := g k y e2
          exact s.un j k q x' y' e1 e2 e3 e4
        · have hj' : j ≠ i := fun z => hi (z ▸ hj)
          rw [List.getElem?_set_ne (Ne.symm hj')]
          exact hc j (List.mem_cons_of_mem _ hj)
        · by_cases hj : j = i
          · subst hj
            exact hf v d' (List.mem_cons_of_mem _ hv) j d0 ei
          · rw [List.getElem?_set_ne (Ne.symm hj)] at q
            exact hf v d' (List.mem_cons_of_mem _ hv) j e' q
end

section
variable {K : PySem.W.Frag} {env : En} {σ : L2.St} {H0 Hf H : Hp}
theorem refs_nodup : ∀ {ms : List Bool} {vs : List V} {ds : List D}, ArgR K H0 H ms vs ds → (refs ms vs).Nodup
  | _, _, _, .nil => by simp [refs]
  | _, _, _, .val _ a => by unfold refs; exact refs_nodup a
  | _, _, _, .ref _ _ _ h a => by unfold refs; exact List.nodup_cons.mpr ⟨h, refs_nodup a⟩
theorem OutR.none : ∀ {ms : List Bool} {vs : List V} {ds : List D}, OutR K H0 H ms vs ds → ∀ p ∈ refs ms vs, H0 p = Option.none
  | _, _, _, .nil, p, h => by simp [refs] at h
  | _, _, _, .val a, p, h => by unfold refs at h; exact a.none p h
  | _, _, _, .ref _ _ c a, p, h => by
    unfold refs at h
    rcases List.mem_cons.mp h with rfl | h
    · exact c
    · exact a.none p h
theorem cels_own : ∀ {md : List Bool} {ls : List Ld} {ds : List D}, argsD env md ls = some ds → ∀ i ∈ cels md ls, ∃ d, env[i]? = some (.own d)
  | [], [], _, _, i, h => by simp [cels] at h
  | [], _ :: _, _, e, _, _ => by cases e
  | _ :: _, [], _, e, _, _ => by cases e
  | m :: md, l :: ls, ds, e, i, h => by
    obtain ⟨d, e1, e2⟩ := Option.bind_eq_some_iff.mp e
    obtain ⟨ds', e3, rfl⟩ := Option.map_eq_some_iff.mp e2
    cases l with
    | dat _ => cases m <;> exact cels_own e3 i h
    | frs _ => cases m <;> exact cels_own e3 i h
    | cel j =>
      cases m with
      | false => cases e1
      | true =>
        have h : i ∈ j :: cels md ls := h
        rcases List.mem_cons.mp h with rfl | h
        · exact ⟨d, ownOf_some e1⟩
        · exact cels_own e3 i h
theorem setOuts_own : ∀ {md : List Bool} {ls : List Ld} {outs : List D} {env env' : En}, setOuts env md ls outs = some env' → (∀ i ∈ cels md ls, ∃ d, env[i]? = some (.own d)) → ∀ (j : Nat) x, env'[j]? = some (.own x) → ∃ z, env[j]? = some (.own z)
  | [], [], [], _, _, e, _, j, x, q => by cases e; exact ⟨x, q⟩
  | [], [], _ :: _, _, _, e, _, _, _, _ => by cases e
  | [], _ :: _, _, _, _, e, _, _, _, _ => by cases e
  | true :: _, [], _, _, _, e, _, _, _, _ => by cases e
  | false :: _, [], _, _, _, e, _, _, _, _ => by cases e
  | true :: _, .dat _ :: _, _, _, _, e, _, _, _, _ => by cases e
  | true :: _, .cel _ :: _, [], _, _, e, _, _, _, _ => by cases e
  | true :: _, .frs _ :: _, [], _, _, e, _, _, _, _ => by cases e
  | true :: md, .frs _ :: ls, _ :: outs, env, env', e, h, j, x, q => setOuts_own (md := md) (ls := ls) (outs := outs) e h j x q
  | false :: md, l :: ls, outs, env, env', e, h, j, x, q => by
    have e : setOuts env md ls outs = some env' := by cases outs <;> cases l <;> exact e
    exact setOuts_own e (fun i hi => h i (by cases l <;> exact hi)) j x q
  | true :: md, .cel i :: ls, d :: outs, env, env', e, h, j, x, q => by
    obtain ⟨d0, ei⟩ := h i List.mem_cons_self
    have hil := getElem?_lt ei
    obtain ⟨z, hz⟩ := setOuts_own (md := md) (ls := ls) (outs := outs) (env := env.set i (.own d)) e (fun k hk => by
      by_cases hki : k = i
      · subst hki; exact ⟨d, List.getElem?_set_self hil⟩
      · rw [List.getElem?_set_ne (Ne.symm hki)]; exact h k (List.mem_cons_of_mem _ hk)) j x q
    by_cases hj : j = i
    · subst hj; exact ⟨d0, ei⟩
    · rw [List.getElem?_set_ne (Ne.symm hj)] at hz; exact ⟨z, hz⟩
theorem LdRs.len : ∀ {vs : List V} {ls : List Ld}, LdRs K env σ H0 Hf H vs ls → vs.length = ls.length
  | _, _, .nil => rfl
  | _, _, .cons _ _ c => congrArg (· + 1) c.len
theorem LdRs.celAt : ∀ {vs : List V} {ls : List Ld}, LdRs K env σ H0 Hf H vs ls → ∀ (k : Nat) v i, vs[k]? = some v → ls[k]? = some (.cel i) → σ[i]? = some (some v)
  | _, _, .nil, k, v, i, h, _ => by simp at h
  | _, _, .cons a b c, 0, v, i, h1, h2 => by
    simp at h1 h2
    subst h1 h2
    exact a.1
  | _, _, .cons a b c, k + 1, v, i, h1, h2 => c.celAt k v i (by simpa using h1) (by simpa using h2)
end
theorem call_ok {C : Cq} {F : Fn} {env : En} {σ : L2.St} {H0 Hf H : Hp} {vs : List V} {ls : List Ld} {Q : VK} (s : SR C.K env σ H0 Hf H) (r : LdRs C.K env σ H0 Hf H vs ls)
    (h : Pst C σ H0 Hf (doCall F ls env) fun l env' H0' H' => ∀ v, LdR C.K env' σ H0' Hf H' v l → Q v H') : spF C F vs H Q fun cls d H' => C.W cls d σ H' := by
  unfold doCall at h
  cases ea : argsD env F.md ls with
  | none => rw [ea] at h; exact h.elim
  | some ds =>
    rw [ea] at h
    simp only at h
    by_cases hnn : ¬ (cels F.md ls).Nodup
    · rw [if_neg hnn] at h; exact h.elim
    have hnd := Classical.not_not.mp hnn
    rw [if_pos hnd] at h
    obtain ⟨H1, s1, m1, r1, n1, f1⟩ := args_ok s r ea hnd
    have h := Pst.from m1 h
    obtain ⟨Hc, hHc⟩ : ∃ Hc : Hp, Hc = fun q => open Classical in if H1 q = none ∧ q ∉ refs F.md vs then H q else none := ⟨_, rfl⟩
    have cp : ∀ q x, H q = some x → H1 q = none → q ∉ refs F.md vs → Hc q = some x := fun q x e1 e2 e3 => by
      rw [hHc]
      simp only
      rw [if_pos ⟨e2, e3⟩]
      exact e1
    have cn : ∀ q, q ∈ refs F.md vs → Hc q = none := fun q hq => by
      rw [hHc]
      simp only
      rw [if_neg fun z => z.2 hq]
    have cs : Same Hc H := fun q x e => by
      rw [hHc] at e
      simp only at e
      split at e
      · exact e
      · cases e
    have cd : ∀ q, H1 q = none ∨ Hc q = none := fun q => by
      cases z : H1 q with
      | none => exact .inl rfl
      | some x =>
        right
        rw [hHc]
        simp only
        rw [if_neg]
        rintro ⟨y, _⟩
        rw [z] at y
        cases y
    have co := cels_own ea
    -- behind the call
    have back : ∀ H0' H' outs e, Same H1 H0' → Same H0' H' → Same Hc H' → (∀ p, H0' p = none ∨ Hc p = none) → OutR C.K H0' H' F.md vs outs → setOuts env F.md ls outs = some e → SR C.K e σ H0' Hf H' := by
      intro H0' H' outs e m2 z2 f2 d2 o2 es
      refine outs_ok o2 ⟨z2, fun q x e1 => ?_, fun q => ?_, fun i t q => ?_, s1.un, s1.len⟩ es co hnd (fun p hp => (f1 p hp).1) r.len r.celAt (fun v d hv i x q => ?_) (refs_nodup r1)
      · refine f2 _ _ (cp q x (s1.fs _ _ e1) ?_ fun hq => ?_)
        · rcases s1.dj q with z | z
          · exact z
          · rw [e1] at z; cases z
        · have := (f1 q hq).1; rw [e1] at this; cases this
      · cases e1 : Hf q with
        | none => exact .inr rfl
        | some x =>
          left
          have : Hc q = some x := cp q x (s1.fs _ _ e1) (by
            rcases s1.dj q with z | z
            · exact z
            · rw [e1] at z; cases z) fun hq => by have := (f1 q hq).1; rw [e1] at this; cases this
          rcases d2 q with z | z
          · exact z
          · rw [this] at z; cases z
      · obtain ⟨w, h1, h2⟩ := s1.sl i t q
        refine ⟨w, h1, ?_⟩
        cases t with
        | un => exact .inl trivial
        | val d => obtain ⟨v, a, b⟩ := h2; exact .inl ⟨v, a, b.mono m2⟩
        | own d =>
          obtain ⟨p, ob, rfl, a2, a3, a4, a5⟩ := h2
          by_cases hp : p ∈ refs F.md vs
          · exact .inr ⟨d, p, rfl, rfl, hp, o2.none p hp, a5⟩
          · have hc := cp p ob a2 a4 hp
            refine .inl ⟨p, ob, rfl, f2 _ _ hc, a3.mono m2, ?_, a5⟩
            rcases d2 p with z | z
            · exact z
            · rw [hc] at z; cases z
      · obtain ⟨p, ob, z1, z2, z3, z4, z5, z6⟩ := r.frsAt hv
        rw [z1]
        exact z6 i x q
    refine ⟨H1, Hc, ds, s1.zs, cs, cd, cn, r1, ?_⟩
    cases er : F.run ds with
    | bad => rw [er] at h; exact h.elim
    | ok d outs =>
      rw [er] at h
      simp only at h
      cases es : setOuts env F.md ls outs with
      | none => rw [es] at h; exact h.elim
      | some e =>
        rw [es] at h
        intro v H0' H' m2 z2 f2 d2 o2 ret
        have sr := back H0' H' outs e m2 z2 f2 d2 o2 es
        refine h H0' H' sr m2 v ?_
        unfold RetR at ret
        cases ero : F.ro with
        | false => rw [ero] at ret; exact ret
        | true =>
          rw [ero] at ret
          obtain ⟨p, o, rfl, q1, q2, q3, q4, q5⟩ := ret
          refine ⟨p, o, rfl, q1, q2, q3, ?_, fun j x hj hs => ?_⟩
          · cases e1 : Hf p with
            | none => rfl
            | some x =>
              have := cp p x (s1.fs _ _ e1) (by
                rcases s1.dj p with z | z
                · exact z
                · rw [e1] at z; cases z) q5
              rw [q4] at this
              cases this
          · obtain ⟨z, hz⟩ := setOuts_own es co j x hj
            obtain ⟨w, h1, p', ob, a1, a2, a3, a4, a5⟩ := s1.sl j _ hz
            rw [hs] at h1
            cases h1
            cases a1
            have := cp p ob a2 a4 q5
            rw [q4] at this
            cases this
    | ex x outs =>
      rw [er] at h
      simp only at h
      cases es : setOuts env F.md ls outs with
      | none => rw [es] at h; exact h.elim
      | some e =>
        rw [es] at h
        intro cls dd H0' H' m2 z2 f2 d2 o2 xr
        exact h cls dd H0' H' (back H0' H' outs e m2 z2 f2 d2 o2 es) m2 xr
section
variable {X : Cx} {C : Cq} {f : Addr} {fd : FuncData} {ps : List Str} {k : Nat} {x : Str} {p pos : Pos} {a : Expr} {es : List Expr} {fs : En → R (List Ld × En)} {F : Fn}
def callS (F : Fn) (fs : En → R (List Ld × En)) : En → R (Ld × En) := fun env => (fs env).bind fun (ls, e) => doCall F ls e
theorem d_call (G : FnOk X.prog X.w X.K X.mg X.base (L2.CX X.prog X.w) k f fd ps (spF C F)) (tk : Takes X C.W) (hr : Room k X.A) (hg : Gl X x) (hm : X.mg x = some (.ref f)) (hk : PySem.W.keepIn X.K (.ref f) = true) (hb : Binds X.K fd ps [])
    (ha : PA X (a :: es) (rdA C fs)) (hdb : (x == ("__debug__" : Str)) = false) (he : starEach (a :: es) X.env = (false, eval a X.env) :: starEach es X.env) (hpl : (backTo pos (starEach es X.env)).any (·.1) = false) :
    PE X (.Call (.Name x p) (a :: es) [] pos) (rdV C (callS F fs)) := by
  refine PE.weak (pe_callSD (E := fun σ cls d H => C.W cls d σ H) G hr hg hm hk hb .nil (fun σ => passAt tk σ) ha hdb he hpl) fun σ H Q ⟨env, H0, Hf, s, h⟩ => ?_
  refine ⟨env, H0, Hf, s, (Pst.bind h).imp fun ls e H0' H' s' m h => ?_⟩
  intro vs r
  rw [List.append_nil]
  exact call_ok s' r h
end
end FR
set_option Elab.async false
set_option linter.all false
set_option autoImplicit false
set_option maxRecDepth 100000
/-! FR9: statements over data -/
namespace FR
open PySem PySem.Spec PyProof.Rows L2

inductive Fk where
  | nx | rt (l : Ld) | bk | ct
/-- the slots of what came by reference still hold it -/
def PinOk (C : Cq) (σ : L2.St) : Prop := ∀ q ∈ C.pin, σ[q.1]? = some (some (.ref q.2))
theorem PinOk.but {C : Cq} {is : List Nat} {σ σ' : L2.St} (h : PinOk C σ) (b : ButAt is σ σ') (n : ∀ q ∈ C.pin, q.1 ∉ is) : PinOk C σ' := fun q hq => by rw [b.2 _ (n q hq)]; exact h q hq
theorem PinOk.set {C : Cq} {i : Nat} {σ : L2.St} {o : Option V} (h : PinOk C σ) (n : ∀ q ∈ C.pin, q.1 ≠ i) : PinOk C (σ.set i o) := fun q hq => by rw [List.getElem?_set_ne (Ne.symm (n q hq))]; exact h q hq
def PstS (C : Cq) (D : Ends) (H0 Hf : Hp) : R (Fk × En) → Prop
  | .ok (.nx, e) => ∀ σ' H0' H', PinOk C σ' → SR C.K e σ' H0' Hf H' → Same H0 H0' → D.nx σ' H'
  | .ok (.bk, e) => ∀ σ' H0' H', PinOk C σ' → SR C.K e σ' H0' Hf H' → Same H0 H0' → D.bk σ' H'
  | .ok (.ct, e) => ∀ σ' H0' H', PinOk C σ' → SR C.K e σ' H0' Hf H' → Same H0 H0' → D.ct σ' H'
  | .ok (.rt l, e) => ∀ v σ' H0' H', PinOk C σ' → SR C.K e σ' H0' Hf H' → Same H0 H0' → LdR C.K e σ' H0' Hf H' v l → D.rt v H'
  | .ex x e => ∀ cls d σ' H0' H', PinOk C σ' → SR C.K e σ' H0' Hf H' → Same H0 H0' → C.XR x H0' H' cls d → C.W cls d σ' H'
  | .bad => False
def rdS (C : Cq) (c : En → R (Fk × En)) : TS := fun D σ H => ∃ env H0 Hf, PinOk C σ ∧ SR C.K env σ H0 Hf H ∧ PstS C D H0 Hf (c env)
section
variable {C : Cq} {D D' : Ends} {H0 H0' Hf : Hp}
theorem PstS.from {r : R (Fk × En)} (s : Same H0 H0') (h : PstS C D H0 Hf r) : PstS C D H0' Hf r := by
  match r, h with
  | .ok (.nx, e), h => exact fun σ' H1 H' pk q m => h σ' H1 H' pk q (s.trans m)
  | .ok (.bk, e), h => exact fun σ' H1 H' pk q m => h σ' H1 H' pk q (s.trans m)
  | .ok (.ct, e), h => exact fun σ' H1 H' pk q m => h σ' H1 H' pk q (s.trans m)
  | .ok (.rt l, e), h => exact fun v σ' H1 H' pk q m => h v σ' H1 H' pk q (s.trans m)
  | .ex x e, h => exact fun cls d σ' H1 H' pk q m => h cls d σ' H1 H' pk q (s.trans m)
theorem PstS.bind {α : Type} {σ : L2.St} {r : R (α × En)} {f : α × En → R (Fk × En)} (pk : PinOk C σ) (h : PstS C D H0 Hf (r.bind f)) : Pst C σ H0 Hf r fun a e H0' _ => PstS C D H0' Hf (f (a, e)) := by
  match r, h with
  | .ok (a, env'), h => exact fun H0' H' s m => PstS.from m h
  | .ex x env', h => exact fun cls d H0' H' s m => h cls d σ H0' H' pk s m
end
section
variable {X : Cx} {C : Cq} {pos : Pos}
theorem PS.weak {st : Stmt} {t t' : TS} (h : PS X st t) (w : ∀ D σ H, t' D σ H → t D σ H) : PS X st t' := ⟨fun pn s sg H D I q => h.run pn s sg H D I (w D sg H q)⟩
theorem PSs.weak {st : List Stmt} {t t' : TS} (h : PSs X st t) (w : ∀ D σ H, t' D σ H → t D σ H) : PSs X st t' := ⟨fun pn s sg H D I q => h.run pn s sg H D I (w D sg H q)⟩
def seqS (f g : En → R (Fk × En)) : En → R (Fk × En) := fun env => (f env).bind fun (k, e) => match k with
  | .nx => g e
  | k => .ok (k, e)
def nxS : En → R (Fk × En) := fun env => .ok (.nx, env)
theorem s_nil : PSs X [] (rdS C nxS) := PSs.weak pss_nil fun D σ H ⟨env, H0, Hf, pk, s, h⟩ => h σ H0 H pk s (.refl _)
theorem s_cons {st : Stmt} {rest : List Stmt} {f g : En → R (Fk × En)} (h1 : PS X st (rdS C f)) (h2 : PSs X rest (rdS C g)) : PSs X (st :: rest) (rdS C (seqS f g)) :=
  PSs.weak (pss_cons h1 h2) fun D σ H ⟨env, H0, Hf, pk, s, h⟩ => ⟨env, H0, Hf, pk, s, by
    unfold seqS at h
    cases e : f env with
    | bad => rw [e] at h; exact h
    | ex x e' => rw [e] at h; exact h
    | ok p =>
      obtain ⟨k, e1⟩ := p
      rw [e] at h
      cases k with
      | nx => exact fun σ' H0' H' pk' s' m => ⟨e1, H0', Hf, pk', s', PstS.from m h⟩
      | rt l => exact h
      | bk => exact h
      | ct => exact h⟩
theorem s_pass : PS X (.Pass pos) (rdS C nxS) := PS.weak ps_pass fun D σ H ⟨env, H0, Hf, pk, s, h⟩ => h σ H0 H pk s (.refl _)
theorem s_break : PS X (.Break pos) (rdS C fun env => .ok (.bk, env)) := PS.weak ps_break fun D σ H ⟨env, H0, Hf, pk, s, h⟩ => h σ H0 H pk s (.refl _)
theorem s_cont : PS X (.Continue pos) (rdS C fun env => .ok (.ct, env)) := PS.weak ps_continue fun D σ H ⟨env, H0, Hf, pk, s, h⟩ => h σ H0 H pk s (.refl _)
def exS (fa : En → R (Ld × En)) : En → R (Fk × En) := fun env => (fa env).bind fun (_, e) => .ok (.nx, e)
theorem s_expr {e : Expr} {fa : En → R (Ld × En)} (h : PE X e (rdV C fa)) (hs : swapsWith e none pos.line X.env = pure false) : PS X (.Expr e pos) (rdS C (exS fa)) :=
  PS.weak (ps_expr h hs) fun D σ H ⟨env, H0, Hf, pk, s, h⟩ => ⟨env, H0, Hf, s, (PstS.bind pk h).imp fun l e H0' H' s' m h v r => h σ H0' H' pk s' (.refl _)⟩
/-- ro: whether a fresh thing is handed back -/
def retS (ro : Bool) (fa : En → R (Ld × En)) : En → R (Fk × En) := fun env => (fa env).bind fun (l, e) => if ro then (match l with
  | .frs d => .ok (.rt (.frs d), e)
  | _ => .bad) else match stab l with
  | some d => .ok (.rt (.dat d), e)
  | none => .bad
theorem s_ret {ro : Bool} {e : Expr} {fa : En → R (Ld × En)} (h : PE X e (rdV C fa)) : PS X (.Return (some e) pos) (rdS C (retS ro fa)) :=
  PS.weak (ps_ret h) fun D σ H ⟨env, H0, Hf, pk, s, h⟩ => ⟨env, H0, Hf, s, (PstS.bind pk h).imp fun l e H0' H' s' m h v r => by
    cases ro with
    | true =>
      cases l with
      | frs d => exact h v σ H0' H' pk s' (.refl _) r
      | _ => exact h.elim
    | false =>
      simp only at h
      cases c1 : stab l with
      | none => rw [c1] at h; exact h.elim
      | some d =>
        rw [c1] at h
        obtain ⟨H1, s1, m1, r1⟩ := LdR.stab s' r c1
        exact h v σ H1 H' pk s1 m1 r1⟩
theorem s_retN : PS X (.Return none pos) (rdS C fun env => .ok (.rt (.dat .non), env)) := PS.weak ps_retN fun D σ H ⟨env, H0, Hf, pk, s, h⟩ => h .non σ H0 H pk s (.refl _) .non
def iffS (f : En → R (Bool × En)) (g k : En → R (Fk × En)) : En → R (Fk × En) := fun env => (f env).bind fun (b, e) => if b then g e else k e
theorem s_if {c : Expr} {a b : List Stmt} {f : En → R (Bool × En)} {g k : En → R (Fk × En)} (hc : PT X c (rdT C f)) (ha : PSs X a (rdS C g)) (hb : PSs X b (rdS C k)) : PS X (.If c a b pos) (rdS C (iffS f g k)) :=
  PS.weak (ps_if hc ha hb) fun D σ H ⟨env, H0, Hf, pk, s, h⟩ => ⟨env, H0, Hf, s, (PstS.bind pk h).imp fun b e H0' H' s' m h => by
    cases b with
    | true => exact ⟨e, H0', Hf, pk, s', h⟩
    | false => exact ⟨e, H0', Hf, pk, s', h⟩⟩
/-! stores -/
def asgS (t : T) (fa : En → R (Ld × En)) : En → R (Fk × En) := fun env => (fa env).bind fun (l, e) => match stab l with
  | some d => (match asg t [d] e with
    | some e' => .ok (.nx, e')
    | none => .bad)
  | none => .bad
theorem asg_read {t : T} {fa : En → R (Ld × En)} {D : Ends} {σ : L2.St} {H : Hp} (np : ∀ q ∈ C.pin, q.1 ∉ t.slots) (h : rdS C (asgS t fa) D σ H) : tAsg (rdV C fa) (gD C t) D σ H := by
  obtain ⟨env, H0, Hf, pk, s, h⟩ := h
  refine ⟨env, H0, Hf, s, (PstS.bind pk h).imp fun l e H0' H' s' m h v r => ?_⟩
  simp only at h
  cases c1 : stab l with
  | none => rw [c1] at h; exact h.elim
  | some d =>
    rw [c1] at h
    simp only at h
    cases c2 : asg t [d] e with
    | none => rw [c2] at h; exact h.elim
    | some e' =>
      rw [c2] at h
      obtain ⟨H1, s1, m1, r1⟩ := LdR.stab s' r c1
      exact ⟨e, H1, Hf, d, e', s1, r1, c2, fun σ' bt s2 => h σ' H1 H' (pk.but bt np) s2 m1⟩
theorem s_asg {tg e : Expr} {t : T} {fa : En → R (Ld × En)} (np : ∀ q ∈ C.pin, q.1 ∉ t.slots) (he : PE X e (rdV C fa)) (hg : PG X tg (gD C t)) (hs : swapsWithSole [tg] e pos.line X.env = pure false) (hw : swappedStores [tg] e X.env = pure none)
    (h1 : (assignEach [tg] X.env).map (·.2) = [assign tg X.env]) : PS X (.Assign [tg] e pos) (rdS C (asgS t fa)) := PS.weak (ps_asg he hg hs hw h1) fun D σ H h => asg_read np h
/-- name = e; o: an owned thing -/
def setS (o : Bool) (i : Nat) (fa : En → R (Ld × En)) : En → R (Fk × En) := fun env => (fa env).bind fun (l, e) => if i < e.length then (if o then (match l with
    | .frs d => .ok (.nx, e.set i (.own d))
    | _ => .bad) else match stab l with
    | some d => .ok (.nx, e.set i (.val d))
    | none => .bad) else .bad
theorem set_read {o : Bool} {i : Nat} {fa : En → R (Ld × En)} {D : Ends} {σ : L2.St} {H : Hp} (np : ∀ q ∈ C.pin, q.1 ≠ i) (h : rdS C (setS o i fa) D σ H) : tAsg (rdV C fa) (gName i) D σ H := by
  obtain ⟨env, H0, Hf, pk, s, h⟩ := h
  refine ⟨env, H0, Hf, s, (PstS.bind pk h).imp fun l e H0' H' s' m h v r => ?_⟩
  simp only at h
  by_cases hi : i < e.length
  · rw [if_pos hi] at h
    cases o with
    | true =>
      cases l with
      | frs d => exact h _ H0' H' (pk.set np) (s'.putO hi r) (.refl _)
      | _ => exact h.elim
    | false =>
      have h : PstS C D H0' Hf (match stab l with | some d => .ok (.nx, e.set i (.val d)) | none => .bad) := h
      cases c1 : stab l with
      | none => rw [c1] at h; exact h.elim
      | some d =>
        rw [c1] at h
        obtain ⟨H1, s1, m1, r1⟩ := LdR.stab s' r c1
        exact h _ H1 H' (pk.set np) (s1.put hi r1) m1
  · rw [if_neg hi] at h; exact h.elim
theorem s_set {o : Bool} {i : Nat} {x : Str} {e : Expr} {pos' : Pos} {fa : En → R (Ld × En)} (np : ∀ q ∈ C.pin, q.1 ≠ i) (hN : X.N.Nodup) (hi : X.N[i]? = some x) (hx : Loc X.env.scope x) (he : PE X e (rdV C fa)) (hs : swapsWith e (some (.Name x pos')) pos.line X.env = pure false)
    (hf : X.fn x = true ∨ X.env.scope.names.lookup x = some .local) : PS X (.Assign [.Name x pos'] e pos) (rdS C (setS o i fa)) := PS.weak (ps_set hN hi hx he hs hf) fun D σ H h => set_read np h
theorem s_setLc {o : Bool} {i : Nat} {y : Str} {py : Pos} {elt tg iter : Expr} {ifs : List Expr} {scope : Scope} {ow : List (Str × Nat)} {own : List Nat} {cpos : Pos} {t : T} {fi : En → R (List FR.D × En)} {ft : En → R (Bool × En)} {fe : En → R (Ld × En)} (how : ow.map (·.2) = own) (np : ∀ q ∈ C.pin, q.1 ≠ i)
    (hc : X.calm = true) (hN : X.N.Nodup) (hy : X.N[i]? = some y) (hyl : X.env.scope.names.lookup y = some .local) (hsw : swapsWith (.ListComp elt [⟨tg, iter, ifs, 0⟩] scope cpos) (some (.Name y py)) pos.line X.env = pure true)
    (hi : PI X tg iter (rdI C fi)) (ok : BlkOk X.N X.env.scope scope ow)
    (hg : ∀ (s : Shared) (H : Hp) (D : Addr) (cl : List (Str × Addr)) (fp : List Addr), PG (X.blk s H scope (compEnvC scope cl D X.env) fp) tg (gD C.mute t))
    (ht : ∀ (s : Shared) (H : Hp) (D : Addr) (cl : List (Str × Addr)) (fp : List Addr), PTs (X.blk s H scope (compEnvC scope cl D X.env) fp) ifs (rdT C.mute ft))
    (he : ∀ (s : Shared) (H : Hp) (D : Addr) (cl : List (Str × Addr)) (fp : List Addr), PE (X.blk s H scope (compEnvC scope cl D X.env) fp) elt (rdV C.mute fe)) (hs : ∀ x, foldedSetIterable iter X.env x = pure x) :
    PS X (.Assign [.Name y py] (.ListComp elt [⟨tg, iter, ifs, 0⟩] scope cpos) pos) (rdS C (setS o i (doLc own t fi ft fe))) := by
  refine PS.weak (ps_setLc hc hN hy hyl hsw hi ok hg ht he hs) fun D σ H h => ?_
  rw [how]
  exact lc_read (set_read np h)
/-! a row of names = a row of values -/
def putL (e : En) : List (Bool × Nat) → List Ld → Option En
  | [], [] => some e
  | (o, i) :: ts, l :: ls => if i < e.length then (if o then (match l with
      | .frs d => putL (e.set i (.own d)) ts ls
      | _ => none) else match stab l with
      | some d => putL (e.set i (.val d)) ts ls
      | none => none) else none
  | _, _ => none
def parS (ts : List (Bool × Nat)) (fs : En → R (List Ld × En)) : En → R (Fk × En) := fun env => (fs env).bind fun (ls, e) => match putL e ts ls with
  | some e' => .ok (.nx, e')
  | none => .bad
def setV : L2.St → List (Bool × Nat) → List V → L2.St
  | σ, (_, i) :: ts, v :: vs => setV (σ.set i (some v)) ts vs
  | σ, _, _ => σ

theorem ldrs_put {K : PySem.W.Frag} {env : En} {σ : L2.St} {H0 H0' Hf H : Hp} {i : Nat} {v : V} {t : Slot} (m : Same H0 H0') (hi : i < env.length) (hl : env.length = σ.length) {vs : List V} {ls : List Ld} (r : LdRs K env σ H0 Hf H vs ls) :
    (∀ l ∈ ls, ∀ j, l ≠ .cel j) → (∀ w d p, (w, Ld.frs d) ∈ vs.zip ls → w = .ref p → H0' p = none) →
    (∀ w d p, (w, Ld.frs d) ∈ vs.zip ls → w = .ref p → v ≠ .ref p ∨ ∀ x, t ≠ .own x) → LdRs K (env.set i t) (σ.set i (some v)) H0' Hf H vs ls := by
  induction r with
  | nil => intro _ _ _; exact .nil
  | @cons u l vs ls a b c ih =>
    intro hc h0 hv
    refine .cons ?_ b (ih (fun l' hl' => hc l' (List.mem_cons_of_mem _ hl')) (fun w d p hw => h0 w d p (List.mem_cons_of_mem _ hw)) (fun w d p hw => hv w d p (List.mem_cons_of_mem _ hw)))
    cases l with
    | dat d => exact Rep.mono m a
    | cel j => exact absurd rfl (hc _ List.mem_cons_self j)
    | frs d =>
      obtain ⟨p, o, rfl, e1, e2, e3, e4, e5⟩ := a
      refine ⟨p, o, rfl, e1, e2.mono m, h0 _ d p List.mem_cons_self rfl, e4, fun j x q z => ?_⟩
      by_cases hj : j = i
      · subst hj
        rw [List.getElem?_set_self hi] at q
        rw [List.getElem?_set_self (by omega)] at z
        cases q
        cases z
        rcases hv _ d p List.mem_cons_self rfl with y | y
        · exact y rfl
        · exact y x rfl
      · rw [List.getElem?_set_ne (Ne.symm hj)] at q z
        exact e5 j x q z
theorem put_ok {K : PySem.W.Frag} {Hf H : Hp} : ∀ {ts : List (Bool × Nat)} {vs : List V} {ls : List Ld} {env e' : En} {σ : L2.St} {H0 : Hp}, SR K env σ H0 Hf H → LdRs K env σ H0 Hf H vs ls → putL env ts ls = some e' → (∀ l ∈ ls, ∀ j, l ≠ .cel j) →
    ∃ H0', SR K e' (setV σ ts vs) H0' Hf H ∧ Same H0 H0'
  | [], _, _, _, _, _, _, s, .nil, e, _ => by cases e; exact ⟨_, s, .refl _⟩
  | [], _, _, _, _, _, _, s, .cons _ _ _, e, _ => by cases e
  | _ :: _, _, _, _, _, _, _, s, .nil, e, _ => by cases e
  | (o, i) :: ts, _, _, env, e', σ, H0, s, .cons (v := v) (l := l) (vs := vs) (ls := ls) a b c, e, hc => by
    have hc' : ∀ l ∈ ls, ∀ j, l ≠ .cel j := fun l' hl' => hc l' (List.mem_cons_of_mem _ hl')
    obtain ⟨hi, e⟩ := grd e
    cases o with
    | true =>
      cases l with
      | dat d => cases e
      | cel j => cases e
      | frs d =>
        have e : putL (env.set i (.own d)) ts ls = some e' := e
        obtain ⟨p, ob, rfl, q1, q2, q3, q4, q5⟩ := id a
        have c' := ldrs_put (t := .own d) (v := .ref p) (.refl H0) hi s.len c hc' (fun w d' p' hw ew => by
          subst ew
          obtain ⟨p2, o2, z1, z2, z3, z4, z5⟩ := c.frsAt hw
          cases z1; exact z4) (fun w d' p' hw ew => .inl fun z => b p d rfl rfl w d' hw (ew.trans z.symm))
        obtain ⟨H1, s1, m1⟩ := put_ok (s.putO hi a) c' e hc'
        exact ⟨H1, s1, m1⟩
    | false =>
      have e : (match stab l with | some d => putL (env.set i (.val d)) ts ls | none => none) = some e' := e
      cases c1 : stab l with
      | none => rw [c1] at e; cases e
      | some d =>
        rw [c1] at e
        cases l with
        | cel j => cases c1
        | dat d' =>
          cases c1
          have c' := ldrs_put (t := .val d) (v := v) (.refl H0) hi s.len c hc' (fun w d' p' hw ew => by
            subst ew
            obtain ⟨p2, o2, z1, z2, z3, z4, z5⟩ := c.frsAt hw
            cases z1; exact z4) (fun w d' p' hw ew => .inr fun x z => nomatch z)
          obtain ⟨H1, s1, m1⟩ := put_ok (s.put hi a) c' e hc'
          exact ⟨H1, s1, m1⟩
        | frs d' =>
          cases c1
          obtain ⟨p, ob, rfl, q1, q2, q3, q4, q5⟩ := a
          obtain ⟨s2, sm, rp⟩ := s.frz1 q1 q2 q3 q4 q5
          have c' := ldrs_put (t := .val d) (v := .ref p) sm hi s.len c hc' (fun w d' p' hw ew => by
            subst ew
            have np : p' ≠ p := fun z => b p d rfl rfl _ d' hw (by rw [z])
            obtain ⟨p2, o2, z1, z2, z3, z4, z5⟩ := c.frsAt hw
            cases z1
            rw [upd_ne np]; exact z4) (fun w d' p' hw ew => .inr fun x z => nomatch z)
          obtain ⟨H1, s1, m1⟩ := put_ok (s2.put hi rp) c' e hc'
          exact ⟨H1, s1, sm.trans m1⟩
theorem putL_nc : ∀ {ts : List (Bool × Nat)} {ls : List Ld} {e e' : En}, putL e ts ls = some e' → ∀ l ∈ ls, ∀ j, l ≠ .cel j
  | [], [], _, _, _, l, h, _ => by simp at h
  | [], _ :: _, _, _, e, _, _, _ => by cases e
  | _ :: _, [], _, _, e, _, _, _ => by cases e
  | (o, i) :: ts, l :: ls, e, e', h, l', hl, j => by
    obtain ⟨hi, h⟩ := grd h
    rcases List.mem_cons.mp hl with rfl | hl2
    · rintro rfl
      cases o <;> cases h
    · cases o with
      | true =>
        cases l with
        | frs d => exact putL_nc (ts := ts) (ls := ls) h l' hl2 j
        | _ => cases h
      | false =>
        have h : (match stab l with | some d => putL (e.set i (.val d)) ts ls | none => none) = some e' := h
        cases c1 : stab l with
        | none => rw [c1] at h; cases h
        | some d => rw [c1] at h; exact putL_nc h l' hl2 j
theorem putL_len : ∀ {ts : List (Bool × Nat)} {ls : List Ld} {e e' : En}, putL e ts ls = some e' → ls.length = ts.length
  | [], [], _, _, _ => rfl
  | [], _ :: _, _, _, h => by cases h
  | _ :: _, [], _, _, h => by cases h
  | (o, i) :: ts, l :: ls, e, e', h => by
    unfold putL at h
    split at h
    · cases o with
      | true =>
        cases l with
        | frs d => have h : putL (e.set i (.own d)) ts ls = some e' := h; rw [List.length_cons, List.length_cons, putL_len h]
        | _ => cases h
      | false =>
        have h : (match stab l with | some d => putL (e.set i (.val d)) ts ls | none => none) = some e' := h
        cases c1 : stab l with
        | none => rw [c1] at h; cases h
        | some d => rw [c1] at h; rw [List.length_cons, List.length_cons, putL_len h]
    · cases h
theorem rdA.mono {fs : En → R (List Ld × En)} {σ : L2.St} {H : Hp} {Q Q' : List V → Hp → Prop} (h : rdA C fs σ H Q) (f : ∀ vs H, Q vs H → Q' vs H) : rdA C fs σ H Q' := by
  obtain ⟨env, H0, Hf, s, h⟩ := h
  exact ⟨env, H0, Hf, s, h.imp fun ls e H0' H' s' m h vs r => f _ _ (h vs r)⟩
theorem setV_pin : ∀ {ts : List (Bool × Nat)} {vs : List V} {σ : L2.St}, (∀ q ∈ C.pin, q.1 ∉ ts.map (·.2)) → PinOk C σ → PinOk C (setV σ ts vs)
  | [], _, σ, _, h => by unfold setV; exact h
  | _ :: _, [], σ, _, h => by unfold setV; exact h
  | (o, i) :: ts, v :: vs, σ, n, h => by
    unfold setV
    exact setV_pin (fun q hq z => n q hq (by rw [List.map_cons]; exact List.mem_cons_of_mem _ z)) (h.set fun q hq z => n q hq (by rw [List.map_cons, z]; exact List.mem_cons_self))
theorem par_read {ts : List (Bool × Nat)} {fs : En → R (List Ld × En)} {D : Ends} {σ : L2.St} {H : Hp} (np : ∀ q ∈ C.pin, q.1 ∉ ts.map (·.2)) (h : rdS C (parS ts fs) D σ H) : rdA C fs σ H fun vs H1 => vs.length = ts.length ∧ D.nx (setV σ ts vs) H1 := by
  obtain ⟨env, H0, Hf, pk, s, h⟩ := h
  refine ⟨env, H0, Hf, s, (PstS.bind pk h).imp fun ls e H0' H' s' m h vs r => ?_⟩
  simp only at h
  cases c1 : putL e ts ls with
  | none => rw [c1] at h; exact h.elim
  | some e' =>
    rw [c1] at h
    obtain ⟨H1, s1, m1⟩ := put_ok s' r c1 (putL_nc c1)
    exact ⟨by rw [r.len, putL_len c1], h _ H1 H' (setV_pin np pk) s1 m1⟩

/-! loops -/
def forL (t : T) (b : En → R (Fk × En)) : List FR.D → En → R (Fk × En)
  | [], env => .ok (.nx, env)
  | d :: ds, env => match asg t [d] env with
    | none => .bad
    | some e1 => (b e1).bind fun (k, e2) => match k with
      | .nx => forL t b ds e2
      | .ct => forL t b ds e2
      | .bk => .ok (.nx, e2)
      | .rt l => .ok (.rt l, e2)
theorem forL_cons (t : T) (b : En → R (Fk × En)) (d : FR.D) (ds : List FR.D) (env : En) : forL t b (d :: ds) env = match asg t [d] env with
    | none => .bad
    | some e1 => (b e1).bind fun (k, e2) => match k with
      | .nx => forL t b ds e2
      | .ct => forL t b ds e2
      | .bk => .ok (.nx, e2)
      | .rt l => .ok (.rt l, e2) := rfl
def forS (t : T) (fi : En → R (List FR.D × En)) (b : En → R (Fk × En)) : En → R (Fk × En) := fun env => (fi env).bind fun (ds, e) => forL t b ds e
theorem s_for {tg iter : Expr} {body : List Stmt} {t : T} {fi : En → R (List FR.D × En)} {fb : En → R (Fk × En)} (hp : PassesOwn (model X.prog X.w) X.A X.env X.xe) (hc : X.calm = true) (hi : PI X tg iter (rdI C fi)) (hg : PG X tg (gD C t)) (hb : PSs X body (rdS C fb)) (np : ∀ q ∈ C.pin, q.1 ∉ t.slots)
    (hs : ∀ x, foldedSetIterable iter X.env x = pure x) : PS X (.For tg iter body [] pos) (rdS C (forS t fi fb)) := by
  refine PS.weak (ps_for hp hc hi hg hb hs) fun D σ H ⟨env, H0, Hf, pk, s, h⟩ => ?_
  refine ⟨env, H0, Hf, s, (PstS.bind pk h).imp fun ds e H1 H2 s1 m1 h J Y => ?_⟩
  simp only at h
  generalize hrr : forL t fb ds e = rr at h
  refine ⟨fun i m σ' H' => ∃ H0' env', m = ds.length - i ∧ i ≤ ds.length ∧ PinOk C σ' ∧ SR C.K env' σ' H0' Hf H' ∧ Same H1 H0' ∧ forL t fb (ds.drop i) env' = rr,
    ⟨ds.length, H1, e, by simp, Nat.zero_le _, pk, s1, .refl _, hrr⟩, ?_⟩
  rintro i m σ' H' ⟨H0', env', rfl, hle, pk', s', m', hl⟩
  by_cases hlt : i < ds.length
  · right
    refine ⟨Y.1 i H0' H' m' s'.zs hlt, fun σ'' H'' => ∃ H0' env', PinOk C σ'' ∧ SR C.K env' σ'' H0' Hf H'' ∧ Same H1 H0' ∧ forL t fb (ds.drop (i + 1)) env' = rr, fun σ'' H'' ⟨a1, a2, b0, b1, b2, b3⟩ => ⟨ds.length - (i + 1), by omega, a1, a2, rfl, hlt, b0, b1, b2, b3⟩, fun x H'' y => ?_⟩
    have hd : ds.drop i = ds[i] :: ds.drop (i + 1) := List.drop_eq_getElem_cons hlt
    obtain ⟨Ha, ga, rx⟩ := Y.2.2 i H0' H' x H'' m' s'.zs y ds[i] (List.getElem?_eq_getElem hlt)
    have sa := s'.gr ga
    have ma : Same H1 Ha := m'.trans ga.z
    rw [hd, forL_cons] at hl
    cases ea : asg t [ds[i]] env' with
    | none => rw [ea] at hl; rw [← hl] at h; exact h.elim
    | some e1 =>
      rw [ea] at hl
      simp only at hl
      refine ⟨env', Ha, Hf, ds[i], e1, sa, rx, ea, fun σ2 bt s2 => ⟨e1, Ha, Hf, pk'.but bt np, s2, ?_⟩⟩
      cases eb : fb e1 with
      | bad => rw [eb] at hl; rw [← hl] at h; exact h.elim
      | ex x e' =>
        rw [eb] at hl
        rw [← hl] at h
        exact fun cls d σ3 H3 H4 p3 q mm => h cls d σ3 H3 H4 p3 q (ma.trans mm)
      | ok pb =>
        obtain ⟨k, e2⟩ := pb
        rw [eb] at hl
        simp only [R.bind] at hl
        cases k with
        | nx => exact fun σ3 H3 H4 p3 q mm => ⟨H3, e2, p3, q, ma.trans mm, hl⟩
        | ct => exact fun σ3 H3 H4 p3 q mm => ⟨H3, e2, p3, q, ma.trans mm, hl⟩
        | bk =>
          rw [← hl] at h
          exact fun σ3 H3 H4 p3 q mm => h σ3 H3 H4 p3 q (ma.trans mm)
        | rt l =>
          rw [← hl] at h
          exact fun v σ3 H3 H4 p3 q mm => h v σ3 H3 H4 p3 q (ma.trans mm)
  · left
    have ei : i = ds.length := by omega
    subst ei
    refine ⟨Y.2.1 H0' H' m' s'.zs, ?_⟩
    rw [List.drop_length] at hl
    rw [← hl] at h
    exact h σ' H0' H' pk' s' m'
def whN (c : En → R (Bool × En)) (b : En → R (Fk × En)) : Nat → En → Option (R (Fk × En))
  | 0, _ => none
  | n + 1, env => match c env with
    | .bad => some .bad
    | .ex x e => some (.ex x e)
    | .ok (false, e) => some (.ok (.nx, e))
    | .ok (true, e) => match b e with
      | .bad => some .bad
      | .ex x e => some (.ex x e)
      | .ok (.nx, e) => whN c b n e
      | .ok (.ct, e) => whN c b n e
      | .ok (.bk, e) => some (.ok (.nx, e))
      | .ok (.rt l, e) => some (.ok (.rt l, e))
theorem whN_mono {c : En → R (Bool × En)} {b : En → R (Fk × En)} : ∀ {n : Nat} {env : En} {r : R (Fk × En)} (k : Nat), whN c b n env = some r → whN c b (n + k) env = some r
  | 0, _, _, _, h => by cases h
  | n + 1, env, r, k, h => by
    rw [Nat.succ_add]
    unfold whN at h ⊢
    split at h <;> try exact h
    split at h <;> try exact h
    · exact whN_mono k h
    · exact whN_mono k h
noncomputable def whS (c : En → R (Bool × En)) (b : En → R (Fk × En)) : En → R (Fk × En) := fun env => open Classical in if h : ∃ p : Nat × R (Fk × En), whN c b p.1 env = some p.2 then h.choose.2 else .bad
theorem whS_eq {c : En → R (Bool × En)} {b : En → R (Fk × En)} {env : En} {n : Nat} {r : R (Fk × En)} (h : whN c b n env = some r) : whS c b env = r := by
  unfold whS
  have hx : ∃ p : Nat × R (Fk × En), whN c b p.1 env = some p.2 := ⟨(n, r), h⟩
  rw [dif_pos hx]
  have h2 := hx.choose_spec
  have a := whN_mono n h2
  have b' := whN_mono hx.choose.1 h
  rw [Nat.add_comm] at b'
  rw [a] at b'
  exact Option.some.inj b'
theorem whS_ex {c : En → R (Bool × En)} {b : En → R (Fk × En)} {env : En} (h : whS c b env ≠ .bad) : ∃ n, whN c b n env = some (whS c b env) := by
  unfold whS at h ⊢
  split
  · rename_i hx
    exact ⟨hx.choose.1, hx.choose_spec⟩
  · rename_i hx
    rw [dif_neg hx] at h
    exact absurd rfl h
theorem s_while {c : Expr} {body : List Stmt} {f : En → R (Bool × En)} {fb : En → R (Fk × En)} (hp : PassesOwn (model X.prog X.w) X.A X.env X.xe) (hc : PT X c (rdT C f)) (hb : PSs X body (rdS C fb)) : PS X (.While c body [] pos) (rdS C (whS f fb)) := by
  refine PS.weak (ps_while hp hc hb) fun D σ H ⟨env, H0, Hf, pk, s, h⟩ => ?_
  obtain ⟨n, hn⟩ : ∃ n, whN f fb n env = some (whS f fb env) := whS_ex fun z => by rw [z] at h; exact h
  generalize whS f fb env = rr at h hn
  refine ⟨fun m σ' H' => ∃ H0' env', PinOk C σ' ∧ SR C.K env' σ' H0' Hf H' ∧ Same H0 H0' ∧ whN f fb m env' = some rr, ⟨n, H0, env, pk, s, .refl _, hn⟩, ?_⟩
  rintro m σ' H' ⟨H0', env', pk', s', m', hl⟩
  cases m with
  | zero => cases hl
  | succ m =>
    unfold whN at hl
    refine ⟨env', H0', Hf, s', ?_⟩
    cases e1 : f env' with
    | bad => rw [e1] at hl; cases hl; exact h.elim
    | ex x e =>
      rw [e1] at hl
      cases hl
      exact fun cls d H1 H2 q mm => h cls d σ' H1 H2 pk' q (m'.trans mm)
    | ok p =>
      obtain ⟨k, e⟩ := p
      rw [e1] at hl
      intro H1 H2 s2 m2
      cases k with
      | false =>
        cases hl
        exact h σ' H1 H2 pk' s2 (m'.trans m2)
      | true =>
        simp only at hl
        refine ⟨fun σ'' H'' => ∃ H0' env', PinOk C σ'' ∧ SR C.K env' σ'' H0' Hf H'' ∧ Same H0 H0' ∧ whN f fb m env' = some rr, fun σ'' H'' q => ⟨m, Nat.lt_succ_self _, q⟩, e, H1, Hf, pk', s2, ?_⟩
        cases e2 : fb e with
        | bad => rw [e2] at hl; cases hl; exact h.elim
        | ex x e' =>
          rw [e2] at hl
          cases hl
          exact fun cls d σ3 H3 H4 p3 q mm => h cls d σ3 H3 H4 p3 q ((m'.trans m2).trans mm)
        | ok pb =>
          obtain ⟨k, e3⟩ := pb
          rw [e2] at hl
          cases k with
          | nx => exact fun σ3 H3 H4 p3 q mm => ⟨H3, e3, p3, q, (m'.trans m2).trans mm, hl⟩
          | ct => exact fun σ3 H3 H4 p3 q mm => ⟨H3, e3, p3, q, (m'.trans m2).trans mm, hl⟩
          | bk =>
            cases hl
            exact fun σ3 H3 H4 p3 q mm => h σ3 H3 H4 p3 q ((m'.trans m2).trans mm)
          | rt l =>
            cases hl
            exact fun v σ3 H3 H4 p3 q mm => h v σ3 H3 H4 p3 q ((m'.trans m2).trans mm)

/-! an owned thing is changed -/
theorem SR.mut {K : PySem.W.Frag} {env : En} {σ : L2.St} {H0 Hf H : Hp} (s : SR K env σ H0 Hf H) {i : Nat} {d d' : FR.D} {p : Addr} {o' : HO} (e : env[i]? = some (.own d)) (hs : σ[i]? = some (some (.ref p))) (ho : ObR K H0 o' d') :
    SR K (env.set i (.own d')) σ H0 Hf (upd H p o') := by
  have hi := getElem?_lt e
  obtain ⟨w, h1, p', ob, h2, h3, h4, h5, h6⟩ := s.sl i _ e
  rw [hs] at h1; cases h1; cases h2
  refine ⟨fun b x q => ?_, fun b x q => ?_, s.dj, fun j t q => ?_, fun j k q a b e1 e2 e3 e4 => ?_, by rw [List.length_set]; exact s.len⟩
  · rw [upd_ne (ne_of_none q h5)]; exact s.zs _ _ q
  · rw [upd_ne (ne_of_none q h6)]; exact s.fs _ _ q
  · by_cases hj : j = i
    · subst hj
      rw [List.getElem?_set_self hi] at q
      cases q
      exact ⟨_, hs, p, o', rfl, upd_same, ho, h5, h6⟩
    · rw [List.getElem?_set_ne (Ne.symm hj)] at q
      obtain ⟨w, k1, k2⟩ := s.sl j t q
      refine ⟨w, k1, ?_⟩
      cases t with
      | un => trivial
      | val d => exact k2
      | own d2 =>
        obtain ⟨p2, ob2, rfl, a2, a3, a4, a5⟩ := k2
        have hp : p2 ≠ p := fun z => hj (s.un j i p _ _ q e (by rw [k1, z]) hs)
        exact ⟨p2, ob2, rfl, by rw [upd_ne hp]; exact a2, a3, a4, a5⟩
  · have g : ∀ (j : Nat) x, (env.set i (.own d'))[j]? = some (.own x) → ∃ z, env[j]? = some (.own z) := fun j x q => by
      by_cases hj : j = i
      · subst hj; exact ⟨d, e⟩
      · rw [List.getElem?_set_ne (Ne.symm hj)] at q; exact ⟨x, q⟩
    obtain ⟨x', e1⟩ := g j a e1
    obtain ⟨y', e2⟩ := g k b e2
    exact s.un j k q x' y' e1 e2 e3 e4
theorem SR.ownL {K : PySem.W.Frag} {env : En} {σ : L2.St} {H0 Hf H : Hp} (s : SR K env σ H0 Hf H) {i : Nat} {ds : List FR.D} (e : env[i]? = some (.own (.lst ds))) : ∃ p xs, σ[i]? = some (some (.ref p)) ∧ H p = some (.lst xs) ∧ RepL K H0 xs ds := by
  obtain ⟨w, h1, p, ob, rfl, h3, h4, h5, h6⟩ := s.sl i _ e
  cases ob with
  | lst xs => exact ⟨p, xs, h1, h3, h4⟩
  | _ => exact h4.elim
def appS (i : Nat) (fa : En → R (Ld × En)) : En → R (Ld × En) := fun env => match env[i]? with
  | some (.own (.lst _)) => (fa env).bind fun (l, e) => (match stab l, e[i]? with
    | some d, some (.own (.lst ds)) => if ds.length < sizeLine then .ok (.dat .non, e.set i (.own (.lst (ds ++ [d])))) else .bad
    | _, _ => .bad)
  | _ => .bad
theorem d_app {a o : Expr} {apos : Pos} {i : Nat} {fa : En → R (Ld × En)} (ho : PE X o (tVar i)) (ha : PE X a (rdV C fa)) (hst : starEach [a] X.env = [(false, eval a X.env)])
    (hbase : attributeBase o "append" X.env (eval o X.env) = eval o X.env) (hline : (apos.endLine == pos.line) = true)
    (hfew : ((backTo pos (starEach [a] X.env)).all (fun x => !x.1) && (backToKw pos (keywordEach [] X.env)).all (fun x => x.1.isSome) && decide (([a] : List Expr).length + ([] : List Keyword).length + (if ([] : List Keyword).isEmpty then 0 else 1) < 30)) = true) :
    PE X (.Call (.Attribute o "append" apos) [a] [] pos) (rdV C (appS i fa)) := by
  refine PE.weak (pe_bm PySem.F.plainAttrs_list PySem.F.slot_list_append PySem.F.type_list_append mt_append ho (pa_cons ha pa_nil hst) hbase hfew hline hst (by rfl)) fun σ H Q ⟨env, H0, Hf, s, h⟩ => ?_
  unfold appS at h
  cases e1 : env[i]? with
  | none => rw [e1] at h; exact h.elim
  | some t =>
    rw [e1] at h
    cases t with
    | un => exact h.elim
    | val _ => exact h.elim
    | own c =>
      cases c with
      | lst ds0 =>
        simp only at h
        obtain ⟨p, xs, k1, k2, k3⟩ := s.ownL e1
        refine ⟨.ref p, k1, .inl ⟨rfl, xs, .of k2⟩, env, H0, Hf, s, (Pst.bind h).imp fun l e H0' H' s' m h v r => ?_⟩
        simp only at h
        cases c1 : stab l with
        | none => rw [c1] at h; exact h.elim
        | some d =>
          rw [c1] at h
          cases c2 : e[i]? with
          | none => rw [c2] at h; exact h.elim
          | some t2 =>
            rw [c2] at h
            cases t2 with
            | un => exact h.elim
            | val _ => exact h.elim
            | own c' =>
              cases c' with
              | lst ds =>
                simp only at h
                by_cases hz : ds.length < sizeLine
                · rw [if_pos hz] at h
                  obtain ⟨H1, s1, m1, r1⟩ := LdR.stab s' r c1
                  obtain ⟨p', ys, j1, j2, j3⟩ := s1.ownL c2
                  rw [k1] at j1
                  cases j1
                  refine ⟨p, ys, v, rfl, rfl, j2, by rw [j3.length]; exact hz, ?_⟩
                  exact h H1 _ (s1.mut c2 k1 (o' := .lst (ys ++ [v])) (j3.append (.cons r1 .nil))) m1 _ .non
                · rw [if_neg hz] at h; exact h.elim
              | _ => exact h.elim
      | _ => exact h.elim
/-- x[k] = e -/
def stiS (i : Nat) (fk fa : En → R (Ld × En)) : En → R (Fk × En) := fun env => (fa env).bind fun (l, e) => match stab l, e[i]? with
  | some d, some (.own (.lst _)) => (fk e).bind fun (k, e2) => (match k, e2[i]? with
    | .dat (.int n), some (.own (.lst ds)) => (match ixN ds.length n with
      | some j => .ok (.nx, e2.set i (.own (.lst (ds.set j d))))
      | none => .bad)
    | _, _ => .bad)
  | _, _ => .bad
theorem s_sti {o k a : Expr} {tpos : Pos} {i : Nat} {fk fa : En → R (Ld × En)} (ho : PE X o (tVar i)) (hk : PE X k (rdV C fk)) (ha : PE X a (rdV C fa)) (hs : swapsWithSole [.Subscript o k tpos] a pos.line X.env = pure false) (hw : swappedStores [.Subscript o k tpos] a X.env = pure none)
    (h1 : (assignEach [.Subscript o k tpos] X.env).map (·.2) = [assign (.Subscript o k tpos) X.env])
    (has : ∀ v, assign (.Subscript o k tpos) X.env v = (do
      let ov ← holding [v] (eval o X.env)
      let iv ← holding [v, ov] (eval k X.env)
      standAt tpos
      holding [v, ov, iv] (setItem ov iv v)
      release [v, ov, iv] [])) : PS X (.Assign [.Subscript o k tpos] a pos) (rdS C (stiS i fk fa)) := by
  refine PS.weak (ps_asg ha (pg_sub ho hk set_list has) hs hw h1) fun D σ H ⟨env, H0, Hf, pk, s, h⟩ => ?_
  refine ⟨env, H0, Hf, s, (PstS.bind pk h).imp fun l e H0' H' s' m h v r => ?_⟩
  simp only at h
  cases c1 : stab l with
  | none => rw [c1] at h; exact h.elim
  | some d =>
    rw [c1] at h
    cases c2 : e[i]? with
    | none => rw [c2] at h; exact h.elim
    | some t2 =>
      rw [c2] at h
      cases t2 with
      | un => exact h.elim
      | val _ => exact h.elim
      | own c' =>
        cases c' with
        | lst ds0 =>
          simp only at h
          obtain ⟨H1, s1, m1, r1⟩ := LdR.stab s' r c1
          obtain ⟨p, xs, k1, k2, k3⟩ := s1.ownL c2
          refine ⟨.ref p, k1, e, H1, Hf, s1, (PstS.bind pk (PstS.from m1 h)).imp fun kl e2 H2 H3 s2 m2 h w r2 => ?_⟩
          simp only at h
          split at h
          · rename_i n ds c3
            cases (show Rep C.K H2 w (.int n) from r2)
            cases c4 : ixN ds.length n with
            | none => rw [c4] at h; exact h.elim
            | some j =>
              rw [c4] at h
              obtain ⟨p', ys, j1, j2, j3⟩ := s2.ownL c3
              rw [k1] at j1
              cases j1
              refine ⟨p, ys, n, j, rfl, rfl, j2, by rw [j3.length]; exact c4, ?_⟩
              exact h σ H2 _ pk (s2.mut c3 k1 (o' := .lst (ys.set j v)) (RepL.set (r1.mono m2) j j3)) (.refl _)
          · exact h.elim
        | _ => exact h.elim
end
end FR
set_option Elab.async false
set_option linter.all false
set_option autoImplicit false
set_option maxRecDepth 100000
/-! FRa: walks of pairs, isinstance, sets, lengths of ranges -/
namespace FR
open PySem PySem.Spec PyProof.Rows L2

section
variable {X : Cx} {C : Cq}
theorem yields_enum {K : PySem.W.Frag} {H0 : Hp} {a : Addr} {xs : List V} {ds : List D} (h : H0 a = some (.lst xs)) (r : RepL K H0 xs ds) : Yields K (Ite K a) H0 (ds.mapIdx fun (k : Nat) d => D.tup [.int (k : Int), d]) := by
  have hl := r.length
  refine ⟨fun i H1 H2 s1 s2 hi => ?_, fun H1 H2 s1 s2 => ⟨xs, .of (s2 _ _ (s1 _ _ h)), by rw [List.length_mapIdx]; omega⟩, fun i H1 H2 x H3 s1 s2 y d e => ?_⟩
  · rw [List.length_mapIdx] at hi
    obtain ⟨v, e1, _⟩ := r.get (List.getElem?_eq_getElem hi)
    exact ⟨xs, v, .of (s2 _ _ (s1 _ _ h)), e1⟩
  · rw [List.getElem?_mapIdx] at e
    obtain ⟨d', e1, rfl⟩ := Option.map_eq_some_iff.mp e
    obtain ⟨T, z, rfl, hT, rfl, y⟩ := y
    obtain ⟨v, e2, e3⟩ := r.get e1
    have := (y xs (.of (s2 _ _ (s1 _ _ h)))).symm.trans e2
    cases this
    have g : Gr H1 H2 (upd H1 T (.tup [.int (i : Nat), z])) (upd H2 T (.tup [.int (i : Nat), z])) := .new s2 hT
    exact ⟨_, g, .tup (.inl (.inl upd_same)) (.cons (.int _) (.cons ((e3.mono s1).mono g.z) .nil))⟩
def enuS (fa : En → R (Ld × En)) : En → R (List D × En) := fun env => (fa env).bind fun (l, e) => match stab l with
    | some (.lst ds) => .ok (ds.mapIdx fun (k : Nat) d => D.tup [.int (k : Int), d], e)
    | _ => .bad
theorem di_enum {elts : List Expr} {kk : Nat} {a : Expr} {p pos tpos : Pos} {fa : En → R (Ld × En)} (ha : PE X a (rdV C fa)) (hg : Gl X "enumerate") (hm : X.mg "enumerate" = none) (hs : starEach [a] X.env = [(false, eval a X.env)]) (hK : X.K = C.K) :
    PI X (.Tuple elts kk tpos) (.Call (.Name "enumerate" p) [a] [] pos) (rdI C (enuS fa)) :=
  PI.weak (pi_enum hg hm (pa_cons ha pa_nil hs) hs) fun σ H R ⟨env, H0, Hf, s, h⟩ => by
    rw [hK]
    refine ⟨env, H0, Hf, s, (Pst.bind h).imp fun l e H0' H' s' m h v r => ?_⟩
    simp only at h
    cases c1 : stab l with
    | none => rw [c1] at h; exact h.elim
    | some d =>
      rw [c1] at h
      cases d with
      | lst ds =>
        obtain ⟨H1, s1, m1, r1⟩ := LdR.stab s' r c1
        cases r1 with
        | lst q r => exact ⟨_, _, rfl, .of (s1.zs _ _ q), h H1 H' s1 m1 _ (yields_enum q r)⟩
      | _ => exact h.elim
theorem zip_get {α β : Type} {a : List α} {b : List β} {i : Nat} {p : α × β} (h : (a.zip b)[i]? = some p) : a[i]? = some p.1 ∧ b[i]? = some p.2 := by
  rw [List.getElem?_zip_eq_some] at h
  exact h
theorem yields_zip {K : PySem.W.Frag} {H0 : Hp} {a b : Addr} {xs ys : List V} {ds es : List D} (h : H0 a = some (.lst xs)) (r : RepL K H0 xs ds) (h' : H0 b = some (.lst ys)) (r' : RepL K H0 ys es) :
    Yields K (Itz K a b) H0 ((ds.zip es).map fun p => D.tup [p.1, p.2]) := by
  have hl := r.length
  have hl' := r'.length
  refine ⟨fun i H1 H2 s1 s2 hi => ?_, fun H1 H2 s1 s2 => ⟨xs, ys, .of (s2 _ _ (s1 _ _ h)), .of (s2 _ _ (s1 _ _ h')), by rw [List.length_map, List.length_zip]; omega⟩, fun i H1 H2 x H3 s1 s2 y d e => ?_⟩
  · rw [List.length_map, List.length_zip] at hi
    obtain ⟨v, e1, _⟩ := r.get (List.getElem?_eq_getElem (show i < ds.length by omega))
    obtain ⟨v', e1', _⟩ := r'.get (List.getElem?_eq_getElem (show i < es.length by omega))
    exact ⟨xs, ys, v, v', .of (s2 _ _ (s1 _ _ h)), .of (s2 _ _ (s1 _ _ h')), e1, e1'⟩
  · rw [List.getElem?_map] at e
    obtain ⟨d', e1, rfl⟩ := Option.map_eq_some_iff.mp e
    obtain ⟨k1, k2⟩ := zip_get e1
    obtain ⟨T, z, z', rfl, hT, rfl, y, y'⟩ := y
    obtain ⟨v, e2, e3⟩ := r.get k1
    obtain ⟨v', e2', e3'⟩ := r'.get k2
    have q1 := (y xs (.of (s2 _ _ (s1 _ _ h)))).symm.trans e2
    have q2 := (y' ys (.of (s2 _ _ (s1 _ _ h')))).symm.trans e2'
    cases q1; cases q2
    have g : Gr H1 H2 (upd H1 T (.tup [z, z'])) (upd H2 T (.tup [z, z'])) := .new s2 hT
    exact ⟨_, g, .tup (.inl (.inl upd_same)) (.cons ((e3.mono s1).mono g.z) (.cons ((e3'.mono s1).mono g.z) .nil))⟩
theorem yields_zipT {K : PySem.W.Frag} {H0 : Hp} {a b : Addr} {xs ys : List V} {ds es : List D} (h : SqT K H0 a xs) (r : RepL K H0 xs ds) (h' : SqT K H0 b ys) (r' : RepL K H0 ys es) :
    Yields K (RZ.ItzT K a b) H0 ((ds.zip es).map fun p => D.tup [p.1, p.2]) := by
  have hl := r.length
  have hl' := r'.length
  refine ⟨fun i H1 H2 s1 s2 hi => ?_, fun H1 H2 s1 s2 => ⟨xs, ys, sameT s2 (sameT s1 h), sameT s2 (sameT s1 h'), by rw [List.length_map, List.length_zip]; omega⟩, fun i H1 H2 x H3 s1 s2 y d e => ?_⟩
  · rw [List.length_map, List.length_zip] at hi
    obtain ⟨v, e1, _⟩ := r.get (List.getElem?_eq_getElem (show i < ds.length by omega))
    obtain ⟨v', e1', _⟩ := r'.get (List.getElem?_eq_getElem (show i < es.length by omega))
    exact ⟨xs, ys, v, v', sameT s2 (sameT s1 h), sameT s2 (sameT s1 h'), e1, e1'⟩
  · rw [List.getElem?_map] at e
    obtain ⟨d', e1, rfl⟩ := Option.map_eq_some_iff.mp e
    obtain ⟨k1, k2⟩ := zip_get e1
    obtain ⟨T, z, z', rfl, hT, rfl, y, y'⟩ := y
    obtain ⟨v, e2, e3⟩ := r.get k1
    obtain ⟨v', e2', e3'⟩ := r'.get k2
    have q1 := (y xs (sameT s2 (sameT s1 h))).symm.trans e2
    have q2 := (y' ys (sameT s2 (sameT s1 h'))).symm.trans e2'
    cases q1; cases q2
    have g : Gr H1 H2 (upd H1 T (.tup [z, z'])) (upd H2 T (.tup [z, z'])) := .new s2 hT
    exact ⟨_, g, .tup (.inl (.inl upd_same)) (.cons ((e3.mono s1).mono g.z) (.cons ((e3'.mono s1).mono g.z) .nil))⟩
def zipD : D → D → Option (List D)
  | .lst a, .lst b => some ((a.zip b).map fun p => D.tup [p.1, p.2])
  | .tup a, .tup b => some ((a.zip b).map fun p => D.tup [p.1, p.2])
  | _, _ => none
def zipS (fa fb : En → R (Ld × En)) : En → R (List D × En) := fun env => (consA fa (consA fb fun e => .ok ([], e)) env).bind fun (ls, e) => match stabs ls with
    | some [x, y] => R.of ((zipD x y).map (·, e))
    | _ => .bad
theorem di_zip {elts : List Expr} {kk : Nat} {a b : Expr} {p pos tpos : Pos} {fa fb : En → R (Ld × En)} (ha : PE X a (rdV C fa)) (hb : PE X b (rdV C fb)) (hg : Gl X "zip") (hm : X.mg "zip" = none) (hs : starEach [a, b] X.env = (false, eval a X.env) :: starEach [b] X.env)
    (hs2 : starEach [b] X.env = [(false, eval b X.env)]) (hpl : (backTo pos (starEach [b] X.env)).any (·.1) = false) (hK : X.K = C.K) : PI X (.Tuple elts kk tpos) (.Call (.Name "zip" p) [a, b] [] pos) (rdI C (zipS fa fb)) :=
  PI.weak (RZ.pi_zipA hg hm (d_cons ha (d_cons hb d_nil hs2) hs) hs hpl) fun σ H R ⟨env, H0, Hf, s, h⟩ => by
    rw [hK]
    refine ⟨env, H0, Hf, s, (Pst.bind h).imp fun ls e H0' H' s' m h vs r => ?_⟩
    simp only at h
    split at h
    · rename_i x y c1
      obtain ⟨H1, s1, m1, r1, _⟩ := LdRs.stabs s' r c1
      cases c2 : zipD x y with
      | none => rw [c2] at h; exact h.elim
      | some ds =>
        rw [c2] at h
        have h := h H1 H' s1 m1
        cases r1 with
        | cons ra rb =>
          cases rb with
          | cons rb rc =>
            cases rc
            cases ra with
            | lst q r5 =>
              cases rb with
              | lst q' r' => cases c2; exact ⟨_, _, _, _, rfl, .inl ⟨.of (s1.zs _ _ q), .of (s1.zs _ _ q'), h _ (yields_zip q r5 q' r')⟩⟩
              | _ => cases c2
            | tup q r5 =>
              cases rb with
              | tup q' r' => cases c2; exact ⟨_, _, _, _, rfl, .inr ⟨sameT s1.zs q, sameT s1.zs q', h _ (yields_zipT q r5 q' r')⟩⟩
              | _ => cases c2
            | _ => cases c2
    · exact h.elim
/-! isinstance -/
theorem Vw.ty {K : PySem.W.Frag} {H0 H : Hp} (sm : Same H0 H) {v : V} {d : D} {t : String} (h : Vw K H0 H v d) (e : tyD d = some t) : TyX K H v (.type t) := by
  cases d with
  | non => cases h.non; cases e; exact .base .non
  | bl b => cases h.bl; cases e; exact .base (.bl b)
  | int i => cases h.int; cases e; exact .base (.int i)
  | str x => cases h.str; cases e; exact .base (.str x)
  | tup ds =>
    obtain ⟨a, xs, rfl, q, r⟩ := h.tup
    cases e
    rcases sameT sm q with (q | ⟨o, q⟩) | ⟨o, its, n, q1, q2, _⟩
    · exact .base (.tup q)
    · exact .fTuple q
    · exact .kTuple q1 q2
  | lst ds => obtain ⟨a, xs, rfl, q, r⟩ := h; cases e; exact .base (.lst q)
  | dK kvs => obtain ⟨a, xs, rfl, q, r⟩ := h; cases e; exact .base (.dK q)
  | dT kvs => cases (show Rep K H0 v (.dT kvs) from h)
  | exc c fs => cases e
  | scr ns => cases e
theorem isiD_noCel (ts : List String) (d : D) (i : Nat) : isiD ts d ≠ some (.cel i) := by
  unfold isiD
  cases tyD d with
  | none => simp
  | some t => simp
theorem d_isi1 {a : Expr} {t : String} {p p2 pos : Pos} {fa : En → R (Ld × En)} (ha : PE X a (rdV C fa)) (hg : Gl X "isinstance") (hm : X.mg "isinstance" = none) (ht : PE X (.Name t p2) (tC (.ty t))) (hs : starEach [a, .Name t p2] X.env = (false, eval a X.env) :: starEach [.Name t p2] X.env)
    (hs2 : starEach [.Name t p2] X.env = [(false, eval (.Name t p2) X.env)]) (hpl : (backTo pos (starEach [.Name t p2] X.env)).any (·.1) = false) (hK : X.K = C.K) : PE X (.Call (.Name "isinstance" p) [a, .Name t p2] [] pos) (rdV C (m1 fa (isiD [t]))) := by
  refine PE.weak (pe_callB call_isi hg hm (by decide +kernel) (pa_cons ha (pa_cons ht pa_nil hs2) hs) (by decide) (by decide) hs hpl) fun σ H Q ⟨env, H0, Hf, s, h⟩ => ?_
  rw [hK]
  refine ⟨env, H0, Hf, s, (Pst.bind h).imp fun l e H0' H' s' m h v r => ?_⟩
  simp only at h
  cases c1 : cont e l with
  | none => rw [c1] at h; exact h.elim
  | some d =>
    rw [c1] at h
    obtain ⟨z, e1, e2⟩ := pstOf s' (isiD_noCel [t] d) h
    unfold isiD at e1
    obtain ⟨ty, e3, e4⟩ := Option.bind_eq_some_iff.mp e1
    obtain ⟨bs, e5, rfl⟩ := Option.map_eq_some_iff.mp e4
    simp only [List.mapM_cons, List.mapM_nil, Option.bind_eq_bind, Option.pure_def, Option.bind_some] at e5
    obtain ⟨b, e6, e7⟩ := Option.bind_eq_some_iff.mp e5
    cases e7
    refine ⟨v, .ty t, .type ty, .type t, b, rfl, .ty t, (r.vw s' c1).ty s'.zs e3, kit_ty e6, ?_⟩
    have := e2.same (v := .bl b) s'.zs
    simp only [List.any_cons, List.any_nil, Bool.or_false, id] at this
    exact this (.bl b)

theorem kitAny_of {K : PySem.W.Frag} {t : String} : ∀ {ts : List String} {bs : List Bool}, ts.mapM (fun u => kitB t u) = some bs → PySem.W.kitAny K (.type t) (ts.map Value.type) = some (bs.any id)
  | [], bs, h => by
    simp at h
    subst h
    rfl
  | u :: ts, bs, h => by
    simp only [List.mapM_cons, Option.bind_eq_bind, Option.pure_def] at h
    obtain ⟨b, e1, h⟩ := Option.bind_eq_some_iff.mp h
    obtain ⟨r, e2, h⟩ := Option.bind_eq_some_iff.mp h
    cases h
    rw [List.map_cons]
    refine kitAny_cons (kit_ty e1) (fun hb => ?_) fun hb => ?_
    · rw [hb]
      simpa using kitAny_of e2
    · rw [hb]; rfl
def tTys (ts : List String) : TA := fun _ H Q => Q (ts.map V.ty) H
theorem d_isiT {a : Expr} {ts : List String} {cs : List Expr} {p p2 pos : Pos} {kk : Nat} {fa : En → R (Ld × En)} (ha : PE X a (rdV C fa)) (hg : Gl X "isinstance") (hm : X.mg "isinstance" = none) (ht : PA X cs (tTys ts)) (hl : ts.length ≤ 100)
    (hs : starEach [a, .Tuple cs kk p2] X.env = (false, eval a X.env) :: starEach [.Tuple cs kk p2] X.env)
    (hs2 : starEach [.Tuple cs kk p2] X.env = [(false, eval (.Tuple cs kk p2) X.env)]) (hpl : (backTo pos (starEach [.Tuple cs kk p2] X.env)).any (·.1) = false) (hK : X.K = C.K) : PE X (.Call (.Name "isinstance" p) [a, .Tuple cs kk p2] [] pos) (rdV C (m1 fa (isiD ts))) := by
  refine PE.weak (pe_callB call_isiT hg hm (by decide +kernel) (pa_cons ha (pa_cons (pe_tup ht) pa_nil hs2) hs) (by decide) (by decide) hs hpl) fun σ H Q ⟨env, H0, Hf, s, h⟩ => ?_
  rw [hK]
  refine ⟨env, H0, Hf, s, (Pst.bind h).imp fun l e H0' H' s' m h v r => ?_⟩
  refine ⟨by rw [List.length_map]; exact Nat.le_trans hl (by decide), fun tp hp => ?_⟩
  have sm : Same H' (upd H' tp (.tup (ts.map V.ty))) := fun b x e => by rw [upd_ne (ne_of_none e hp)]; exact e
  have g : Gr H0' H' H0' (upd H' tp (.tup (ts.map V.ty))) := ⟨sm, .refl _, s'.zs.trans sm, fun _ z => .inl z⟩
  have s2 := s'.gr g
  have r2 : LdR C.K e σ H0' Hf (upd H' tp (.tup (ts.map V.ty))) v l := by
    cases l with
    | dat d => exact r
    | cel i => exact r
    | frs d =>
      obtain ⟨p, o, q1, q2, q3⟩ := r
      exact ⟨p, o, q1, sm _ _ q2, q3⟩
  simp only at h
  cases c1 : cont e l with
  | none => rw [c1] at h; exact h.elim
  | some d =>
    rw [c1] at h
    obtain ⟨z, e1, e2⟩ := pstOf s2 (isiD_noCel ts d) h
    unfold isiD at e1
    obtain ⟨ty, e3, e4⟩ := Option.bind_eq_some_iff.mp e1
    obtain ⟨bs, e5, rfl⟩ := Option.map_eq_some_iff.mp e4
    refine ⟨v, tp, ts.map V.ty, .type ty, ts.map Value.type, bs.any id, rfl, upd_same, ?_, (r2.vw s2 c1).ty s2.zs e3, kitAny_of e5, e2.same s2.zs (.bl _)⟩
    have : ∀ ts : List String, Paired ClsV (ts.map V.ty) (ts.map Value.type) := by
      intro ts
      induction ts with
      | nil => exact .nil
      | cons t ts ih => exact .cons (.ty t) ih
    exact this ts
/-! len(range(a, b)) -/
theorem len_rng {prog : Program} {w : World} {A : Around} {E : Value → Shared → Prop} {s : Shared} {a : Addr} {lo hi : Int} {t u v : Tok} {Q : Value → Shared → Prop}
    (ho : s.heap.get? a = some { cls := .type "range", data := .fields #[.int lo t, .int hi u, .int 1 v] }) (hfit : hi - lo < 2 ^ 63) (h : ∀ tk tk', Q (.int ((hi - lo).toNat : Nat) tk) { s with toks := tk' }) :
    wpAny (model prog w) A (call (.builtin "len") [.ref a]) Q E s := by
  have hsz : Builtin.Range.rangeSize lo hi 1 = ((hi - lo).toNat : Nat) := by rw [rangeSize_one]; split <;> omega
  refine Calls.call_function_entry kind_len plain_len entry_len (args_len1 _) ?_
  unfold Builtin.«len»
  refine wpAny_bind (m := oneArg "len" _) (wpAny_pure ?_)
  refine wpAny_bind (m := callSpecial? (.ref a) (Str.ofString "__len__")) (wpAny_callSpecial?_slot (name := Str.ofString "__len__") (T := "range") ⟨_, ho, rfl⟩ F.slot_range_len
    (wpAny_call_entry F.slot_range_len ⟨_, ho, rfl⟩ F.entry_range_len ?_ (F.args_range_len_1 _)))
  unfold Builtin.«range.__len__»
  obtain ⟨hp, g, d, tk, os⟩ := s
  wp_walk
  rw [hsz, if_neg (by omega)]
  refine wpAny_bind (wpAny_mkInt (wpAny_pure ⟨_, rfl, ?_⟩))
  refine wpAny_bind (wpAny_holding (wpAny_pure ?_))
  refine wpAny_bind (wpAny_letGo ?_)
  show wpAny _ _ (if (((hi - lo).toNat : Nat) : Int) < 0 then _ else _) _ _ _
  rw [if_neg (by omega)]
  show wpAny _ _ (if (((hi - lo).toNat : Nat) : Int) ≥ 2 ^ 63 then _ else _) _ _ _
  rw [if_neg (by omega)]
  exact wpAny_bind (wpAny_mkInt (wpAny_pure ⟨_, rfl, h _ _⟩))
theorem call_len_rng : CallR X (.builtin "len") (fun xs H Q => ∃ a lo hi, xs = [.ref a] ∧ H a = some (.rng lo hi) ∧ hi - lo < 2 ^ 63 ∧ Q (.int ((hi - lo).toNat : Nat)) H) := by
  intro pn s sg H xs us Q I r h
  obtain ⟨a, lo, hi, rfl, ha, hf, q⟩ := h
  obtain ⟨u, rfl, rx⟩ := vals1 r
  cases rx
  obtain ⟨t1, t2, t3, ho⟩ := I.hok a _ ha
  exact len_rng ho hf fun tk tk' => ⟨.int _, H, I.tok _, ⟨_, rfl⟩, q⟩
def lenRS (fa fb : En → R (Ld × En)) : En → R (Ld × En) := fun env => (consA fa (consA fb fun e => .ok ([], e)) env).bind fun (ls, e) => match ls with
  | [.dat x, .dat y] => R.of ((lenRD x y).map (·, e))
  | _ => .bad
theorem d_lenR {a b : Expr} {p p2 pos pos2 : Pos} {fa fb : En → R (Ld × En)} (ha : PE X a (rdV C fa)) (hb : PE X b (rdV C fb)) (hg : Gl X "len") (hm : X.mg "len" = none) (hg2 : Gl X "range") (hm2 : X.mg "range" = none)
    (hs : starEach [a, b] X.env = (false, eval a X.env) :: starEach [b] X.env) (hs2 : starEach [b] X.env = [(false, eval b X.env)]) (hpl : (backTo pos2 (starEach [b] X.env)).any (·.1) = false) :
    PE X (.Call (.Name "len" p) [.Call (.Name "range" p2) [a, b] [] pos2] [] pos) (rdV C (lenRS fa fb)) := by
  refine PE.weak (pe_callB call_len_rng hg hm boot_len (pa_cons (pe_callTy cr_range2 hg2 hm2 boot_range (d_cons ha (d_cons hb d_nil hs2) hs) (by decide) (by decide) hs hpl) pa_nil rfl) (by decide) (by decide) rfl rfl) fun σ H Q ⟨env, H0, Hf, s, h⟩ => ?_
  refine ⟨env, H0, Hf, s, (Pst.bind h).imp fun ls e H0' H' s' m h vs r => ?_⟩
  simp only at h
  split at h
  · rename_i x y
    cases c2 : lenRD x y with
    | none => rw [c2] at h; exact h.elim
    | some z =>
      rw [c2] at h
      cases x <;> cases y <;> try (simp [lenRD] at c2; done)
      rename_i i j
      obtain ⟨⟨b1, b2, b3, b4⟩, c3⟩ := grd c2
      cases c3
      cases r with
      | cons ra _ rb =>
        cases rb with
        | cons rb _ rc =>
          cases rc
          cases (show Rep C.K H0' _ (.int i) from ra)
          cases (show Rep C.K H0' _ (.int j) from rb)
          refine ⟨i, j, rfl, fun q hq => ⟨q, i, j, rfl, upd_same, by omega, ?_⟩⟩
          have sm : Same H' (upd H' q (.rng i j)) := fun b x e => by rw [upd_ne (ne_of_none e hq)]; exact e
          exact h H0' _ (s'.gr ⟨sm, .refl _, s'.zs.trans sm, fun _ z => .inl z⟩) (.refl _) _ (.int _)
  · exact h.elim
/-! tuple(sorted(set(x))) of ints -/
def rSetL (w : World) (K : PySem.W.Frag) : List V → Hp → VK → Prop := fun xs H Q => ∃ (l : Addr) (ns : List Int), xs = [.ref l] ∧ SqL K H l (ns.map V.int) ∧ ns.length < 64 ∧ ∀ p c, H p = none → c ≤ ns.length → Q (.ref p) (upd H p (SetO w p (fun j => decide (j ∈ ns)) c))
theorem call_setL (hc : X.calm = true) : CallR X (.type "set") (rSetL X.w X.K) := by
  intro pn s sg H xs us Q I r h
  obtain ⟨l, ns, rfl, hs, hl, q⟩ := h
  obtain ⟨u, rfl, rx⟩ := vals1 r
  cases rx
  obtain ⟨its, rv, p, hz⟩ := I.list hs
  refine set_from_ints ns (I.ok.hd hc) p.isList rv.ints (by rw [show scanBound = 4096 from rfl]; omega) fun h' tk c R hcl hk => ?_
  exact ⟨.ref _, _, I.laid (t' := tk) hk (Nat.le_refl _) (setO_new R), rfl, q _ c (I.hok.fresh (Nat.le_refl _)) hcl⟩
theorem lt_ext : ∀ {a b : List Int}, a.Pairwise (· < ·) → b.Pairwise (· < ·) → (∀ k, k ∈ a ↔ k ∈ b) → a = b
  | [], [], _, _, _ => rfl
  | [], y :: b, _, _, h => absurd ((h y).mpr List.mem_cons_self) (by simp)
  | x :: a, [], _, _, h => absurd ((h x).mp List.mem_cons_self) (by simp)
  | x :: a, y :: b, h1, h2, h => by
    obtain ⟨p1, q1⟩ := List.pairwise_cons.mp h1
    obtain ⟨p2, q2⟩ := List.pairwise_cons.mp h2
    have e : x = y := by
      rcases List.mem_cons.mp ((h x).mp List.mem_cons_self) with e | e
      · exact e
      · rcases List.mem_cons.mp ((h y).mpr List.mem_cons_self) with e' | e'
        · exact e'.symm
        · have a1 := p2 x e
          have a2 := p1 y e'
          omega
    subst e
    rw [lt_ext q1 q2 fun k => ?_]
    constructor
    · intro hk
      rcases List.mem_cons.mp ((h k).mp (List.mem_cons_of_mem _ hk)) with e | e
      · subst e; exact absurd (p1 k hk) (by omega)
      · exact e
    · intro hk
      rcases List.mem_cons.mp ((h k).mpr (List.mem_cons_of_mem _ hk)) with e | e
      · subst e; exact absurd (p2 k hk) (by omega)
      · exact e
/-- an int into an ascending row -/
def insI (x : Int) : List Int → List Int
  | [] => [x]
  | y :: r => if x < y then x :: y :: r else if x = y then y :: r else y :: insI x r
def setI : List Int → List Int
  | [] => []
  | x :: r => insI x (setI r)
theorem mem_insI {x k : Int} : ∀ {l : List Int}, k ∈ insI x l ↔ k = x ∨ k ∈ l
  | [] => by simp [insI]
  | y :: r => by
    unfold insI
    split
    · simp
    · split
      · rename_i h; subst h; simp
      · rw [List.mem_cons, mem_insI, List.mem_cons]
        constructor
        · rintro (h | h | h)
          · exact .inr (.inl h)
          · exact .inl h
          · exact .inr (.inr h)
        · rintro (h | h | h)
          · exact .inr (.inl h)
          · exact .inl h
          · exact .inr (.inr h)
theorem insI_lt {x : Int} : ∀ {l : List Int}, l.Pairwise (· < ·) → (insI x l).Pairwise (· < ·)
  | [], _ => by simp [insI]
  | y :: r, h => by
    obtain ⟨p, q⟩ := List.pairwise_cons.mp h
    unfold insI
    split
    · rename_i hx
      refine List.pairwise_cons.mpr ⟨fun z hz => ?_, h⟩
      rcases List.mem_cons.mp hz with rfl | hz
      · exact hx
      · have := p z hz; omega
    · split
      · exact h
      · refine List.pairwise_cons.mpr ⟨fun z hz => ?_, insI_lt q⟩
        rcases mem_insI.mp hz with rfl | hz
        · omega
        · exact p z hz
theorem mem_setI {k : Int} : ∀ {l : List Int}, k ∈ setI l ↔ k ∈ l
  | [] => by simp [setI]
  | x :: r => by rw [setI, mem_insI, mem_setI, List.mem_cons]
theorem setI_lt : ∀ l : List Int, (setI l).Pairwise (· < ·)
  | [] => .nil
  | x :: r => insI_lt (setI_lt r)
def setofS : D → Option Ld
  | .lst ds => if ds.length < 64 then (intsOf ds).map fun ns => .dat (.tup ((setI ns).map D.int)) else none
  | _ => none
theorem setofS_noCel (d : D) (i : Nat) : setofS d ≠ some (.cel i) := by
  cases d <;> simp [setofS]
theorem d_setof {a : Expr} {p1 p2 p3 q1 q2 q3 : Pos} {fa : En → R (Ld × En)} (hc : X.calm = true) (ha : PE X a (rdV C fa)) (g1 : Gl X "tuple") (m1' : X.mg "tuple" = none) (g2 : Gl X "sorted") (m2' : X.mg "sorted" = none) (g3 : Gl X "set") (m3 : X.mg "set" = none)
    (hs : starEach [a] X.env = [(false, eval a X.env)]) (hK : X.K = C.K) : PE X (.Call (.Name "tuple" p1) [.Call (.Name "sorted" p2) [.Call (.Name "set" p3) [a] [] q3] [] q2] [] q1) (rdV C (m1 fa setofS)) := by
  refine PE.weak (pe_callTy call_tuple_of g1 m1' (by decide +kernel) (pa_cons (pe_callB (cr_sortedSet hc) g2 m2' (by decide +kernel) (pa_cons (pe_callTy (call_setL hc) g3 m3 (by decide +kernel) (pa_cons ha pa_nil hs) (by decide) (by decide) hs rfl) pa_nil rfl) (by decide) (by decide) rfl rfl) pa_nil rfl) (by decide) (by decide) rfl rfl) fun σ H Q ⟨env, H0, Hf, s, h⟩ => ?_
  rw [hK]
  refine ⟨env, H0, Hf, s, (Pst.bind h).imp fun l e H0' H' s' m h v r => ?_⟩
  simp only at h
  cases c1 : cont e l with
  | none => rw [c1] at h; exact h.elim
  | some d =>
    rw [c1] at h
    have vw := r.vw s' c1
    cases d <;> try (exact h.elim)
    rename_i ds
    simp only at h
    cases c2 : setofS (.lst ds) with
    | none => rw [c2] at h; exact h.elim
    | some z =>
      rw [c2] at h
      obtain ⟨hl, c3⟩ := grd c2
      obtain ⟨ns, c4, rfl⟩ := Option.map_eq_some_iff.mp c3
      obtain ⟨a, xs, rfl, q, r1⟩ := vw
      cases intsOf_eq c4
      cases r1.ints
      rw [List.length_map] at hl
      refine ⟨a, ns, rfl, .of q, hl, fun p c hp hcl => ⟨p, _, c, rfl, upd_same, by omega, fun ns' q hlt hm hn hq => ?_⟩⟩
      have en : ns' = setI ns := lt_ext hlt (setI_lt ns) fun k => by rw [hm k, mem_setI, decide_eq_true_iff]
      subst en
      have sm1 : Same H' (upd H' p (SetO X.w p (fun j => decide (j ∈ ns)) c)) := fun b x e => by rw [upd_ne (ne_of_none e hp)]; exact e
      have sm2 : Same (upd H' p (SetO X.w p (fun j => decide (j ∈ ns)) c)) (upd (upd H' p (SetO X.w p (fun j => decide (j ∈ ns)) c)) q (.lst ((setI ns).map V.int))) := fun b x e => by rw [upd_ne (ne_of_none e hq)]; exact e
      have s2 := s'.gr ⟨sm1.trans sm2, .refl _, s'.zs.trans (sm1.trans sm2), fun _ z => .inl z⟩
      refine ⟨q, _, rfl, .inl ⟨.of upd_same, fun l hl => ?_⟩⟩
      have pl := postL s2 (l := .dat (.tup ((setI ns).map D.int))) (fun _ z => nomatch z) h
      exact pl.newT s2.zs (repInts _) hl
end
end FR
set_option Elab.async false
set_option linter.all false
set_option autoImplicit false
set_option maxRecDepth 100000
/-! FRb: the own syntax, looks at the program's syntax -/
namespace FR
open PySem PySem.Spec PyProof.Rows L2

/-! ### looks -/
def noStar : Expr → Bool
  | .Starred _ _ => false
  | _ => true
theorem star1 {e : Expr} (h : noStar e = true) (es : List Expr) (env : Env) : starEach (e :: es) env = (false, eval e env) :: starEach es env := by
  cases e <;> first | rfl | cases h
theorem stars_no {pos : Pos} {env : Env} : ∀ {es : List Expr}, es.all noStar = true → (backTo pos (starEach es env)).any (·.1) = false
  | [], _ => rfl
  | e :: es, h => by
    simp only [List.all_cons, Bool.and_eq_true] at h
    rw [star1 h.1]
    show (false || (backTo pos (starEach es env)).any (·.1)) = false
    rw [stars_no h.2]; rfl
theorem stars_all {pos : Pos} {env : Env} : ∀ {es : List Expr}, es.all noStar = true → (backTo pos (starEach es env)).all (fun x => !x.1) = true
  | [], _ => rfl
  | e :: es, h => by
    simp only [List.all_cons, Bool.and_eq_true] at h
    rw [star1 h.1]
    show (true && (backTo pos (starEach es env)).all (fun x => !x.1)) = true
    rw [stars_all h.2]; rfl
def asgE1 {e : Expr} (h : noStar e = true) (es : List Expr) (env : Env) : assignEach (e :: es) env = (false, assign e env) :: assignEach es env := by
  cases e <;> first | rfl | cases h
def plT : Expr → Bool
  | .UnaryOp .Not _ _ => false
  | .BoolOp _ _ _ => false
  | .IfExp _ _ _ _ => false
  | .Compare _ _ _ _ => false
  | _ => true
theorem plT_ok {e : Expr} {env : Env} (h : plT e = true) (whole : Sem Value) : isTrue e env whole = (do let v ← whole; standAt e.pos; holding [v] (truthy v)) := by
  cases e <;> first | rfl | (cases h; done) | skip
  rename_i op x p
  cases op <;> first | rfl | cases h
def notSet : Expr → Bool
  | .Set _ _ _ => false
  | _ => true
theorem notSet_ok {e : Expr} {env : Env} (h : notSet e = true) (x : Value) : foldedSetIterable e env x = pure x := by
  cases e <;> first | rfl | cases h
def notSli : Expr → Bool
  | .Slice _ _ _ _ => false
  | _ => true
def notCall : Expr → Bool
  | .Call _ _ _ _ => false
  | _ => true
theorem notCall_ok {o : Expr} {env : Env} {x : Str} {w : Sem Value} (h : notCall o = true) : attributeBase o x env w = w := by
  cases o <;> first | rfl | cases h
def noComp : Expr → Bool
  | .ListComp _ _ _ _ => false
  | .SetComp _ _ _ _ => false
  | .DictComp _ _ _ _ _ => false
  | _ => true
theorem noComp_ok {e : Expr} {t : Option Expr} {l : Nat} {env : Env} (h : noComp e = true) : swapsWith e t l env = pure false := by
  cases e <;> first | rfl | cases h
def notName : Expr → Bool
  | .Name _ _ => false
  | _ => true
theorem notName_ok {e t : Expr} {l : Nat} {env : Env} (h : notName t = true) : swapsWith e (some t) l env = pure false := by
  cases t <;> first | (cases h; done) | (cases e <;> rfl)
theorem plainIx_ok {e : Expr} (h : notSli e = true) : PlainIx e := by
  cases e <;> first | (intro _ _; rfl) | (intro _; rfl) | trivial | (cases h; done) | exact ⟨fun _ => rfl⟩
/-- the stores of a row of names that are not swapped -/
def swN (sc : Scope) (ts vs : List Expr) : Bool :=
  !(ts.length == 2 || ts.length == 3) || vs.length != ts.length || ts.any fun
    | .Name id _ => !(sc.names.lookup id == some NameKind.local)
    | _ => true
def notTup : Expr → Bool
  | .Tuple _ _ _ => false
  | _ => true
theorem notTup_ok {t e : Expr} {env : Env} (h : notTup e = true) : swappedStores [t] e env = pure none := by
  cases t <;> cases e <;> first | rfl | cases h
theorem name_ok {x : Str} {p : Pos} {e : Expr} {env : Env} : swappedStores [.Name x p] e env = pure none := by
  cases e <;> rfl
theorem sub_ok {o k : Expr} {p : Pos} {e : Expr} {env : Env} : swappedStores [.Subscript o k p] e env = pure none := by
  cases e <;> rfl
theorem fm_lt {α β : Type} {f : α → Option β} : ∀ {l : List α}, (l.any fun x => (f x).isNone) = true → (l.filterMap f).length ≠ l.length
  | [], h => by simp at h
  | a :: l, h => by
    have hle := List.length_filterMap_le f l
    rw [List.filterMap_cons]
    cases e : f a with
    | none => simp only [List.length_cons]; omega
    | some b =>
      simp only [List.any_cons, e, Option.isNone_some, Bool.false_or] at h
      have := fm_lt h
      simp only [List.length_cons]; omega
theorem swN_ok {sc : Scope} {ts vs : List Expr} {k k2 : Nat} {p p2 : Pos} {env : Env} (hs : env.scope = sc) (h : swN sc ts vs = true) : swappedStores [.Tuple ts k p] (.Tuple vs k2 p2) env = pure none := by
  subst hs
  unfold swappedStores
  simp only [pure_bind]
  by_cases h1 : (!(ts.length == 2 || ts.length == 3) || vs.length != ts.length || env.blockKind != .function) = true
  · rw [if_pos h1]
  · rw [if_neg h1]
    split
    · rfl
    · have h3 : (ts.any fun | .Name id _ => !(env.scope.names.lookup id == some NameKind.local) | _ => true) = true := by
        unfold swN at h
        simp only [Bool.or_eq_true, not_or] at h h1
        rcases h with (h | h) | h
        · exact absurd h h1.1.1
        · exact absurd h h1.1.2
        · exact h
      rw [if_pos]
      · rw [Bool.or_eq_true]
        left
        simp only [bne_iff_ne]
        refine fm_lt ?_
        rw [List.any_eq_true] at h3 ⊢
        obtain ⟨x, hx, h3⟩ := h3
        refine ⟨x, hx, ?_⟩
        cases x <;> first | rfl | skip
        rename_i id pos
        simp only at h3 ⊢
        rw [if_neg]
        · rfl
        · intro z
          simp only [Bool.and_eq_true] at z
          have : (env.scope.names.lookup id == some NameKind.local) = true := z.1
          rw [this] at h3
          cases h3
/-- two, three names whose stores are swapped -/
def swY (sc : Scope) (vs : List Expr) (xs : List (Str × Pos)) : Bool :=
  (xs.length == 2 || xs.length == 3) && (vs.length == xs.length) && (match sc.kind with | .function => true | _ => false) && vs.all noStar &&
    (xs.all fun x => sc.names.lookup x.1 == some NameKind.local && x.2.line == ((xs.head?.map (·.2.line)).getD 0)) && ((xs.map (·.1)).eraseDups.length == xs.length) && !(vs.all (foldedForSure 8)) && !(vs.all (constantsAlone 8))
theorem swY_ok {sc : Scope} {vs : List Expr} {k k2 : Nat} {p p2 : Pos} {env : Env} {xs : List (Str × Pos)} (hs : env.scope = sc) (h : swY sc vs xs = true) :
    swappedStores [.Tuple (xs.map fun x => .Name x.1 x.2) k p] (.Tuple vs k2 p2) env = pure (some (xs.map (·.1))) := by
  subst hs
  unfold swY at h
  simp only [Bool.and_eq_true] at h
  obtain ⟨⟨⟨⟨⟨⟨⟨h1, h2⟩, h3⟩, h4⟩, h5⟩, h6⟩, h7⟩, h8⟩ := h
  have hk : env.scope.kind = .function := by
    revert h3; cases env.scope.kind <;> simp
  have hb : env.blockKind = .function := by unfold Env.blockKind; rw [hk]; rfl
  have e0 : ((xs.map fun x => Expr.Name x.1 x.2).head?.map (·.pos.line)).getD 0 = ((xs.head?.map (·.2.line)).getD 0) := by cases xs <;> rfl
  have hn : ∀ f : Expr → Option Str, (∀ id pos, f (.Name id pos) = if env.kindOf id == some .local && pos.line == ((xs.head?.map (·.2.line)).getD 0) then some id else none) → (xs.map fun x => Expr.Name x.1 x.2).filterMap f = xs.map (·.1) := by
    intro f hf
    generalize ((xs.head?.map (·.2.line)).getD 0) = ln at h5 hf
    clear h1 h2 h3 h4 h6 h7 h8 e0
    induction xs with
    | nil => rfl
    | cons a r ih =>
      rw [List.all_cons, Bool.and_eq_true] at h5
      rw [List.map_cons, List.filterMap_cons, hf]
      have : (env.kindOf a.1 == some .local && a.2.line == ln) = true := h5.1
      simp only [this, if_true]
      rw [ih h5.2]
      rfl
  unfold swappedStores
  simp only [pure_bind]
  rw [if_neg, if_neg]
  · rw [hn _ (fun id pos => by rw [e0])]
    rw [if_neg, if_neg, if_neg]
    · simp only [Bool.not_eq_true', Bool.not_eq_true] at h8 ⊢; exact h8
    · simp only [Bool.not_eq_true', Bool.not_eq_true] at h7 ⊢; exact h7
    · intro z
      simp only [Bool.or_eq_true, bne_iff_ne, List.length_map, ne_eq, beq_iff_eq] at h6 z
      rcases z with z | z
      · exact z trivial
      · exact z h6
  · intro z
    rw [List.any_eq_true] at z
    obtain ⟨x, hx, z⟩ := z
    have := List.all_eq_true.mp h4 x hx
    cases x <;> first | (cases this; done) | cases z
  · rw [hb]
    intro z
    simp only [List.length_map, beq_iff_eq, Bool.or_eq_true, bne_iff_ne, ne_eq, Bool.not_eq_true'] at h1 h2 z
    rcases z with (z | z) | z
    · rcases h1 with h1 | h1 <;> rw [h1] at z <;> cases z
    · exact z h2
    · exact z trivial
/-- does a comprehension that goes to a name change places with it -/
def swC (sc : Scope) (e : Expr) (y : Str) (py : Pos) : Bool := match e with
  | .ListComp _ _ s p => sc.names.lookup y == some NameKind.local && py.line == p.line && !(s.names.any fun (n, k) => n == y && (k == NameKind.local || k == NameKind.cell))
  | .SetComp _ _ s p => sc.names.lookup y == some NameKind.local && py.line == p.line && !(s.names.any fun (n, k) => n == y && (k == NameKind.local || k == NameKind.cell))
  | .DictComp _ _ _ s p => sc.names.lookup y == some NameKind.local && py.line == p.line && !(s.names.any fun (n, k) => n == y && (k == NameKind.local || k == NameKind.cell))
  | _ => false
theorem swC_ok {sc : Scope} {e : Expr} {y : Str} {py : Pos} {l : Nat} {env : Env} (hs : env.scope = sc) (hk : sc.kind = .function) : swapsWith e (some (.Name y py)) l env = pure (swC sc e y py) := by
  subst hs
  have hb : env.blockKind = .function := by unfold Env.blockKind; rw [hk]; rfl
  cases e <;> first | rfl | (unfold swapsWith; simp only [hb]; rfl)
end FR
set_option Elab.async false
set_option linter.all false
set_option autoImplicit false
set_option maxRecDepth 100000
/-! FRk: calls without arguments, by names -/
namespace FR
open PySem PySem.Spec PyProof.Rows L2
section
variable {K : PySem.W.Frag} {env : En} {σ : L2.St} {H0 Hf H : Hp}
theorem LdRs.at : ∀ {vs : List V} {ls : List Ld}, LdRs K env σ H0 Hf H vs ls → ∀ (k : Nat) v l, vs[k]? = some v → ls[k]? = some l → LdR K env σ H0 Hf H v l
  | _, _, .nil, _, _, _, h, _ => by simp at h
  | _, _, .cons a b c, 0, _, _, h, h' => by simp at h h'; subst h; subst h'; exact a
  | _, _, .cons a b c, k + 1, v, l, h, h' => c.at k v l (by simpa using h) (by simpa using h')
theorem LdRs.dis : ∀ {vs : List V} {ls : List Ld}, LdRs K env σ H0 Hf H vs ls → ∀ (i j : Nat) p d d', i ≠ j → vs[i]? = some (.ref p) → ls[i]? = some (.frs d) → ls[j]? = some (.frs d') → vs[j]? ≠ some (.ref p)
  | _, _, .nil, _, _, _, _, _, _, h, _, _ => by simp at h
  | _, _, .cons a b c, 0, 0, _, _, _, h, _, _, _ => absurd rfl h
  | _, _, .cons (v := v) (l := l) (vs := vs) (ls := ls) a b c, 0, j + 1, p, d, d', _, h1, h2, h3 => by
    simp at h1 h2 h3
    subst h1; subst h2
    intro h4
    simp at h4
    refine b p d rfl rfl (.ref p) d' ?_ rfl
    refine List.mem_iff_getElem?.mpr ⟨j, ?_⟩
    rw [List.getElem?_zip_eq_some]
    exact ⟨h4, h3⟩
  | _, _, .cons (v := v) (l := l) (vs := vs) (ls := ls) a b c, i + 1, 0, p, d, d', _, h1, h2, h3 => by
    simp at h1 h2 h3
    subst h3
    intro h4
    simp at h4
    subst h4
    refine b p d' rfl rfl (.ref p) d ?_ rfl
    refine List.mem_iff_getElem?.mpr ⟨i, ?_⟩
    rw [List.getElem?_zip_eq_some]
    exact ⟨h1, h2⟩
  | _, _, .cons a b c, i + 1, j + 1, p, d, d', n, h1, h2, h3 => by
    simp at h1 h2 h3
    intro h4
    simp at h4
    exact c.dis i j p d d' (fun z => n (by rw [z])) h1 h2 h3 h4
def permV (pm : List Nat) (vs : List V) : List V := pm.map fun i => vs.getD i .non
theorem LdRs.perm {vs : List V} {ls : List Ld} (r : LdRs K env σ H0 Hf H vs ls) : ∀ {pm : List Nat} {ks : List Ld}, pm.Nodup → permL pm ls = some ks → LdRs K env σ H0 Hf H (permV pm vs) ks
  | [], ks, _, h => by cases h; exact .nil
  | i :: pm, ks, hn, h => by
    unfold permL at h
    rw [List.mapM_cons] at h
    obtain ⟨l, h1, h2⟩ := Option.bind_eq_some_iff.mp h
    obtain ⟨ks', h3, h4⟩ := Option.bind_eq_some_iff.mp h2
    cases h4
    have hl := r.len
    obtain ⟨hi, _⟩ := List.getElem?_eq_some_iff.mp h1
    have hv : vs[i]? = some (vs.getD i .non) := by
      rw [List.getD_eq_getElem?_getD]
      rw [← hl] at hi
      rw [List.getElem?_eq_getElem hi]; rfl
    obtain ⟨hn1, hn2⟩ := List.nodup_cons.mp hn
    have ih := LdRs.perm r hn2 h3
    refine .cons (r.at i _ _ hv h1) (fun p d e1 e2 w d' hm => ?_) ih
    subst e1
    obtain ⟨j, hj⟩ := List.mem_iff_getElem?.mp hm
    rw [List.getElem?_zip_eq_some] at hj
    obtain ⟨hj1, hj2⟩ := hj
    have hj1 : (pm.map fun i => vs.getD i V.non)[j]? = some w := hj1
    rw [List.getElem?_map] at hj1
    obtain ⟨m, hm1, hm2⟩ := Option.map_eq_some_iff.mp hj1
    have hm3 : ls[m]? = some (.frs d') := by
      have key : ∀ {pm : List Nat} {ks' : List Ld}, List.mapM (fun i => ls[i]?) pm = some ks' → ∀ (j m : Nat), pm[j]? = some m → ks'[j]? = ls[m]? := by
        intro pm
        induction pm with
        | nil => intro ks' _ j m e; simp at e
        | cons a pm ih =>
          intro ks' h j m e
          rw [List.mapM_cons] at h
          obtain ⟨l, h1, h2⟩ := Option.bind_eq_some_iff.mp h
          obtain ⟨ks'', h3, h4⟩ := Option.bind_eq_some_iff.mp h2
          cases h4
          cases j with
          | zero => simp at e; subst e; simp [h1]
          | succ j => simp at e ⊢; exact ih h3 j m e
      rw [← key h3 j m hm1]; exact hj2
    have hmi : i ≠ m := by
      rintro rfl
      exact hn1 (List.mem_iff_getElem?.mpr ⟨j, hm1⟩)
    intro hw
    rw [hw] at hm2
    have hvm : vs[m]? = some (.ref p) := by
      rw [List.getD_eq_getElem?_getD] at hm2
      cases q : vs[m]? with
      | none => rw [q] at hm2; cases hm2
      | some z => rw [q] at hm2; simp at hm2; rw [hm2]
    exact r.dis i m p d d' hmi (hv.trans (congrArg some e2)) h1 hm3 hvm
end
theorem Vals.at {vs : List V} {us : List Value} (r : Vals vs us) : ∀ (i : Nat), RelV (vs.getD i .non) (us.getD i .none) := by
  induction r with
  | nil => intro i; simp [List.getD]; rfl
  | cons a b ih =>
    intro i
    cases i with
    | zero => exact a
    | succ i => simpa [List.getD] using ih i
theorem vals_perm {vs : List V} {us : List Value} (r : Vals vs us) : ∀ (pm : List Nat), Vals (permV pm vs) (pm.map fun i => us.getD i .none)
  | [] => .nil
  | i :: pm => .cons (Vals.at r i) (vals_perm r pm)
/-- how a def binds when it is called by names -/
def KwB (K : PySem.W.Frag) (fd : FuncData) (ps ks : List Str) (pm : List Nat) : Prop :=
  ∀ (s : Shared) (ws : List Value), K.In s.heap → ws.length = ks.length → BindsTo s fd ⟨[], ks.zip ws⟩ (ps.zip (pm.map fun i => ws.getD i .none))
section
variable {X : Cx} {C : Cq} {f : Addr} {fd : FuncData} {ps ks : List Str} {pm : List Nat} {k : Nat} {x : Str} {p pos : Pos} {kws : List Keyword} {fs : En → R (List Ld × En)} {F : Fn}
theorem PK.weak {t t' : TA} (h : PK X kws t) (w : ∀ σ H Q, t' σ H Q → t σ H Q) : PK X kws t' := ⟨fun ps pn s sg H Q I q => h.run ps pn s sg H Q I (w sg H Q q)⟩
theorem dk_nil : PK X [] (rdA C fun env => .ok ([], env)) := by
  refine PK.weak pk_nil fun σ H Q h => ?_
  obtain ⟨env, H0, Hf, s, h⟩ := h
  exact h H0 H s (.refl _) [] .nil
theorem dk_cons {a : Expr} {nm : Option Str} {kp : Pos} {fa : En → R (Ld × En)} (ha : PE X a (rdV C fa)) (hs : PK X kws (rdA C fs)) : PK X (⟨nm, a, kp⟩ :: kws) (rdA C (consA fa fs)) :=
  PK.weak (pk_cons ha hs) fun σ H Q h => cons_read h
theorem kw_all {env : Env} : ∀ {kws : List Keyword} {ks : List Str}, kws.map (·.arg) = ks.map some → (backToKw pos (keywordEach kws env)).all (·.1.isSome) = true ∧ (backToKw pos (keywordEach kws env)).any (·.1.isNone) = false ∧ (backToKw pos (keywordEach kws env)).filterMap (·.1) = ks ∧ (backToKw pos (keywordEach kws env)).length = ks.length
  | [], ks, h => by cases ks with
    | nil => exact ⟨rfl, rfl, rfl, rfl⟩
    | cons _ _ => cases h
  | ⟨nm, a, kp⟩ :: kws, ks, h => by
    cases ks with
    | nil => cases h
    | cons y ks =>
      rw [List.map_cons, List.map_cons, List.cons.injEq] at h
      obtain ⟨h1, h2⟩ := h
      obtain ⟨i1, i2, i3, i4⟩ := kw_all (env := env) h2
      have h1 : nm = some y := h1
      subst h1
      refine ⟨?_, ?_, ?_, ?_⟩
      · show (true && (backToKw pos (keywordEach kws env)).all (·.1.isSome)) = true
        rw [i1]; rfl
      · show (false || (backToKw pos (keywordEach kws env)).any (·.1.isNone)) = false
        rw [i2]; rfl
      · show y :: (backToKw pos (keywordEach kws env)).filterMap (·.1) = _
        rw [i3]
      · show (backToKw pos (keywordEach kws env)).length + 1 = _
        rw [i4]; rfl
def callkS (F : Fn) (pm : List Nat) (fs : En → R (List Ld × En)) : En → R (Ld × En) := fun env => (fs env).bind fun (ls, e) => match permL pm ls with
    | some ks => doCall F ks e
    | none => .bad
theorem permL_len {ls ks : List Ld} : ∀ {pm : List Nat}, permL pm ls = some ks → (∀ i ∈ pm, i < ls.length)
  | [], _ => by simp
  | i :: pm, h => by
    unfold permL at h
    rw [List.mapM_cons] at h
    obtain ⟨l, h1, h2⟩ := Option.bind_eq_some_iff.mp h
    obtain ⟨ks', h3, h4⟩ := Option.bind_eq_some_iff.mp h2
    intro j hj
    rcases List.mem_cons.mp hj with rfl | hj
    · exact (List.getElem?_eq_some_iff.mp h1).1
    · have : ∀ {pm : List Nat} {ks' : List Ld}, List.mapM (fun i => ls[i]?) pm = some ks' → ∀ i ∈ pm, i < ls.length := by
        intro pm
        induction pm with
        | nil => intro _ _ i hi; simp at hi
        | cons a pm ih =>
          intro ks' h i hi
          rw [List.mapM_cons] at h
          obtain ⟨l, h1, h2⟩ := Option.bind_eq_some_iff.mp h
          obtain ⟨ks'', h3, h4⟩ := Option.bind_eq_some_iff.mp h2
          rcases List.mem_cons.mp hi with rfl | hi
          · exact (List.getElem?_eq_some_iff.mp h1).1
          · exact ih h3 i hi
      exact this h3 j hj
/-- f(k = v, ..) -/
theorem d_callk (G : FnOk X.prog X.w X.K X.mg X.base (L2.CX X.prog X.w) k f fd ps (spF C F)) (tk : Takes X C.W) (hr : Room k X.A) (hg : Gl X x) (hm : X.mg x = some (.ref f)) (hk : PySem.W.keepIn X.K (.ref f) = true) (hb : KwB X.K fd ps ks pm) (hpm : pm.Nodup)
    (ha : PK X kws (rdA C fs)) (hks : kws.map (·.arg) = ks.map some) (hlen : ∀ env ls e, fs env = .ok (ls, e) → ls.length = ks.length) (hdb : (x == ("__debug__" : Str)) = false) :
    PE X (.Call (.Name x p) [] kws pos) (rdV C (callkS F pm fs)) := by
  refine ⟨fun pins s σ H Q I h => ?_⟩
  refine wpAny_Call_Name_kw (ld_glob I hg hm ?_ hdb)
  obtain ⟨i1, i2, i3, i4⟩ := kw_all (pos := pos) (env := X.env) hks
  refine PySem.W.callWith_KW0 (h₀ := X.base) I.ok.mod.kin hk i1 (thn (ha.run pos pins s σ H (fun vs H1 => vs.length = ks.length ∧ spF C F (permV pm vs) H1 Q (fun cls d H => C.W cls d σ H)) I ?_) fun us s1 ⟨vs, H1, I1, r, hl, q⟩ => ⟨I1.kIn, ?_⟩) (by rw [i2]; rfl)
  · obtain ⟨env, H0, Hf, st, h⟩ := h
    refine ⟨env, H0, Hf, st, ?_⟩
    unfold callkS at h
    cases e1 : fs env with
    | bad => rw [e1] at h; exact h
    | ex x e => rw [e1] at h; exact h
    | ok q =>
      obtain ⟨ls, e⟩ := q
      rw [e1] at h
      have hl := hlen _ _ _ e1
      intro H0' H' s' m vs r
      refine ⟨by rw [r.len, hl], ?_⟩
      have h : Pst C σ H0 Hf (match permL pm ls with | some ks => doCall F ks e | none => .bad) _ := h
      cases e2 : permL pm ls with
      | none => rw [e2] at h; exact h.elim
      | some ks' =>
        rw [e2] at h
        exact call_ok s' (r.perm hpm e2) (Pst.from m h)
  · rw [i3]
    have r2 := vals_perm r pm
    have hl2 : (pm.map fun i => us.getD i Value.none).length = ps.length := by rw [← r2.length]; exact G.len _ _ _ _ q
    refine wpAny_call (codeAny_mono (G.run X.A X.stack s1 H1 ⟨[], ks.zip us⟩ _ _ Q _ hr I1.env0 (hb s1 us I1.kIn (by rw [← r.length, hl])) r2 q) fun r s' hq => ?_)
    cases r with
    | error e => exact passAt tk σ pins H1 s1 e s' I1 hq
    | ok fl =>
      cases fl with
      | ret u => exact I1.after hq
      | next => exact False.elim hq
      | brk => exact False.elim hq
      | cont => exact False.elim hq
/-- f() -/
theorem d_call0 (G : FnOk X.prog X.w X.K X.mg X.base (L2.CX X.prog X.w) k f fd ps (spF C F)) (tk : Takes X C.W) (hr : Room k X.A) (hg : Gl X x) (hm : X.mg x = some (.ref f)) (hk : PySem.W.keepIn X.K (.ref f) = true) (hb : Binds X.K fd ps [])
    (hdb : (x == ("__debug__" : Str)) = false) : PE X (.Call (.Name x p) [] [] pos) (rdV C (callS F fun env => .ok ([], env))) := by
  refine ⟨fun pins s σ H Q I h => ?_⟩
  refine wpAny_Call_Name_kw (ld_glob I hg hm ?_ hdb)
  refine PySem.W.callWith_K0 I.kIn hk ?_
  obtain ⟨env, H0, Hf, st, h⟩ := h
  have h : Pst C σ H0 Hf (doCall F [] env) fun l env' H0' H' => ∀ v, LdR C.K env' σ H0' Hf H' v l → Q v H' := h
  refine run_fnSD (dvs := []) (ds := []) (E := fun σ cls d H => C.W cls d σ H) G hr hb .nil (passAt tk σ) I .nil ?_
  exact call_ok st .nil h
end
end FR
set_option Elab.async false
set_option linter.all false
set_option autoImplicit false
set_option maxRecDepth 100000
/-! FRc: the own syntax: meaning, look, and that the look suffices -/
namespace FR
open PySem PySem.Spec PyProof.Rows L2

/-- constants of the module that are told apart -/
def sameC : D → D → Bool
  | .int i, .int j => i == j
  | .str x, .str y => x == y
  | .tup [.str x], .tup [.str y] => x == y
  | _, _ => false
theorem sameC_ok {a b : D} (h : sameC a b = true) : a = b := by
  unfold sameC at h
  split at h
  · simp only [beq_iff_eq] at h; rw [h]
  · simp only [beq_iff_eq] at h; rw [h]
  · simp only [beq_iff_eq] at h; rw [h]
  · cases h
inductive E where
  | nil | cons (a r : E) | star (a r : E)
  | var (i : Nat) | fz (i : Nat) | mv (i : Nat)
  | cI (i : Int) | cB (b : Bool) | cN | cS (x : Str) | gl (d : D)
  | bin (o : Bop) (a b : E) | neg (a : E) | cmp (c : Cop) (a b : E)
  | and (a b : E) | or (a b : E) | one (a : E) | not (a : E) | ite (c a b : E)
  | tup (a : E) | lst (a : E) | ix (a b : E) | sli (a lo hi : E)
  | bf (f : Bf) (a : E) | isi (a : E) (ts : List String) | setof (a : E) | lenR (a b : E)
  | call (f : Nat) (a : E) | callk (f : Nat) (q : Nat) (a : E)
  | lc (own : List Nat) (t : T) (it c e : E)
  | iR (a : E) | iEn (a : E) | iZ (a b : E)
  | app (i : Nat) (a : E)
/-- how many values an argument row has -/
def argN : E → Option Nat
  | .nil => some 0
  | .cons _ r => (argN r).map (· + 1)
  | _ => none
def E.isNil : E → Bool
  | .nil => true
  | _ => false
/-- a def, how it is called by names: how many by place, the names, the places of all -/
structure Kq where
  f : Nat
  np : Nat
  ks : List Str
  pm : List Nat
section
variable (Γ : Nat → Fn) (kq : Nat → Kq)
def bad1 : En → R (Ld × En) := fun _ => .bad
def sem : E → Sm
  | .nil => { ofV bad1 with a := fun env => .ok ([], env), t := fun env => .ok (true, env) }
  | .cons a r => { ofV bad1 with a := consA (sem a).v (sem r).a }
  | .star a r => { ofV bad1 with a := starA (sem a).v (sem r).a }
  | .var i => ofV (varS i)
  | .fz i => ofV (fzS i)
  | .mv i => ofV (mvS i)
  | .cI i => ofV (pureV (.int i))
  | .cB b => ofV (pureV (.bl b))
  | .cN => ofV (pureV .non)
  | .cS x => ofV (pureV (.str x))
  | .gl d => ofV (pureV d)
  | .bin o a b => ofV (m2 (sem a).v (sem b).v o.run)
  | .neg a => ofV (m1 (sem a).v fun | .int i => one (.int (-i)) | _ => none)
  | .cmp c a b => ofV (m2 (sem a).v (sem b).v c.run)
  | .and a b => { ofV (andV (sem a).v (sem b).v) with t := andT (sem a).t (sem b).t }
  | .or a b => { ofV (orV (sem a).v (sem b).v) with t := orT (sem a).t (sem b).t }
  | .one a => { ofV (sem a).v with t := (sem a).t }
  | .not a => { ofV (notV (sem a).v) with t := notT (sem a).t }
  | .ite c a b => ofV (iteS (sem c).t (sem a).v (sem b).v)
  | .tup a => ofV (tupS (sem a).a)
  | .lst a => ofV (lstS (sem a).a)
  | .ix a b => ofV (m2 (sem a).v (sem b).v ixD)
  | .sli a lo hi => ofV (msl (sem a).v (part lo.isNil (sem lo).v) (part hi.isNil (sem hi).v))
  | .bf f a => ofV (ma (sem a).a f.run)
  | .isi a ts => ofV (m1 (sem a).v (isiD ts))
  | .setof a => ofV (m1 (sem a).v setofS)
  | .lenR a b => ofV (lenRS (sem a).v (sem b).v)
  | .call f a => ofV (callS (Γ f) (sem a).a)
  | .callk f q a => ofV (callkS (Γ f) (kq q).pm (sem a).a)
  | .lc own t it c f => ofV (doLc own t (sem it).i (sem c).t (sem f).v)
  | .iR a => { ofV bad1 with i := rngS (sem a).v }
  | .iEn a => { ofV bad1 with i := enuS (sem a).v }
  | .iZ a b => { ofV bad1 with i := zipS (sem a).v (sem b).v }
  | .app i a => ofV (appS i (sem a).v)
end

/-! ### the look -/
structure Sc where
  sc : Scope
  fc : Str → Bool
def Sc.gl (s : Sc) (x : Str) : Bool := s.sc.names.lookup x == some NameKind.globalImplicit
def Sc.vis (s : Sc) (x : Str) : Bool := s.sc.names.lookup x == some NameKind.local || s.sc.names.lookup x == some NameKind.cell || s.sc.names.lookup x == some NameKind.free
def Sc.loc (s : Sc) (x : Str) : Bool := s.sc.names.lookup x == some NameKind.local || (s.sc.names.lookup x == some NameKind.cell && s.fc x)
/-- the names of slots, defs, constants -/
structure Nm where
  N : List Str
  fN : Nat → Option Str
  cN : List (Str × D)
  pin : List Nat
structure Mm where
  v : Sc → Expr → Bool
  t : Sc → Expr → Bool
  w : Sc → Expr → Bool
  a : Sc → List Expr → Bool
  k : Sc → List Keyword → Bool
  i : Sc → Expr → Expr → Bool
def mkV (v : Sc → Expr → Bool) : Mm where
  v := v
  t := fun s e => plT e && v s e
  w := fun _ _ => false
  a := fun _ _ => false
  k := fun _ _ => false
  i := fun s _ e => v s e
def noV : Sc → Expr → Bool := fun _ _ => false
def mtT (N : List Str) : T → (Sc → Expr → Bool) × (Sc → List Expr → Bool)
  | .nm i => (fun s e => match e with
    | .Name x _ => N[i]? == some x && s.loc x
    | _ => false, fun _ _ => false)
  | .tp ts => (fun s e => match e with
    | .Tuple es _ _ => (mtT N ts).2 s es
    | _ => false, fun _ _ => false)
  | .nil => (fun _ _ => false, fun _ es => es.isEmpty)
  | .cons a b => (fun _ _ => false, fun s es => match es with
    | e :: es => noStar e && (mtT N a).1 s e && (mtT N b).2 s es
    | _ => false)
def mname (nm : Nm) (i : Nat) : Sc → Expr → Bool := fun s e => match e with
  | .Name x _ => nm.N[i]? == some x && s.vis x && !(x == ("__debug__" : Str)) && !(x == ("__classdict__" : Str))
  | _ => false
def blkS (s : Sc) (scope : Scope) : Sc := ⟨relS scope s.sc, fun x => scope.names.lookup x == some NameKind.cell⟩
def ownN (N : List Str) (own : List Nat) : List (Str × Nat) := own.map fun i => (N.getD i "", i)
def mty (s : Sc) (t : String) : Expr → Bool
  | .Name x _ => x == (t : Str) && s.gl x
  | _ => false
def tyNs : List String := ["list", "tuple", "bool", "int", "str", "dict"]
def mtys (s : Sc) : List String → List Expr → Bool
  | [], [] => true
  | t :: ts, e :: es => mty s t e && mtys s ts es
  | _, _ => false
/-! views -/
def vC : Expr → Option (Str × List Expr)
  | .Call (.Name x _) es [] _ => some (x, es)
  | _ => none
theorem vC_ok {e : Expr} {x : Str} {es : List Expr} (h : vC e = some (x, es)) : ∃ p pos, e = .Call (.Name x p) es [] pos := by
  unfold vC at h
  split at h
  · cases h; exact ⟨_, _, rfl⟩
  · cases h
def v1 : List Expr → Option Expr
  | [e] => some e
  | _ => none
def v2 : List Expr → Option (Expr × Expr)
  | [a, b] => some (a, b)
  | _ => none
theorem v1_ok {es : List Expr} {e : Expr} (h : v1 es = some e) : es = [e] := by
  unfold v1 at h
  split at h
  · cases h; rfl
  · cases h
theorem v2_ok {es : List Expr} {a b : Expr} (h : v2 es = some (a, b)) : es = [a, b] := by
  unfold v2 at h
  split at h
  · cases h; rfl
  · cases h
def vC1 (e : Expr) : Option (Str × Expr) := (vC e).bind fun (x, es) => (v1 es).map fun a => (x, a)
def vC2 (e : Expr) : Option (Str × Expr × Expr) := (vC e).bind fun (x, es) => (v2 es).map fun (a, b) => (x, a, b)
theorem vC1_ok {e : Expr} {x : Str} {a : Expr} (h : vC1 e = some (x, a)) : ∃ p pos, e = .Call (.Name x p) [a] [] pos := by
  obtain ⟨⟨y, es⟩, h1, h2⟩ := Option.bind_eq_some_iff.mp h
  obtain ⟨a', h3, h4⟩ := Option.map_eq_some_iff.mp h2
  cases h4
  rw [v1_ok h3] at h1
  exact vC_ok h1
theorem vC2_ok {e : Expr} {x : Str} {a b : Expr} (h : vC2 e = some (x, a, b)) : ∃ p pos, e = .Call (.Name x p) [a, b] [] pos := by
  obtain ⟨⟨y, es⟩, h1, h2⟩ := Option.bind_eq_some_iff.mp h
  obtain ⟨⟨a', b'⟩, h3, h4⟩ := Option.map_eq_some_iff.mp h2
  cases h4
  rw [v2_ok h3] at h1
  exact vC_ok h1
def vNm : Expr → Option Str
  | .Name x _ => some x
  | _ => none
theorem vNm_ok {e : Expr} {x : Str} (h : vNm e = some x) : ∃ p, e = .Name x p := by
  cases e <;> first | (cases h; done) | skip
  cases h; exact ⟨_, rfl⟩
def vTup : Expr → Option (List Expr)
  | .Tuple es _ _ => some es
  | _ => none
theorem vTup_ok {e : Expr} {es : List Expr} (h : vTup e = some es) : ∃ k p, e = .Tuple es k p := by
  cases e <;> first | (cases h; done) | skip
  cases h; exact ⟨_, _, rfl⟩
theorem oany {α : Type} {o : Option α} {p : α → Bool} (h : o.any p = true) : ∃ a, o = some a ∧ p a = true := by
  cases o with
  | none => cases h
  | some a => exact ⟨a, rfl, h⟩
def optM (b : Bool) (f : Expr → Bool) : Option Expr → Bool
  | none => b
  | some e => !b && f e
def ifsM (b : Bool) (f : Expr → Bool) : List Expr → Bool
  | [] => b
  | [e] => !b && f e
  | _ => false
def vLc : Expr → Option (Expr × Expr × Expr × List Expr × Scope)
  | .ListComp elt [⟨tg, iter, ifs, 0⟩] scope _ => some (elt, tg, iter, ifs, scope)
  | _ => none
theorem vLc_ok {e elt tg iter : Expr} {ifs : List Expr} {scope : Scope} (h : vLc e = some (elt, tg, iter, ifs, scope)) : ∃ p, e = .ListComp elt [⟨tg, iter, ifs, 0⟩] scope p := by
  unfold vLc at h
  split at h
  · cases h; exact ⟨_, rfl⟩
  · cases h
def vKw : Expr → Option (Str × List Keyword)
  | .Call (.Name x _) [] kws _ => some (x, kws)
  | _ => none
theorem vKw_ok {e : Expr} {x : Str} {kws : List Keyword} (h : vKw e = some (x, kws)) : ∃ p pos, e = .Call (.Name x p) [] kws pos := by
  unfold vKw at h
  split at h
  · cases h; exact ⟨_, _, rfl⟩
  · cases h
/-- o.m(e1) -/
def vM1 : Expr → Option (Expr × Str × Expr × Bool)
  | .Call (.Attribute o m apos) [e1] [] pos => some (o, m, e1, apos.endLine == pos.line)
  | _ => none
theorem vM1_ok {e o : Expr} {m : Str} {e1 : Expr} {b : Bool} (h : vM1 e = some (o, m, e1, b)) : ∃ apos pos, e = .Call (.Attribute o m apos) [e1] [] pos ∧ (apos.endLine == pos.line) = b := by
  unfold vM1 at h
  split at h
  · cases h; exact ⟨_, _, rfl, rfl⟩
  · cases h
def mt (nm : Nm) (kq : Nat → Kq) : E → Mm
  | .nil => { mkV noV with a := fun _ es => es.isEmpty, k := fun _ es => es.isEmpty }
  | .cons a r => { mkV noV with
    a := (fun s es => match es with
      | e :: es => noStar e && (mt nm kq a).v s e && (mt nm kq r).a s es
      | _ => false)
    k := (fun s es => match es with
      | kw :: es => (mt nm kq a).v s kw.value && (mt nm kq r).k s es
      | _ => false) }
  | .star a r => { mkV noV with a := fun s es => match es with
    | .Starred e _ :: es => (mt nm kq a).v s e && (mt nm kq r).a s es
    | _ => false }
  | .var i => mkV (mname nm i)
  | .fz i => mkV (mname nm i)
  | .mv i => mkV (mname nm i)
  | .cI i => mkV fun _ e => match e with
    | .Constant (.int j) _ _ => i == j
    | _ => false
  | .cB b => mkV fun _ e => match e with
    | .Constant (.bool j) _ _ => b == j
    | _ => false
  | .cN => mkV fun _ e => match e with
    | .Constant .none _ _ => true
    | _ => false
  | .cS x => mkV fun _ e => match e with
    | .Constant (.str y) _ _ => x == y
    | _ => false
  | .gl d => mkV fun s e => match e with
    | .Name x _ => nm.cN.any (fun p => p.1 == x && sameC p.2 d) && s.gl x && !(x == ("__debug__" : Str))
    | _ => false
  | .bin o a b => mkV fun s e => match e with
    | .BinOp x op y _ => op == o.op && (mt nm kq a).v s x && (mt nm kq b).v s y
    | _ => false
  | .neg a => mkV fun s e => match e with
    | .UnaryOp .USub x _ => (mt nm kq a).v s x
    | _ => false
  | .cmp c a b =>
    let f : Sc → Expr → Bool := fun s e => match e with
      | .Compare x [op] [y] _ => op == c.op && (mt nm kq a).v s x && (mt nm kq b).v s y
      | _ => false
    { mkV f with t := f }
  | .and a b =>
    let f : Sc → Expr → Bool := fun s e => match e with
      | .BoolOp .And (x :: y :: rest) p => (mt nm kq a).t s x && (mt nm kq b).w s (.BoolOp .And (y :: rest) p)
      | _ => false
    { mkV (fun s e => match e with
      | .BoolOp .And (x :: y :: rest) p => (mt nm kq a).v s x && (mt nm kq b).v s (.BoolOp .And (y :: rest) p)
      | _ => false) with t := f, w := f }
  | .or a b =>
    let f : Sc → Expr → Bool := fun s e => match e with
      | .BoolOp .Or (x :: y :: rest) p => (mt nm kq a).t s x && (mt nm kq b).w s (.BoolOp .Or (y :: rest) p)
      | _ => false
    { mkV (fun s e => match e with
      | .BoolOp .Or (x :: y :: rest) p => (mt nm kq a).v s x && (mt nm kq b).v s (.BoolOp .Or (y :: rest) p)
      | _ => false) with t := f, w := f }
  | .one a =>
    let f : Sc → Expr → Bool := fun s e => match e with
      | .BoolOp _ [x] _ => (mt nm kq a).t s x
      | _ => false
    { mkV (fun s e => match e with
      | .BoolOp _ [x] _ => (mt nm kq a).v s x
      | _ => false) with t := f, w := f }
  | .not a => { mkV (fun s e => match e with
      | .UnaryOp .Not x _ => (mt nm kq a).v s x
      | _ => false) with t := fun s e => match e with
      | .UnaryOp .Not x _ => (mt nm kq a).t s x
      | _ => false }
  | .ite c a b => mkV fun s e => match e with
    | .IfExp x y z _ => (mt nm kq c).t s x && (mt nm kq a).v s y && (mt nm kq b).v s z
    | _ => false
  | .tup a => mkV fun s e => match e with
    | .Tuple es _ _ => (mt nm kq a).a s es
    | _ => false
  | .lst a => mkV fun s e => match e with
    | .List es _ => (mt nm kq a).a s es
    | _ => false
  | .ix a b => mkV fun s e => match e with
    | .Subscript x y _ => notSli y && (mt nm kq a).v s x && (mt nm kq b).v s y
    | _ => false
  | .sli a lo hi => mkV fun s e => match e with
    | .Subscript x (.Slice l h none _) _ => (mt nm kq a).v s x && optM lo.isNil ((mt nm kq lo).v s) l && optM hi.isNil ((mt nm kq hi).v s) h
    | _ => false
  | .bf f a => mkV fun s e => (vC e).any fun (x, es) => x == (f.nm : Str) && s.gl x && !es.isEmpty && es.all noStar && (mt nm kq a).a s es
  | .isi a ts => mkV fun s e => (vC2 e).any fun (x, e1, e2) => x == ("isinstance" : Str) && s.gl x && noStar e1 && (mt nm kq a).v s e1 && ts.all (fun t => tyNs.contains t) && decide (ts.length ≤ 100) &&
      ((vNm e2).any (fun y => ts.length == 1 && y == (ts.headD "" : Str) && s.gl y) || (vTup e2).any (fun es => mtys s ts es))
  | .setof a => mkV fun s e => (vC1 e).any fun (x, i1) => (vC1 i1).any fun (y, i2) => (vC1 i2).any fun (z, e1) => x == ("tuple" : Str) && s.gl x && y == ("sorted" : Str) && s.gl y && z == ("set" : Str) && s.gl z && noStar e1 && (mt nm kq a).v s e1
  | .lenR a b => mkV fun s e => (vC1 e).any fun (x, i1) => (vC2 i1).any fun (y, e1, e2) => x == ("len" : Str) && s.gl x && y == ("range" : Str) && s.gl y && noStar e1 && noStar e2 && (mt nm kq a).v s e1 && (mt nm kq b).v s e2
  | .call f a => mkV fun s e => (vC e).any fun (x, es) => nm.fN f == some x && s.gl x && es.all noStar && !(x == ("__debug__" : Str)) && (mt nm kq a).a s es && (!es.isEmpty || a.isNil)
  | .callk f q a => mkV fun s e => (vKw e).any fun (x, kws) => nm.fN f == some x && s.gl x && !kws.isEmpty && ((kq q).np == 0) && (kws.map (·.arg) == (kq q).ks.map some) && !(x == ("__debug__" : Str)) && (mt nm kq a).k s kws && ((kq q).f == f) && decide (kq q).pm.Nodup && (argN a == some (kq q).ks.length)
  | .lc own t it c f => mkV fun s e => (vLc e).any fun (elt, tg, iter, ifs, scope) => blkC nm.N s.sc scope (ownN nm.N own) && (mt nm kq it).i s tg iter && notSet iter && (mtT nm.N t).1 (blkS s scope) tg && ifsM c.isNil ((mt nm kq c).t (blkS s scope)) ifs && (mt nm kq f).v (blkS s scope) elt
  | .iR a => { mkV noV with i := fun s _ e => (vC1 e).any fun (x, e1) => x == ("range" : Str) && s.gl x && noStar e1 && (mt nm kq a).v s e1 }
  | .iEn a => { mkV noV with i := fun s tg e => (vTup tg).isSome && (vC1 e).any fun (x, e1) => x == ("enumerate" : Str) && s.gl x && noStar e1 && (mt nm kq a).v s e1 }
  | .iZ a b => { mkV noV with i := fun s tg e => (vTup tg).isSome && (vC2 e).any fun (x, e1, e2) => x == ("zip" : Str) && s.gl x && noStar e1 && noStar e2 && (mt nm kq a).v s e1 && (mt nm kq b).v s e2 }
  | .app i a => mkV fun s e => (vM1 e).any fun (o, m, e1, b) => m == ("append" : Str) && mname nm i s o && noStar e1 && b && (mt nm kq a).v s e1
/-! ### that the look suffices -/
def bNs : List Str := ["abs", "int", "len", "sum", "all", "any", "max", "min", "list", "tuple", "isinstance", "sorted", "set", "range", "enumerate", "zip", "bool", "str", "dict"]
structure XOk (nm : Nm) (kq : Nat → Kq) (Γ : Nat → Fn) (C : Cq) (X : Cx) (s : Sc) : Prop where
  hK : X.K = C.K
  calm : X.calm = true
  hN : X.N = nm.N
  nd : nm.N.Nodup
  sc : X.env.scope = s.sc
  kind : s.sc.kind = .function
  fc : ∀ x, s.fc x = true → X.fn x = true
  tk : Takes X C.W
  pin : ∀ q ∈ C.pin, q.1 ∈ nm.pin
  un : X.A.units + 65 < cLine
  blt : ∀ x ∈ bNs, X.mg x = none
  con : ∀ x d, (x, d) ∈ nm.cN → ∃ v u, X.mg x = some u ∧ RelV v u ∧ ∀ H0, Rep C.K H0 v d
  call : ∃ k, Room k X.A ∧ ∀ (f : Nat) x, nm.fN f = some x → ∃ fa fd ps, X.mg x = some (.ref fa) ∧ PySem.W.keepIn X.K (.ref fa) = true ∧ Binds X.K fd ps [] ∧ FnOk X.prog X.w X.K X.mg X.base (L2.CX X.prog X.w) k fa fd ps (spF C (Γ f)) ∧
    ∀ q, (kq q).np = 0 → (kq q).pm.Nodup → (kq q).f = f → KwB X.K fd ps (kq q).ks (kq q).pm
section
variable {nm : Nm} {kq : Nat → Kq} {Γ : Nat → Fn}
theorem XOk.gl {C : Cq} {X : Cx} {s : Sc} (h : XOk nm kq Γ C X s) {x : Str} (e : s.gl x = true) : Gl X x := by
  unfold Gl Env.kindOf
  rw [h.sc]
  unfold Sc.gl at e
  simpa using e
theorem XOk.vis {C : Cq} {X : Cx} {s : Sc} (h : XOk nm kq Γ C X s) {x : Str} (e : s.vis x = true) : Vis X.env.scope x := by
  unfold Vis
  rw [h.sc]
  unfold Sc.vis at e
  simpa [or_assoc] using e
theorem XOk.loc {C : Cq} {X : Cx} {s : Sc} (h : XOk nm kq Γ C X s) {x : Str} (e : s.loc x = true) : L2.Loc X.env.scope x ∧ (X.fn x = true ∨ X.env.scope.names.lookup x = some .local) := by
  unfold L2.Loc
  rw [h.sc]
  unfold Sc.loc at e
  simp only [Bool.or_eq_true, Bool.and_eq_true, beq_iff_eq] at e
  rcases e with e | ⟨e, f⟩
  · exact ⟨.inl e, .inr e⟩
  · exact ⟨.inr e, .inl (h.fc x f)⟩
theorem XOk.blk {C : Cq} {X : Cx} {s : Sc} (h : XOk nm kq Γ C X s) {scope : Scope} {ow : List (Str × Nat)} (b : BlkOk nm.N s.sc scope ow) (s' : Shared) (H : Hp) (D : Addr) (cl : List (Str × Addr)) (fp : List Addr) :
    XOk nm kq Γ C.mute (X.blk s' H scope (compEnvC scope cl D X.env) fp) (blkS s scope) := by
  refine ⟨h.hK, h.calm, h.hN, h.nd, ?_, b.kind, fun x e => e, fun _ _ x => (by obtain ⟨_, _, _, _, _, _, _, _, _, _, _, _, _, _, _, _, z⟩ := x; exact z.elim), h.pin, h.un, h.blt, h.con, h.call⟩
  show relabel scope X.env = relS scope s.sc
  unfold relabel relS
  rw [← h.sc]
  rfl
theorem g_ok {C : Cq} {X : Cx} {s : Sc} (h : XOk nm kq Γ C X s) (t : T) :
    (∀ e, (mtT nm.N t).1 s e = true → PG X e (gD C t)) ∧
    (∀ es, (mtT nm.N t).2 s es = true → PGs X es (gDs C t) ∧ (assignEach es X.env).length = es.length ∧ (assignEach es X.env).findIdx? (·.1) = none ∧ (assignEach es X.env).all (fun x => !x.1) = true ∧ ∀ ds env env', asg t ds env = some env' → ds.length = es.length) := by
  induction t with
  | nm i =>
    refine ⟨fun e m => ?_, fun es m => by cases m⟩
    cases e <;> first | (cases m; done) | skip
    rename_i x p
    have m : (nm.N[i]? == some x && s.loc x) = true := m
    rw [Bool.and_eq_true, beq_iff_eq] at m
    obtain ⟨l1, l2⟩ := h.loc m.2
    exact g_name (pg_name (by rw [h.hN]; exact h.nd) (by rw [h.hN]; exact m.1) l1 l2)
  | tp ts ih =>
    refine ⟨fun e m => ?_, fun es m => by cases m⟩
    cases e <;> first | (cases m; done) | skip
    rename_i es k p
    have m : (mtT nm.N ts).2 s es = true := m
    obtain ⟨a1, a2, a3, _, a5⟩ := ih.2 es m
    exact g_tup h.calm h.hK a1 a2 a3 a5
  | nil =>
    refine ⟨(fun e m => by cases m), fun es m => ?_⟩
    cases es with
    | nil =>
      refine ⟨g_nil, rfl, rfl, rfl, fun ds env env' e => ?_⟩
      cases ds with
      | nil => rfl
      | cons _ _ => cases e
    | cons _ _ => cases m
  | cons a b iha ihb =>
    refine ⟨(fun e m => by cases m), fun es m => ?_⟩
    cases es with
    | nil => cases m
    | cons e es =>
      have m : (noStar e && (mtT nm.N a).1 s e && (mtT nm.N b).2 s es) = true := m
      simp only [Bool.and_eq_true] at m
      obtain ⟨b1, b2, b3, b4, b5⟩ := ihb.2 es m.2
      have ea := asgE1 m.1.1 es X.env
      refine ⟨g_cons (iha.1 e m.1.2) b1 (by rw [ea]; rfl), by rw [ea, List.length_cons, b2]; rfl, ?_, by rw [ea, List.all_cons, b4]; rfl, fun ds env env' q => ?_⟩
      · rw [ea]
        rw [List.findIdx?_eq_none_iff]
        intro x hx
        rcases List.mem_cons.mp hx with rfl | hx
        · rfl
        · have := List.all_eq_true.mp b4 x hx
          simpa using this
      · cases ds with
        | nil => cases q
        | cons d ds =>
          obtain ⟨e1, _, q2⟩ := Option.bind_eq_some_iff.mp q
          rw [List.length_cons, List.length_cons, b5 _ _ _ q2]
theorem name_ok' {C : Cq} {X : Cx} {s : Sc} (h : XOk nm kq Γ C X s) {i : Nat} {e : Expr} (m : mname nm i s e = true) : PE X e (tVar i) := by
  cases e <;> first | (cases m; done) | skip
  rename_i x p
  have m : (nm.N[i]? == some x && s.vis x && !(x == ("__debug__" : Str)) && !(x == ("__classdict__" : Str))) = true := m
  simp only [Bool.and_eq_true, Bool.not_eq_true', beq_iff_eq] at m
  exact pe_var (by rw [h.hN]; exact m.1.1.1) (h.vis m.1.1.2) m.1.2 m.2
end
end FR
set_option Elab.async false
set_option linter.all false
set_option autoImplicit false
set_option maxRecDepth 100000
/-! FRd: that the look at expressions suffices -/
namespace FR
open PySem PySem.Spec PyProof.Rows L2
structure Sd (C : Cq) (X : Cx) (s : Sc) (m : Mm) (z : Sm) : Prop where
  v : ∀ e, m.v s e = true → PE X e (rdV C z.v)
  t : ∀ e, m.t s e = true → PT X e (rdT C z.t)
  w : ∀ e, m.w s e = true → PW X e (rdT C z.t)
  a : ∀ es, m.a s es = true → PA X es (rdA C z.a)
  k : ∀ kws, m.k s kws = true → PK X kws (rdA C z.a)
  i : ∀ tg e, m.i s tg e = true → PI X tg e (rdI C z.i)
section
variable {nm : Nm} {kq : Nat → Kq} {Γ : Nat → Fn} {C : Cq} {X : Cx} {s : Sc}
theorem Sd.ofV (h : XOk nm kq Γ C X s) {v : Sc → Expr → Bool} {f : En → R (Ld × En)} (q : ∀ e, v s e = true → PE X e (rdV C f)) : Sd C X s (mkV v) (FR.ofV f) :=
  ⟨q, (fun e m => by
    have m : (plT e && v s e) = true := m
    rw [Bool.and_eq_true] at m
    exact d_truth (q e m.2) (fun w => plT_ok m.1 w) h.hK), (fun e m => nomatch m), (fun e m => nomatch m), (fun e m => nomatch m), fun tg e m => di_seq (q e m) h.hK⟩
theorem Sd.noV {z : Sm} {m : Mm} (a : ∀ es, m.a s es = true → PA X es (rdA C z.a)) (k : ∀ kws, m.k s kws = true → PK X kws (rdA C z.a)) (i : ∀ tg e, m.i s tg e = true → PI X tg e (rdI C z.i)) (hv : m.v = FR.noV) (ht : ∀ e, m.t s e = true → PT X e (rdT C z.t)) (hw : ∀ e, m.w s e = true → PW X e (rdT C z.t)) : Sd C X s m z :=
  ⟨(fun e q => by rw [hv] at q; cases q), ht, hw, a, k, i⟩
theorem no_t {e : Expr} {P : Prop} (m : (mkV noV).t s e = true) : P := by
  have m : (plT e && false) = true := m
  rw [Bool.and_false] at m
  cases m
theorem Bf.boot (b : Bf) : bootBuiltins (b.nm : Str) = some b.val := by cases b <;> decide +kernel
theorem bf_in (b : Bf) : (b.nm : Str) ∈ bNs := by cases b <;> decide
theorem d_bf (hc : X.calm = true) (hK : X.K = C.K) (b : Bf) {fs : En → R (List Ld × En)} {e : Expr} {es : List Expr} {p pos : Pos} (ha : PA X (e :: es) (rdA C fs)) (hg : Gl X (b.nm : Str)) (hm : X.mg (b.nm : Str) = none) (h1 : noStar e = true) (h2 : es.all noStar = true) :
    PE X (.Call (.Name (b.nm : Str) p) (e :: es) [] pos) (rdV C (ma fs b.run)) := by
  have key : PE X (.Call (.Name (b.nm : Str) p) (e :: es) [] pos) (tCB (rDs C.K b.run) (rdA C fs)) := by
    have hb := Bf.ok hc b
    rw [hK] at hb
    have bt := b.boot
    cases b <;> first
      | exact pe_callB hb hg hm bt ha (by decide) (by decide) (star1 h1 es X.env) (stars_no h2)
      | exact pe_callTy hb hg hm bt ha (by decide) (by decide) (star1 h1 es X.env) (stars_no h2)
  exact PE.weak key fun σ H Q h => many_ok (Bf.noCel b) h
theorem d_mty (h : XOk nm kq Γ C X s) {t : String} (ht : tyNs.contains t = true) {p : Pos} (hg : s.gl (t : Str) = true) : PE X (.Name (t : Str) p) (tC (.ty t)) := by
  have hm : (t : Str) ∈ bNs ∧ bootBuiltins (t : Str) = some (.type t) ∧ (t : Str) ≠ "__name__" ∧ ((t : Str) == ("__debug__" : Str)) = false := by
    simp only [tyNs, List.contains_eq_mem, List.mem_cons, List.not_mem_nil, or_false, decide_eq_true_eq] at ht
    rcases ht with rfl | rfl | rfl | rfl | rfl | rfl <;> exact ⟨by decide, by decide +kernel, by decide, by decide⟩
  exact pe_bltn (h.gl hg) (h.blt _ hm.1) hm.2.1 rfl hm.2.2.1 hm.2.2.2
theorem d_mtys (h : XOk nm kq Γ C X s) : ∀ {ts : List String} {es : List Expr}, ts.all (fun t => tyNs.contains t) = true → mtys s ts es = true → PA X es (tTys ts)
  | [], [], _, _ => pa_nil
  | [], _ :: _, _, m => nomatch m
  | _ :: _, [], _, m => nomatch m
  | t :: ts, e :: es, ht, m => by
    have m : (mty s t e && mtys s ts es) = true := m
    rw [Bool.and_eq_true] at m
    rw [List.all_cons, Bool.and_eq_true] at ht
    obtain ⟨m1, m2⟩ := m
    cases e <;> first | (cases m1; done) | skip
    rename_i x p
    have m1 : (x == (t : Str) && s.gl x) = true := m1
    rw [Bool.and_eq_true, beq_iff_eq] at m1
    obtain ⟨rfl, m1⟩ := m1
    exact pa_cons (d_mty h ht.1 m1) (d_mtys h ht.2 m2) rfl
end
end FR
set_option Elab.async false
set_option linter.all false
set_option autoImplicit false
set_option maxRecDepth 100000
/-! FRe: that the look at expressions suffices, by induction -/
namespace FR
open PySem PySem.Spec PyProof.Rows L2
section
variable {nm : Nm} {kq : Nat → Kq} {Γ : Nat → Fn}
theorem argN_ok : ∀ {e : E} {n : Nat}, argN e = some n → ∀ env ls e', (sem Γ kq e).a env = .ok (ls, e') → ls.length = n
  | .nil, n, h, env, ls, e', q => by cases h; cases q; rfl
  | .cons a r, n, h, env, ls, e', q => by
    obtain ⟨k, h1, rfl⟩ := Option.map_eq_some_iff.mp h
    have q : consA (sem Γ kq a).v (sem Γ kq r).a env = .ok (ls, e') := q
    unfold consA at q
    cases e1 : (sem Γ kq a).v env with
    | bad => rw [e1] at q; cases q
    | ex _ _ => rw [e1] at q; cases q
    | ok p1 =>
      rw [e1] at q
      obtain ⟨l, e2⟩ := p1
      have q : ((sem Γ kq r).a e2).bind _ = .ok (ls, e') := q
      cases e3 : (sem Γ kq r).a e2 with
      | bad => rw [e3] at q; cases q
      | ex _ _ => rw [e3] at q; cases q
      | ok p2 =>
        rw [e3] at q
        obtain ⟨ls2, e4⟩ := p2
        have ih := argN_ok h1 _ _ _ e3
        have q : (match cont e4 l with | some _ => R.ok (l :: ls2, e4) | none => .bad) = .ok (ls, e') := q
        split at q
        · cases q; simp [ih]
        · cases q
theorem pts_ok {X : Cx} {C : Cq} {s : Sc} {c : E} {ifs : List Expr} (m : ifsM c.isNil ((mt nm kq c).t s) ifs = true) (h : Sd C X s (mt nm kq c) (sem Γ kq c)) : PTs X ifs (rdT C (sem Γ kq c).t) := by
  match ifs, m with
  | [], m =>
    have m : c.isNil = true := m
    cases c <;> first | (cases m; done) | skip
    refine ⟨fun pn s sg H Q I q => pts_nil.run pn s sg H Q I ?_⟩
    obtain ⟨env, H0, Hf, st, q⟩ := q
    exact q H0 H st (.refl _)
  | [i], m =>
    have m : (!c.isNil && (mt nm kq c).t s i) = true := m
    rw [Bool.and_eq_true] at m
    exact pts_one (h.t i m.2)
theorem lc_ok {C : Cq} {X : Cx} {s : Sc} (h : XOk nm kq Γ C X s) {own : List Nat} {t : T} {it c f : E} {elt tg iter : Expr} {ifs : List Expr} {scope : Scope}
    (m : (blkC nm.N s.sc scope (ownN nm.N own) && (mt nm kq it).i s tg iter && notSet iter && (mtT nm.N t).1 (blkS s scope) tg && ifsM c.isNil ((mt nm kq c).t (blkS s scope)) ifs && (mt nm kq f).v (blkS s scope) elt) = true)
    (ihi : Sd C X s (mt nm kq it) (sem Γ kq it)) (ihc : ∀ X', XOk nm kq Γ C.mute X' (blkS s scope) → Sd C.mute X' (blkS s scope) (mt nm kq c) (sem Γ kq c)) (ihf : ∀ X', XOk nm kq Γ C.mute X' (blkS s scope) → Sd C.mute X' (blkS s scope) (mt nm kq f) (sem Γ kq f)) :
    (∀ {p : Pos}, PE X (.ListComp elt [⟨tg, iter, ifs, 0⟩] scope p) (rdV C (doLc own t (sem Γ kq it).i (sem Γ kq c).t (sem Γ kq f).v))) ∧
    ∀ {o : Bool} {i : Nat} {y : Str} {py p pos : Pos}, (∀ q ∈ C.pin, q.1 ≠ i) → nm.N[i]? = some y → X.env.scope.names.lookup y = some .local → swapsWith (.ListComp elt [⟨tg, iter, ifs, 0⟩] scope p) (some (.Name y py)) pos.line X.env = pure true →
      PS X (.Assign [.Name y py] (.ListComp elt [⟨tg, iter, ifs, 0⟩] scope p) pos) (rdS C (setS o i (doLc own t (sem Γ kq it).i (sem Γ kq c).t (sem Γ kq f).v))) := by
  simp only [Bool.and_eq_true] at m
  obtain ⟨⟨⟨⟨⟨m1, m2⟩, m3⟩, m4⟩, m5⟩, m6⟩ := m
  have bk := blkOk_by m1
  have how : (ownN nm.N own).map (·.2) = own := by unfold ownN; rw [List.map_map]; simp [Function.comp_def]
  have hb := fun s' H D cl fp => h.blk bk s' H D cl fp
  have bk' : BlkOk X.N X.env.scope scope (ownN nm.N own) := by rw [h.hN, h.sc]; exact bk
  have hN : X.N.Nodup := by rw [h.hN]; exact h.nd
  refine ⟨fun {p} => d_lc how h.calm hN (ihi.i tg iter m2) bk' (fun s' H D cl fp => (g_ok (hb s' H D cl fp) t).1 tg m4) (fun s' H D cl fp => pts_ok m5 (ihc _ (hb s' H D cl fp))) (fun s' H D cl fp => (ihf _ (hb s' H D cl fp)).v elt m6) (fun x => notSet_ok m3 x), fun {o i y py p pos} np hi hy hs => ?_⟩
  exact s_setLc how np h.calm hN (by rw [h.hN]; exact hi) hy hs (ihi.i tg iter m2) bk' (fun s' H D cl fp => (g_ok (hb s' H D cl fp) t).1 tg m4) (fun s' H D cl fp => pts_ok m5 (ihc _ (hb s' H D cl fp))) (fun s' H D cl fp => (ihf _ (hb s' H D cl fp)).v elt m6) (fun x => notSet_ok m3 x)
theorem and2 {a b : Bool} (h : (a && b) = true) : a = true ∧ b = true := by rwa [Bool.and_eq_true] at h
theorem sound (E0 : E) : ∀ (C : Cq) (X : Cx) (s : Sc), XOk nm kq Γ C X s → Sd C X s (mt nm kq E0) (sem Γ kq E0) := by
  induction E0 with
  | nil =>
    intro C X s h
    refine Sd.noV (fun es m => ?_) (fun es m => ?_) (fun tg e m => nomatch m) rfl (fun e m => no_t m) (fun e m => nomatch m)
    · cases es with
      | nil => exact d_nil
      | cons _ _ => cases m
    · cases es with
      | nil => exact dk_nil
      | cons _ _ => cases m
  | cons a r iha ihr =>
    intro C X s h
    refine Sd.noV (fun es m => ?_) (fun es m => ?_) (fun tg e m => nomatch m) rfl (fun e m => no_t m) (fun e m => nomatch m)
    · cases es with
      | nil => cases m
      | cons e es =>
        have m : (noStar e && (mt nm kq a).v s e && (mt nm kq r).a s es) = true := m
        simp only [Bool.and_eq_true] at m
        exact d_cons ((iha C X s h).v e m.1.2) ((ihr C X s h).a es m.2) (star1 m.1.1 es X.env)
    · cases es with
      | nil => cases m
      | cons e es =>
        obtain ⟨an, va, pp⟩ := e
        have m : ((mt nm kq a).v s va && (mt nm kq r).k s es) = true := m
        simp only [Bool.and_eq_true] at m
        exact dk_cons ((iha C X s h).v va m.1) ((ihr C X s h).k es m.2)
  | star a r iha ihr =>
    intro C X s h
    refine Sd.noV (fun es m => ?_) (fun es m => nomatch m) (fun tg e m => nomatch m) rfl (fun e m => no_t m) (fun e m => nomatch m)
    cases es with
    | nil => cases m
    | cons e es =>
      cases e <;> first | (cases m; done) | skip
      rename_i e p
      have m : ((mt nm kq a).v s e && (mt nm kq r).a s es) = true := m
      simp only [Bool.and_eq_true] at m
      exact d_star ((iha C X s h).v e m.1) ((ihr C X s h).a es m.2) h.hK
  | var i => exact fun C X s h => Sd.ofV h fun e m => d_var (name_ok' h m)
  | fz i => exact fun C X s h => Sd.ofV h fun e m => d_fz (name_ok' h m)
  | mv i => exact fun C X s h => Sd.ofV h fun e m => d_mv (name_ok' h m)
  | cI i =>
    refine fun C X s h => Sd.ofV h fun e m => ?_
    cases e <;> first | (cases m; done) | skip
    rename_i c k p
    cases c <;> first | (cases m; done) | skip
    rename_i j
    have m : (i == j) = true := m
    rw [beq_iff_eq] at m
    subst m
    exact d_con pe_int fun H0 => .int i
  | cB b =>
    refine fun C X s h => Sd.ofV h fun e m => ?_
    cases e <;> first | (cases m; done) | skip
    rename_i c k p
    cases c <;> first | (cases m; done) | skip
    rename_i j
    have m : (b == j) = true := m
    rw [beq_iff_eq] at m
    subst m
    exact d_con pe_bl fun H0 => .bl b
  | cN =>
    refine fun C X s h => Sd.ofV h fun e m => ?_
    cases e <;> first | (cases m; done) | skip
    rename_i c k p
    cases c <;> first | (cases m; done) | skip
    exact d_con pe_non fun H0 => .non
  | cS x =>
    refine fun C X s h => Sd.ofV h fun e m => ?_
    cases e <;> first | (cases m; done) | skip
    rename_i c k p
    cases c <;> first | (cases m; done) | skip
    rename_i j
    have m : (x == j) = true := m
    rw [beq_iff_eq] at m
    subst m
    exact d_con pe_str fun H0 => .str x
  | gl d =>
    refine fun C X s h => Sd.ofV h fun e m => ?_
    cases e <;> first | (cases m; done) | skip
    rename_i x p
    have m : (nm.cN.any (fun p => p.1 == x && sameC p.2 d) && s.gl x && !(x == ("__debug__" : Str))) = true := m
    simp only [Bool.and_eq_true, Bool.not_eq_true', List.any_eq_true, beq_iff_eq] at m
    obtain ⟨⟨⟨q, q1, rfl, q3⟩, m1⟩, m2⟩ := m
    have q4 := sameC_ok q3
    subst q4
    obtain ⟨v, u, h1, h2, h3⟩ := h.con q.1 q.2 q1
    exact d_con (pe_glob (h.gl m1) h1 h2 m2) h3
  | bin o a b iha ihb =>
    refine fun C X s h => Sd.ofV h fun e m => ?_
    cases e <;> first | (cases m; done) | skip
    rename_i x op y p
    have m : (op == o.op && (mt nm kq a).v s x && (mt nm kq b).v s y) = true := m
    simp only [Bool.and_eq_true, beq_iff_eq] at m
    obtain ⟨⟨rfl, m1⟩, m2⟩ := m
    exact d_bin o ((iha C X s h).v x m1) ((ihb C X s h).v y m2) h.hK
  | neg a iha =>
    refine fun C X s h => Sd.ofV h fun e m => ?_
    cases e <;> first | (cases m; done) | skip
    rename_i op x p
    cases op <;> first | (cases m; done) | skip
    exact d_neg ((iha C X s h).v x m)
  | cmp c a b iha ihb =>
    intro C X s h
    have key : ∀ e, (mt nm kq (.cmp c a b)).v s e = true → ∃ x y p, e = .Compare x [c.op] [y] p ∧ PE X x (rdV C (sem Γ kq a).v) ∧ PE X y (rdV C (sem Γ kq b).v) := by
      intro e m
      cases e <;> first | (cases m; done) | skip
      rename_i x ops ys p
      match ops, ys, m with
      | [op], [y], m =>
        have m : (op == c.op && (mt nm kq a).v s x && (mt nm kq b).v s y) = true := m
        simp only [Bool.and_eq_true, beq_iff_eq] at m
        obtain ⟨⟨rfl, m1⟩, m2⟩ := m
        exact ⟨x, y, p, rfl, (iha C X s h).v x m1, (ihb C X s h).v y m2⟩
    have hv : ∀ e, (mt nm kq (.cmp c a b)).v s e = true → PE X e (rdV C (m2 (sem Γ kq a).v (sem Γ kq b).v c.run)) := fun e m => by
      obtain ⟨x, y, p, rfl, h1, h2⟩ := key e m
      exact d_cmp c h.un h1 h2 h.hK
    have base := Sd.ofV h (v := (mt nm kq (.cmp c a b)).v) hv
    refine ⟨hv, fun e m => ?_, (fun e m => nomatch m), (fun e m => nomatch m), (fun e m => nomatch m), base.i⟩
    obtain ⟨x, y, p, rfl, h1, h2⟩ := key e m
    exact dt_cmp c h.un h1 h2 h.hK
  | and a b iha ihb =>
    intro C X s h
    have hv : ∀ e, (mt nm kq (.and a b)).v s e = true → PE X e (rdV C (andV (sem Γ kq a).v (sem Γ kq b).v)) := fun e m => by
      cases e <;> first | (cases m; done) | skip
      rename_i op xs p
      match op, xs, m with
      | .And, x :: y :: rest, m =>
        have m : ((mt nm kq a).v s x && (mt nm kq b).v s (.BoolOp .And (y :: rest) p)) = true := m
        simp only [Bool.and_eq_true] at m
        exact d_and ((iha C X s h).v x m.1) ((ihb C X s h).v _ m.2) h.hK
    have hw : ∀ e, (mt nm kq (.and a b)).w s e = true → PW X e (rdT C (andT (sem Γ kq a).t (sem Γ kq b).t)) := fun e m => by
      cases e <;> first | (cases m; done) | skip
      rename_i op xs p
      match op, xs, m with
      | .And, x :: y :: rest, m =>
        have m : ((mt nm kq a).t s x && (mt nm kq b).w s (.BoolOp .And (y :: rest) p)) = true := m
        simp only [Bool.and_eq_true] at m
        exact dw_and ((iha C X s h).t x m.1) ((ihb C X s h).w _ m.2)
    have base := Sd.ofV h (v := (mt nm kq (.and a b)).v) hv
    exact ⟨hv, fun e m => (hw e m).pt, hw, (fun e m => nomatch m), (fun e m => nomatch m), base.i⟩
  | or a b iha ihb =>
    intro C X s h
    have hv : ∀ e, (mt nm kq (.or a b)).v s e = true → PE X e (rdV C (orV (sem Γ kq a).v (sem Γ kq b).v)) := fun e m => by
      cases e <;> first | (cases m; done) | skip
      rename_i op xs p
      match op, xs, m with
      | .Or, x :: y :: rest, m =>
        have m : ((mt nm kq a).v s x && (mt nm kq b).v s (.BoolOp .Or (y :: rest) p)) = true := m
        simp only [Bool.and_eq_true] at m
        exact d_or ((iha C X s h).v x m.1) ((ihb C X s h).v _ m.2) h.hK
    have hw : ∀ e, (mt nm kq (.or a b)).w s e = true → PW X e (rdT C (orT (sem Γ kq a).t (sem Γ kq b).t)) := fun e m => by
      cases e <;> first | (cases m; done) | skip
      rename_i op xs p
      match op, xs, m with
      | .Or, x :: y :: rest, m =>
        have m : ((mt nm kq a).t s x && (mt nm kq b).w s (.BoolOp .Or (y :: rest) p)) = true := m
        simp only [Bool.and_eq_true] at m
        exact dw_or ((iha C X s h).t x m.1) ((ihb C X s h).w _ m.2)
    have base := Sd.ofV h (v := (mt nm kq (.or a b)).v) hv
    exact ⟨hv, fun e m => (hw e m).pt, hw, (fun e m => nomatch m), (fun e m => nomatch m), base.i⟩
  | one a iha =>
    intro C X s h
    have hv : ∀ e, (mt nm kq (.one a)).v s e = true → PE X e (rdV C (sem Γ kq a).v) := fun e m => by
      cases e <;> first | (cases m; done) | skip
      rename_i op xs p
      match op, xs, m with
      | op, [x], m => exact pe_one ((iha C X s h).v x m)
    have hw : ∀ e, (mt nm kq (.one a)).w s e = true → PW X e (rdT C (sem Γ kq a).t) := fun e m => by
      cases e <;> first | (cases m; done) | skip
      rename_i op xs p
      match op, xs, m with
      | .And, [x], m => exact pw_and1 ((iha C X s h).t x m)
      | .Or, [x], m => exact pw_or1 ((iha C X s h).t x m)
    have base := Sd.ofV h (v := (mt nm kq (.one a)).v) hv
    exact ⟨hv, fun e m => (hw e m).pt, hw, (fun e m => nomatch m), (fun e m => nomatch m), base.i⟩
  | not a iha =>
    intro C X s h
    have hv : ∀ e, (mt nm kq (.not a)).v s e = true → PE X e (rdV C (notV (sem Γ kq a).v)) := fun e m => by
      cases e <;> first | (cases m; done) | skip
      rename_i op x p
      cases op <;> first | (cases m; done) | skip
      exact d_not ((iha C X s h).v x m) h.hK
    have ht : ∀ e, (mt nm kq (.not a)).t s e = true → PT X e (rdT C (notT (sem Γ kq a).t)) := fun e m => by
      cases e <;> first | (cases m; done) | skip
      rename_i op x p
      cases op <;> first | (cases m; done) | skip
      exact dt_not ((iha C X s h).t x m)
    have base := Sd.ofV h (v := (mt nm kq (.not a)).v) hv
    exact ⟨hv, ht, (fun e m => nomatch m), (fun e m => nomatch m), (fun e m => nomatch m), base.i⟩
  | ite c a b ihc iha ihb =>
    refine fun C X s h => Sd.ofV h fun e m => ?_
    cases e <;> first | (cases m; done) | skip
    rename_i x y z p
    have m : ((mt nm kq c).t s x && (mt nm kq a).v s y && (mt nm kq b).v s z) = true := m
    simp only [Bool.and_eq_true] at m
    exact d_ite ((ihc C X s h).t x m.1.1) ((iha C X s h).v y m.1.2) ((ihb C X s h).v z m.2)
  | tup a iha =>
    refine fun C X s h => Sd.ofV h fun e m => ?_
    cases e <;> first | (cases m; done) | skip
    exact d_tup ((iha C X s h).a _ m)
  | lst a iha =>
    refine fun C X s h => Sd.ofV h fun e m => ?_
    cases e <;> first | (cases m; done) | skip
    exact d_lst ((iha C X s h).a _ m)
  | ix a b iha ihb =>
    refine fun C X s h => Sd.ofV h fun e m => ?_
    cases e <;> first | (cases m; done) | skip
    rename_i x y p
    have m : (notSli y && (mt nm kq a).v s x && (mt nm kq b).v s y) = true := m
    simp only [Bool.and_eq_true] at m
    exact d_ix ((iha C X s h).v x m.1.2) ((ihb C X s h).v y m.2) (plainIx_ok m.1.1) h.hK
  | sli a lo hi iha ihl ihh =>
    refine fun C X s h => Sd.ofV h fun e m => ?_
    cases e <;> first | (cases m; done) | skip
    rename_i x y p
    cases y <;> first | (cases m; done) | skip
    rename_i l u st p2
    cases st with
    | some _ => cases m
    | none =>
      have m : ((mt nm kq a).v s x && optM lo.isNil ((mt nm kq lo).v s) l && optM hi.isNil ((mt nm kq hi).v s) u) = true := m
      simp only [Bool.and_eq_true] at m
      obtain ⟨⟨m1, m2⟩, m3⟩ := m
      have hl : PO X l (rdP C (part lo.isNil (sem Γ kq lo).v)) := by
        cases l with
        | none => have m2 : lo.isNil = true := m2; rw [m2]; exact dp_none
        | some l =>
          have m2 : (!lo.isNil && (mt nm kq lo).v s l) = true := m2
          simp only [Bool.and_eq_true, Bool.not_eq_true'] at m2
          rw [m2.1]; exact dp_some ((ihl C X s h).v l m2.2)
      have hu : PO X u (rdP C (part hi.isNil (sem Γ kq hi).v)) := by
        cases u with
        | none => have m3 : hi.isNil = true := m3; rw [m3]; exact dp_none
        | some l =>
          have m3 : (!hi.isNil && (mt nm kq hi).v s l) = true := m3
          simp only [Bool.and_eq_true, Bool.not_eq_true'] at m3
          rw [m3.1]; exact dp_some ((ihh C X s h).v l m3.2)
      exact d_sli ((iha C X s h).v x m1) hl hu h.hK
  | bf f a iha =>
    refine fun C X s h => Sd.ofV h fun e m => ?_
    obtain ⟨⟨x, es⟩, q1, mq1⟩ := oany m
    obtain ⟨p, pos, rfl⟩ := vC_ok q1
    simp only [Bool.and_eq_true, beq_iff_eq] at mq1
    obtain ⟨⟨⟨⟨rfl, m1⟩, m2⟩, m3⟩, m4⟩ := mq1
    cases es with
    | nil => cases m2
    | cons e1 es =>
      simp only [List.all_cons, Bool.and_eq_true] at m3
      exact d_bf h.calm h.hK f ((iha C X s h).a _ m4) (h.gl m1) (h.blt _ (bf_in f)) m3.1 m3.2
  | isi a ts iha =>
    refine fun C X s h => Sd.ofV h fun e m => ?_
    obtain ⟨⟨x, e1, e2⟩, q1, mq1⟩ := oany m
    obtain ⟨p, pos, rfl⟩ := vC2_ok q1
    simp only [Bool.and_eq_true, beq_iff_eq, decide_eq_true_eq] at mq1
    obtain ⟨⟨⟨⟨⟨⟨rfl, m1⟩, m2⟩, m3⟩, m4⟩, m5⟩, m6⟩ := mq1
    rw [Bool.or_eq_true] at m6
    rcases m6 with m6 | m6
    · obtain ⟨y, q2, m6'⟩ := oany m6
      obtain ⟨p2, rfl⟩ := vNm_ok q2
      simp only [Bool.and_eq_true, beq_iff_eq] at m6'
      obtain ⟨⟨m7, rfl⟩, m8⟩ := m6'
      match ts, m7 with
      | [t], m7 =>
        simp only [List.all_cons, Bool.and_eq_true] at m4
        exact d_isi1 ((iha C X s h).v e1 m3) (h.gl m1) (h.blt _ (by decide)) (d_mty h m4.1 m8) (star1 m2 _ X.env) rfl rfl h.hK
    · obtain ⟨es, q2, m6'⟩ := oany m6
      obtain ⟨kk, p2, rfl⟩ := vTup_ok q2
      exact d_isiT ((iha C X s h).v e1 m3) (h.gl m1) (h.blt _ (by decide)) (d_mtys h m4 m6') m5 (star1 m2 _ X.env) rfl rfl h.hK
  | setof a iha =>
    refine fun C X s h => Sd.ofV h fun e m => ?_
    obtain ⟨⟨x, i1⟩, q1, mq1⟩ := oany m
    obtain ⟨p, pos, rfl⟩ := vC1_ok q1
    obtain ⟨⟨y, i2⟩, q2, mq2⟩ := oany mq1
    obtain ⟨p2, pos2, rfl⟩ := vC1_ok q2
    obtain ⟨⟨z, e1⟩, q3, mq3⟩ := oany mq2
    obtain ⟨p3, pos3, rfl⟩ := vC1_ok q3
    simp only [Bool.and_eq_true, beq_iff_eq] at mq3
    obtain ⟨⟨⟨⟨⟨⟨⟨rfl, m1⟩, rfl⟩, m2⟩, rfl⟩, m3⟩, m4⟩, m5⟩ := mq3
    exact d_setof h.calm ((iha C X s h).v e1 m5) (h.gl m1) (h.blt _ (by decide)) (h.gl m2) (h.blt _ (by decide)) (h.gl m3) (h.blt _ (by decide)) (star1 m4 _ X.env) h.hK
  | lenR a b iha ihb =>
    refine fun C X s h => Sd.ofV h fun e m => ?_
    obtain ⟨⟨x, i1⟩, q1, mq1⟩ := oany m
    obtain ⟨p, pos, rfl⟩ := vC1_ok q1
    obtain ⟨⟨y, e1, e2⟩, q2, mq2⟩ := oany mq1
    obtain ⟨p2, pos2, rfl⟩ := vC2_ok q2
    simp only [Bool.and_eq_true, beq_iff_eq] at mq2
    obtain ⟨⟨⟨⟨⟨⟨⟨rfl, m1⟩, rfl⟩, m2⟩, m3⟩, m4⟩, m5⟩, m6⟩ := mq2
    exact d_lenR ((iha C X s h).v e1 m5) ((ihb C X s h).v e2 m6) (h.gl m1) (h.blt _ (by decide)) (h.gl m2) (h.blt _ (by decide)) (star1 m3 _ X.env) (star1 m4 _ X.env) (stars_no (by simp [m4]))
  | call f a iha =>
    refine fun C X s h => Sd.ofV h fun e m => ?_
    obtain ⟨⟨x, es⟩, q1, mq1⟩ := oany m
    obtain ⟨p, pos, rfl⟩ := vC_ok q1
    simp only [Bool.and_eq_true, beq_iff_eq, Bool.not_eq_true'] at mq1
    obtain ⟨⟨⟨⟨⟨m1, m2⟩, m3⟩, m4⟩, m5⟩, m6⟩ := mq1
    obtain ⟨k, hr, hf⟩ := h.call
    obtain ⟨fa, fd, ps, g1, g2, g3, g4, _⟩ := hf f x m1
    have ha := (iha C X s h).a es m5
    cases es with
    | nil =>
      have m6 : a.isNil = true := by simpa using m6
      cases a <;> first | (cases m6; done) | skip
      exact d_call0 g4 h.tk hr (h.gl m2) g1 g2 g3 m4
    | cons e1 es =>
      simp only [List.all_cons, Bool.and_eq_true] at m3
      exact d_call g4 h.tk hr (h.gl m2) g1 g2 g3 ha m4 (star1 m3.1 _ X.env) (stars_no m3.2)
  | callk f q a iha =>
    refine fun C X s h => Sd.ofV h fun e m => ?_
    obtain ⟨⟨x, kws⟩, q1, mq1⟩ := oany m
    obtain ⟨p, pos, rfl⟩ := vKw_ok q1
    simp only [Bool.and_eq_true, beq_iff_eq, Bool.not_eq_true', decide_eq_true_eq] at mq1
    obtain ⟨⟨⟨⟨⟨⟨⟨⟨⟨m1, m2⟩, m3⟩, m4⟩, m5⟩, m6⟩, m7⟩, m8⟩, m9⟩, m10⟩ := mq1
    obtain ⟨k, hr, hf⟩ := h.call
    obtain ⟨fa, fd, ps, g1, g2, g3, g4, g5⟩ := hf f x m1
    exact d_callk g4 h.tk hr (h.gl m2) g1 g2 (g5 q m4 m9 m8) m9 ((iha C X s h).k kws m7) m5 (fun env ls e => argN_ok m10 env ls e) m6
  | lc own t it c f ihi ihc ihf =>
    refine fun C X s h => Sd.ofV h fun e m => ?_
    obtain ⟨⟨elt, tg, iter, ifs, scope⟩, q1, mq1⟩ := oany m
    obtain ⟨p, rfl⟩ := vLc_ok q1
    exact (lc_ok h mq1 (ihi C X s h) (fun X' h' => ihc C.mute X' _ h') (fun X' h' => ihf C.mute X' _ h')).1
  | iR a iha =>
    intro C X s h
    refine Sd.noV (fun es m => nomatch m) (fun es m => nomatch m) (fun tg e m => ?_) rfl (fun e m => no_t m) (fun e m => nomatch m)
    obtain ⟨⟨x, e1⟩, q1, mq1⟩ := oany m
    obtain ⟨p, pos, rfl⟩ := vC1_ok q1
    simp only [Bool.and_eq_true, beq_iff_eq] at mq1
    obtain ⟨⟨⟨rfl, m1⟩, m2⟩, m3⟩ := mq1
    exact di_rng ((iha C X s h).v e1 m3) (h.gl m1) (h.blt _ (by decide)) (star1 m2 _ X.env)
  | iEn a iha =>
    intro C X s h
    refine Sd.noV (fun es m => nomatch m) (fun es m => nomatch m) (fun tg e m => ?_) rfl (fun e m => no_t m) (fun e m => nomatch m)
    obtain ⟨m0, mz⟩ := and2 m
    obtain ⟨es, m0⟩ := Option.isSome_iff_exists.mp m0
    obtain ⟨kk, tp, rfl⟩ := vTup_ok m0
    obtain ⟨⟨x, e1⟩, q1, mq1⟩ := oany mz
    obtain ⟨p, pos, rfl⟩ := vC1_ok q1
    simp only [Bool.and_eq_true, beq_iff_eq] at mq1
    obtain ⟨⟨⟨rfl, m1⟩, m2⟩, m3⟩ := mq1
    exact di_enum ((iha C X s h).v e1 m3) (h.gl m1) (h.blt _ (by decide)) (star1 m2 _ X.env) h.hK
  | iZ a b iha ihb =>
    intro C X s h
    refine Sd.noV (fun es m => nomatch m) (fun es m => nomatch m) (fun tg e m => ?_) rfl (fun e m => no_t m) (fun e m => nomatch m)
    obtain ⟨m0, mz⟩ := and2 m
    obtain ⟨es, m0⟩ := Option.isSome_iff_exists.mp m0
    obtain ⟨kk, tp, rfl⟩ := vTup_ok m0
    obtain ⟨⟨x, e1, e2⟩, q1, mq1⟩ := oany mz
    obtain ⟨p, pos, rfl⟩ := vC2_ok q1
    simp only [Bool.and_eq_true, beq_iff_eq] at mq1
    obtain ⟨⟨⟨⟨⟨rfl, m1⟩, m2⟩, m3⟩, m4⟩, m5⟩ := mq1
    exact di_zip ((iha C X s h).v e1 m4) ((ihb C X s h).v e2 m5) (h.gl m1) (h.blt _ (by decide)) (star1 m2 _ X.env) (star1 m3 _ X.env) (stars_no (by simp [m3])) h.hK
  | app i a iha =>
    refine fun C X s h => Sd.ofV h fun e m => ?_
    obtain ⟨⟨o, mm, e1, b⟩, q1, mq1⟩ := oany m
    obtain ⟨apos, pos, rfl, hb⟩ := vM1_ok q1
    simp only [Bool.and_eq_true, beq_iff_eq] at mq1
    obtain ⟨⟨⟨⟨rfl, m1⟩, m2⟩, m3⟩, m4⟩ := mq1
    exact d_app (name_ok' h m1) ((iha C X s h).v e1 m4) (star1 m2 _ X.env) (by cases o <;> first | rfl | cases m1) (by rw [hb, m3]) (by rw [stars_all (by simp [m2])]; rfl)
end
end FR
set_option Elab.async false
set_option linter.all false
set_option autoImplicit false
set_option maxRecDepth 100000
/-! FRf: statements -/
namespace FR
open PySem PySem.Spec PyProof.Rows L2
inductive S where
  | nil | cons (a r : S) | pass | brk | cnt | ex (e : E) | ret (e : E) | retN
  | iff (c : E) (a b : S) | asg (t : T) (e : E) | set (o : Bool) (i : Nat) (e : E) | par (ts : List (Bool × Nat)) (a : E)
  | loop (t : T) (it : E) (b : S) | whl (c : E) (b : S) | sti (i : Nat) (k a : E)
def E.isLc : E → Bool
  | .lc _ _ _ _ _ => true
  | _ => false
section
variable (Γ : Nat → Fn) (kq : Nat → Kq) (ro : Bool)
noncomputable def semS : S → En → R (Fk × En)
  | .nil => nxS
  | .cons a r => seqS (semS a) (semS r)
  | .pass => nxS
  | .brk => fun env => .ok (.bk, env)
  | .cnt => fun env => .ok (.ct, env)
  | .ex e => exS (sem Γ kq e).v
  | .ret e => retS ro (sem Γ kq e).v
  | .retN => fun env => .ok (.rt (.dat .non), env)
  | .iff c a b => iffS (sem Γ kq c).t (semS a) (semS b)
  | .asg t e => asgS t (sem Γ kq e).v
  | .set o i e => setS o i (sem Γ kq e).v
  | .par ts a => parS ts (sem Γ kq a).a
  | .loop t it b => forS t (sem Γ kq it).i (semS b)
  | .whl c b => whS (sem Γ kq c).t (semS b)
  | .sti i k a => stiS i (sem Γ kq k).v (sem Γ kq a).v
end
/-! views -/
def vAs : Stmt → Option (Expr × Expr × Pos)
  | .Assign [t] e p => some (t, e, p)
  | _ => none
theorem vAs_ok {st : Stmt} {t e : Expr} {p : Pos} (h : vAs st = some (t, e, p)) : st = .Assign [t] e p := by
  unfold vAs at h
  split at h
  · cases h; rfl
  · cases h
def vNp : Expr → Option (Str × Pos)
  | .Name x p => some (x, p)
  | _ => none
theorem vNp_ok {e : Expr} {x : Str} {p : Pos} (h : vNp e = some (x, p)) : e = .Name x p := by
  cases e <;> first | (cases h; done) | skip
  cases h; rfl
def vNps : List Expr → Option (List (Str × Pos))
  | [] => some []
  | e :: es => (vNp e).bind fun x => (vNps es).map (x :: ·)
theorem vNps_ok : ∀ {es : List Expr} {xs : List (Str × Pos)}, vNps es = some xs → es = xs.map fun x => .Name x.1 x.2
  | [], xs, h => by cases h; rfl
  | e :: es, xs, h => by
    obtain ⟨⟨x, p⟩, h1, h2⟩ := Option.bind_eq_some_iff.mp h
    obtain ⟨ys, h3, rfl⟩ := Option.map_eq_some_iff.mp h2
    rw [vNp_ok h1, vNps_ok h3]; rfl
def vSub : Expr → Option (Expr × Expr)
  | .Subscript o k _ => some (o, k)
  | _ => none
theorem vSub_ok {e o k : Expr} (h : vSub e = some (o, k)) : ∃ p, e = .Subscript o k p := by
  cases e <;> first | (cases h; done) | skip
  cases h; exact ⟨_, rfl⟩
def swQ (sc : Scope) (tg e : Expr) : Bool := notTup e || ((vTup tg).any fun ts => (vTup e).any fun vs => swN sc ts vs)
theorem swQ_ok {sc : Scope} {tg e : Expr} {env : Env} (hs : env.scope = sc) (h : swQ sc tg e = true) : swappedStores [tg] e env = pure none := by
  unfold swQ at h
  rw [Bool.or_eq_true] at h
  rcases h with h | h
  · exact notTup_ok h
  · obtain ⟨ts, q1, h1⟩ := oany h
    obtain ⟨vs, q2, h2⟩ := oany h1
    obtain ⟨k, p, rfl⟩ := vTup_ok q1
    obtain ⟨k2, p2, rfl⟩ := vTup_ok q2
    exact swN_ok hs h2
theorem sole_ok {t e : Expr} {l : Nat} {env : Env} (h : notName t = true) : swapsWithSole [t] e l env = pure false := by
  unfold swapsWithSole
  exact notName_ok h
theorem len2 {α : Type} {l : List α} (h : l.length = 2) : ∃ a b, l = [a, b] := by
  match l, h with
  | [a, b], _ => exact ⟨a, b, rfl⟩
theorem len3 {α : Type} {l : List α} (h : l.length = 3) : ∃ a b c, l = [a, b, c] := by
  match l, h with
  | [a, b, c], _ => exact ⟨a, b, c, rfl⟩
def ms (nm : Nm) (kq : Nat → Kq) : S → (Sc → Stmt → Bool) × (Sc → List Stmt → Bool)
  | .nil => (fun _ _ => false, fun _ st => st.isEmpty)
  | .cons a r => (fun _ _ => false, fun s st => match st with
    | x :: xs => (ms nm kq a).1 s x && (ms nm kq r).2 s xs
    | [] => false)
  | .pass => (fun _ st => match st with
    | .Pass _ => true
    | _ => false, fun _ _ => false)
  | .brk => (fun _ st => match st with
    | .Break _ => true
    | _ => false, fun _ _ => false)
  | .cnt => (fun _ st => match st with
    | .Continue _ => true
    | _ => false, fun _ _ => false)
  | .ex e => (fun s st => match st with
    | .Expr x _ => noComp x && (mt nm kq e).v s x
    | _ => false, fun _ _ => false)
  | .ret e => (fun s st => match st with
    | .Return (some x) _ => (mt nm kq e).v s x
    | _ => false, fun _ _ => false)
  | .retN => (fun s st => match st with
    | .Return none _ => true
    | _ => false, fun _ _ => false)
  | .iff c a b => (fun s st => match st with
    | .If x y z _ => (mt nm kq c).t s x && (ms nm kq a).2 s y && (ms nm kq b).2 s z
    | _ => false, fun _ _ => false)
  | .asg t e => (fun s st => (vAs st).any fun (tg, x, _) => notName tg && noStar tg && (mtT nm.N t).1 s tg && (mt nm kq e).v s x && swQ s.sc tg x && t.slots.all (fun i => !nm.pin.contains i), fun _ _ => false)
  | .set o i e => (fun s st => (vAs st).any fun (tg, x, _) => (vNp tg).any fun (y, py) => nm.N[i]? == some y && s.loc y && (mt nm kq e).v s x && (!swC s.sc x y py || e.isLc) && !nm.pin.contains i, fun _ _ => false)
  | .par ts a => (fun s st => (vAs st).any fun (tg, x, _) => (vTup tg).any fun es => (vTup x).any fun vs => (vNps es).any fun xs =>
      (ts.map (fun t => nm.N[t.2]?) == xs.map (fun x => some x.1)) && decide (ts.map (·.2)).Nodup && swY s.sc vs xs && (mt nm kq a).a s vs && (ts.map (·.2)).all (fun i => !nm.pin.contains i), fun _ _ => false)
  | .loop t it b => (fun s st => match st with
    | .For tg iter body [] _ => t.slots.all (fun i => !nm.pin.contains i) && notSet iter && (mtT nm.N t).1 s tg && (mt nm kq it).i s tg iter && (ms nm kq b).2 s body
    | _ => false, fun _ _ => false)
  | .whl c b => (fun s st => match st with
    | .While x body [] _ => (mt nm kq c).t s x && (ms nm kq b).2 s body
    | _ => false, fun _ _ => false)
  | .sti i k a => (fun s st => (vAs st).any fun (tg, x, _) => (vSub tg).any fun (o, j) => mname nm i s o && notSli j && (mt nm kq k).v s j && (mt nm kq a).v s x, fun _ _ => false)
section
variable {nm : Nm} {kq : Nat → Kq} {Γ : Nat → Fn} {ro : Bool}
theorem np_one {C : Cq} {X : Cx} {s : Sc} (h : XOk nm kq Γ C X s) {i : Nat} (m : (!nm.pin.contains i) = true) : ∀ q ∈ C.pin, q.1 ≠ i := fun q hq e => by
  have := h.pin q hq
  rw [e] at this
  simp [this] at m
theorem np_all {C : Cq} {X : Cx} {s : Sc} (h : XOk nm kq Γ C X s) {is : List Nat} (m : is.all (fun i => !nm.pin.contains i) = true) : ∀ q ∈ C.pin, q.1 ∉ is := fun q hq e =>
  np_one h (List.all_eq_true.mp m _ e) q hq rfl
theorem soundS {C : Cq} {X : Cx} {s : Sc} (h : XOk nm kq Γ C X s) (hp : PassesOwn (model X.prog X.w) X.A X.env X.xe) (S0 : S) :
    (∀ st, (ms nm kq S0).1 s st = true → PS X st (rdS C (semS Γ kq ro S0))) ∧ (∀ st, (ms nm kq S0).2 s st = true → PSs X st (rdS C (semS Γ kq ro S0))) := by
  have hN : X.N.Nodup := by rw [h.hN]; exact h.nd
  induction S0 with
  | nil =>
    refine ⟨(fun st m => nomatch m), fun st m => ?_⟩
    cases st with
    | nil => exact s_nil
    | cons _ _ => cases m
  | cons a r iha ihr =>
    refine ⟨(fun st m => nomatch m), fun st m => ?_⟩
    cases st with
    | nil => cases m
    | cons x xs =>
      have m : ((ms nm kq a).1 s x && (ms nm kq r).2 s xs) = true := m
      simp only [Bool.and_eq_true] at m
      exact s_cons (iha.1 x m.1) (ihr.2 xs m.2)
  | pass =>
    refine ⟨fun st m => ?_, (fun st m => nomatch m)⟩
    cases st <;> first | (cases m; done) | exact s_pass
  | brk =>
    refine ⟨fun st m => ?_, (fun st m => nomatch m)⟩
    cases st <;> first | (cases m; done) | exact s_break
  | cnt =>
    refine ⟨fun st m => ?_, (fun st m => nomatch m)⟩
    cases st <;> first | (cases m; done) | exact s_cont
  | ex e =>
    refine ⟨fun st m => ?_, (fun st m => nomatch m)⟩
    cases st <;> first | (cases m; done) | skip
    rename_i x p
    have m : (noComp x && (mt nm kq e).v s x) = true := m
    simp only [Bool.and_eq_true] at m
    exact s_expr ((sound e C X s h).v x m.2) (noComp_ok m.1)
  | ret e =>
    refine ⟨fun st m => ?_, (fun st m => nomatch m)⟩
    cases st <;> first | (cases m; done) | skip
    rename_i x p
    cases x with
    | none => cases m
    | some x => exact s_ret ((sound e C X s h).v x m)
  | retN =>
    refine ⟨fun st m => ?_, (fun st m => nomatch m)⟩
    cases st <;> first | (cases m; done) | skip
    rename_i x p
    cases x with
    | none => exact s_retN
    | some x => cases m
  | iff c a b iha ihb =>
    refine ⟨fun st m => ?_, (fun st m => nomatch m)⟩
    cases st <;> first | (cases m; done) | skip
    rename_i x y z p
    have m : ((mt nm kq c).t s x && (ms nm kq a).2 s y && (ms nm kq b).2 s z) = true := m
    simp only [Bool.and_eq_true] at m
    exact s_if ((sound c C X s h).t x m.1.1) (iha.2 y m.1.2) (ihb.2 z m.2)
  | asg t e =>
    refine ⟨fun st m => ?_, (fun st m => nomatch m)⟩
    obtain ⟨⟨tg, x, p⟩, q1, m1⟩ := oany m
    rw [vAs_ok q1]
    simp only [Bool.and_eq_true] at m1
    obtain ⟨⟨⟨⟨⟨m1, m2⟩, m3⟩, m4⟩, m5⟩, m6⟩ := m1
    exact s_asg (np_all h m6) ((sound e C X s h).v x m4) ((g_ok h t).1 tg m3) (notName_ok m1) (swQ_ok h.sc m5) (by rw [asgE1 m2]; rfl)
  | set o i e =>
    refine ⟨fun st m => ?_, (fun st m => nomatch m)⟩
    obtain ⟨⟨tg, x, p⟩, q1, m1⟩ := oany m
    rw [vAs_ok q1]
    obtain ⟨⟨y, py⟩, q2, m2⟩ := oany m1
    simp only [Bool.and_eq_true, beq_iff_eq] at m2
    obtain ⟨⟨⟨⟨m3, m4⟩, m5⟩, m6⟩, m9⟩ := m2
    have np := np_one h m9
    have q2 : tg = _ := vNp_ok q2
    rw [q2]
    obtain ⟨l1, l2⟩ := h.loc m4
    cases hsw : swC s.sc x y py with
    | false => exact s_set np hN (by rw [h.hN]; exact m3) l1 ((sound e C X s h).v x m5) (by rw [swC_ok h.sc h.kind, hsw]) l2
    | true =>
      rw [hsw] at m6
      have m6 : e.isLc = true := m6
      cases e <;> first | (cases m6; done) | skip
      rename_i own t it c f m6'
      obtain ⟨⟨elt, tg', iter, ifs, scope⟩, q3, m7⟩ := oany m5
      obtain ⟨p3, q4⟩ := vLc_ok q3
      rw [q4] at hsw ⊢
      have hlk : X.env.scope.names.lookup y = some .local := by
        rw [h.sc]
        have : (s.sc.names.lookup y == some NameKind.local && _ && _) = true := hsw
        simp only [Bool.and_eq_true, beq_iff_eq] at this
        exact this.1.1
      exact (lc_ok h m7 (sound it C X s h) (fun X' h' => sound c C.mute X' _ h') (fun X' h' => sound f C.mute X' _ h')).2 np m3 hlk (by rw [swC_ok h.sc h.kind, hsw])
  | par ts a =>
    refine ⟨fun st m => ?_, (fun st m => nomatch m)⟩
    obtain ⟨⟨tg, x, p⟩, q1, m1⟩ := oany m
    rw [vAs_ok q1]
    obtain ⟨es, q2, m2⟩ := oany m1
    obtain ⟨vs, q3, m3⟩ := oany m2
    obtain ⟨xs, q4, m4⟩ := oany m3
    simp only [Bool.and_eq_true, beq_iff_eq, decide_eq_true_eq] at m4
    obtain ⟨⟨⟨⟨n1, n2⟩, n3⟩, n4⟩, n5⟩ := m4
    have np := np_all h n5
    obtain ⟨k1, p1, q2⟩ := vTup_ok q2
    obtain ⟨k2, p2, q3⟩ := vTup_ok q3
    have q4 : es = _ := vNps_ok q4
    have ha := (sound a C X s h).a vs n4
    have hw : swappedStores [.Tuple (xs.map fun x => .Name x.1 x.2) k1 p1] (.Tuple vs k2 p2) X.env = pure (some (xs.map (·.1))) := swY_ok h.sc n3
    have hloc : ∀ x ∈ xs, X.env.scope.names.lookup x.1 = some .local := by
      intro x hx
      unfold swY at n3
      simp only [Bool.and_eq_true] at n3
      have := List.all_eq_true.mp n3.1.1.1.2 x hx
      simp only [Bool.and_eq_true, beq_iff_eq] at this
      rw [h.sc]
      exact this.1
    have hlen : (xs.length = 2 ∨ xs.length = 3) ∧ vs.length = xs.length := by
      unfold swY at n3
      simp only [Bool.and_eq_true, Bool.or_eq_true, beq_iff_eq] at n3
      exact ⟨n3.1.1.1.1.1.1.1, n3.1.1.1.1.1.1.2⟩
    rw [q2, q3, q4]
    have hts : ts.length = xs.length := by
      have := congrArg List.length n1
      simpa using this
    clear q1 q2 q3 q4 m m1 m2 m3 n4
    obtain ⟨hl1, hl2⟩ := hlen
    rcases hl1 with hl1 | hl1
    · obtain ⟨x, y, rfl⟩ := len2 hl1
      obtain ⟨⟨o1, i⟩, ⟨o2, j⟩, rfl⟩ := len2 (hts.trans hl1)
      obtain ⟨u, v, rfl⟩ := len2 (hl2.trans hl1)
      simp only [List.map_cons, List.map_nil, List.cons.injEq, and_true] at n1
      have hij : i ≠ j := by simpa using n2
      refine PS.weak (ps_par h.calm hN (by rw [h.hN]; exact n1.1) (by rw [h.hN]; exact n1.2) hij (hloc x (by simp)) (hloc y (by simp)) ha hw (sole_ok rfl)) fun D σ H hh => ?_
      refine (par_read np hh).mono fun vs' H1 ⟨hl, hn⟩ => ?_
      obtain ⟨v', w', rfl⟩ := len2 hl
      exact ⟨v', w', rfl, hn⟩
    · obtain ⟨x, y, z, rfl⟩ := len3 hl1
      obtain ⟨⟨o1, i⟩, ⟨o2, j⟩, ⟨o3, l⟩, rfl⟩ := len3 (hts.trans hl1)
      obtain ⟨u, v, w, rfl⟩ := len3 (hl2.trans hl1)
      simp only [List.map_cons, List.map_nil, List.cons.injEq, and_true] at n1
      have hij : i ≠ j ∧ i ≠ l ∧ j ≠ l := by
        have := n2
        simp only [List.map_cons, List.map_nil, List.nodup_cons, List.mem_cons, List.not_mem_nil, or_false, not_or] at this
        exact ⟨this.1.1, this.1.2, this.2.1⟩
      refine PS.weak (ps_par3 h.calm hN (by rw [h.hN]; exact n1.1) (by rw [h.hN]; exact n1.2.1) (by rw [h.hN]; exact n1.2.2) hij.1 hij.2.1 hij.2.2 (hloc x (by simp)) (hloc y (by simp)) (hloc z (by simp)) ha hw (sole_ok rfl)) fun D σ H hh => ?_
      refine (par_read np hh).mono fun vs' H1 ⟨hl, hn⟩ => ?_
      obtain ⟨v', w', u', rfl⟩ := len3 hl
      exact ⟨v', w', u', rfl, hn⟩
  | loop t it b ihb =>
    refine ⟨fun st m => ?_, (fun st m => nomatch m)⟩
    cases st <;> first | (cases m; done) | skip
    rename_i tg iter body els p
    cases els with
    | cons _ _ => cases m
    | nil =>
      have m : (t.slots.all (fun i => !nm.pin.contains i) && notSet iter && (mtT nm.N t).1 s tg && (mt nm kq it).i s tg iter && (ms nm kq b).2 s body) = true := m
      simp only [Bool.and_eq_true] at m
      exact s_for hp h.calm ((sound it C X s h).i tg iter m.1.2) ((g_ok h t).1 tg m.1.1.2) (ihb.2 body m.2) (np_all h m.1.1.1.1) (fun x => notSet_ok m.1.1.1.2 x)
  | whl c b ihb =>
    refine ⟨fun st m => ?_, (fun st m => nomatch m)⟩
    cases st <;> first | (cases m; done) | skip
    rename_i x body els p
    cases els with
    | cons _ _ => cases m
    | nil =>
      have m : ((mt nm kq c).t s x && (ms nm kq b).2 s body) = true := m
      simp only [Bool.and_eq_true] at m
      exact s_while hp ((sound c C X s h).t x m.1) (ihb.2 body m.2)
  | sti i k a =>
    refine ⟨fun st m => ?_, (fun st m => nomatch m)⟩
    obtain ⟨⟨tg, x, p⟩, q1, m1⟩ := oany m
    rw [vAs_ok q1]
    obtain ⟨⟨o, j⟩, q2, m2⟩ := oany m1
    obtain ⟨p2, q2⟩ := vSub_ok q2
    rw [q2]
    simp only [Bool.and_eq_true] at m2
    obtain ⟨⟨⟨m3, m4⟩, m5⟩, m6⟩ := m2
    exact s_sti (name_ok' h m3) ((sound k C X s h).v j m5) ((sound a C X s h).v x m6) (sole_ok rfl) sub_ok rfl (by cases j <;> first | (intro v; rfl) | cases m4)
end
end FR
set_option Elab.async false
set_option linter.all false
set_option autoImplicit false
set_option maxRecDepth 100000
/-! FRg: a def keeps its promise -/
namespace FR
open PySem PySem.Spec PyProof.Rows L2

def parE : List Bool → List D → En
  | m :: ms, d :: ds => (if m then .own d else .val d) :: parE ms ds
  | _, _ => []
def mkEnv (n : Nat) (md : List Bool) (ds : List D) : En := parE md ds ++ List.replicate (n - md.length) .un
def outsF (e : En) : Nat → List Bool → Option (List D)
  | _, [] => some []
  | i, false :: ms => outsF e (i + 1) ms
  | i, true :: ms => match e[i]? with
    | some (.own d) => (outsF e (i + 1) ms).map (d :: ·)
    | _ => none
/-- what a def does: n slots, the by-reference marks, whether a fresh thing is handed back -/
def endF (md : List Bool) (ro : Bool) : R (Fk × En) → R1
  | .ok (.nx, e) => if ro then .bad else match outsF e 0 md with
    | some os => .ok .non os
    | none => .bad
  | .ok (.rt (.dat d), e) => if ro then .bad else match outsF e 0 md with
    | some os => .ok d os
    | none => .bad
  | .ok (.rt (.frs d), e) => if ro then (match outsF e 0 md with
    | some os => .ok d os
    | none => .bad) else .bad
  | .ex x e => match outsF e 0 md with
    | some os => .ex x os
    | none => .bad
  | _ => .bad
structure Df where
  n : Nat
  md : List Bool
  ro : Bool
  body : S
noncomputable def Df.fn (d : Df) (Γ : Nat → Fn) (kq : Nat → Kq) : Fn where
  md := d.md
  ro := d.ro
  run := fun ds => if ds.length = d.md.length then endF d.md d.ro (semS Γ kq d.ro d.body (mkEnv d.n d.md ds)) else .bad
section
variable {K : PySem.W.Frag} {H0 Hf H : Hp}
theorem parE_len : ∀ {ms : List Bool} {ds : List D}, ds.length = ms.length → (parE ms ds).length = ms.length
  | [], [], _ => rfl
  | _ :: _, [], h => by cases h
  | [], _ :: _, h => by cases h
  | m :: ms, d :: ds, h => congrArg (· + 1) (parE_len (Nat.succ.inj h))
theorem ArgR.lend : ∀ {ms : List Bool} {vs : List V} {ds : List D}, ArgR K H0 H ms vs ds → ds.length = ms.length
  | _, _, _, .nil => rfl
  | _, _, _, .val _ a => congrArg (· + 1) a.lend
  | _, _, _, .ref _ _ _ _ a => congrArg (· + 1) a.lend
/-- where the references stand -/
def pinsF : Nat → List Bool → List V → List (Nat × Addr)
  | i, true :: ms, .ref p :: vs => (i, p) :: pinsF (i + 1) ms vs
  | i, _ :: ms, _ :: vs => pinsF (i + 1) ms vs
  | _, _, _ => []
theorem ArgR.slot : ∀ {ms : List Bool} {vs : List V} {ds : List D}, ArgR K H0 H ms vs ds → (∀ p ∈ refs ms vs, Hf p = none) → ∀ (i : Nat) (t : Slot), (parE ms ds)[i]? = some t → ∃ v, vs[i]? = some v ∧ SlotR K H0 Hf H t (some v)
  | _, _, _, .nil, _, i, t, h => by simp [parE] at h
  | _, _, _, .val (v := v) r a, hf, 0, t, h => by
    simp [parE] at h; subst h
    exact ⟨v, rfl, v, rfl, r⟩
  | _, _, _, .val (v := v) (ms := ms) (vs := vs) r a, hf, i + 1, t, h => by
    obtain ⟨w, h1, h2⟩ := a.slot (fun p hp => hf p (by unfold refs; exact hp)) i t (by simpa [parE] using h)
    exact ⟨w, by simpa using h1, h2⟩
  | _, _, _, .ref (p := p) (o := o) q1 q2 q3 q4 a, hf, 0, t, h => by
    simp [parE] at h; subst h
    exact ⟨.ref p, rfl, p, o, rfl, q1, q2, q3, hf p (by unfold refs; exact List.mem_cons_self)⟩
  | _, _, _, .ref (p := p) (o := o) (ms := ms) q1 q2 q3 q4 a, hf, i + 1, t, h => by
    obtain ⟨w, h1, h2⟩ := a.slot (fun p hp => hf p (by unfold refs; exact List.mem_cons_of_mem _ hp)) i t (by simpa [parE] using h)
    exact ⟨w, by simpa using h1, h2⟩
theorem ArgR.inRefs : ∀ {ms : List Bool} {vs : List V} {ds : List D}, ArgR K H0 H ms vs ds → ∀ (i : Nat) (d : D) (p : Addr), (parE ms ds)[i]? = some (.own d) → vs[i]? = some (.ref p) → p ∈ refs ms vs
  | _, _, _, .nil, i, d, p, h, _ => by simp [parE] at h
  | _, _, _, .val r a, 0, d, p, h, h' => by simp [parE] at h
  | _, _, _, .val (ms := ms) r a, i + 1, d, p, h, h' => by
    unfold refs
    exact a.inRefs i d p (by simpa [parE] using h) (by simpa using h')
  | _, _, _, .ref q1 q2 q3 q4 a, 0, d, p, h, h' => by
    simp at h'; subst h'
    unfold refs; exact List.mem_cons_self
  | _, _, _, .ref q1 q2 q3 q4 a, i + 1, d, p, h, h' => by
    unfold refs
    exact List.mem_cons_of_mem _ (a.inRefs i d p (by simpa [parE] using h) (by simpa using h'))
theorem ArgR.uniq : ∀ {ms : List Bool} {vs : List V} {ds : List D}, ArgR K H0 H ms vs ds → ∀ (i j : Nat) (d e : D) (p : Addr), (parE ms ds)[i]? = some (.own d) → (parE ms ds)[j]? = some (.own e) → vs[i]? = some (.ref p) → vs[j]? = some (.ref p) → i = j
  | _, _, _, .nil, i, _, _, _, _, h, _, _, _ => by simp [parE] at h
  | _, _, _, .val r a, 0, j, _, _, _, h, _, _, _ => by simp [parE] at h
  | _, _, _, .val r a, i + 1, 0, _, _, _, _, h, _, _ => by simp [parE] at h
  | _, _, _, .val r a, i + 1, j + 1, d, e, p, h1, h2, h3, h4 => by
    rw [a.uniq i j d e p (by simpa [parE] using h1) (by simpa [parE] using h2) (by simpa using h3) (by simpa using h4)]
  | _, _, _, .ref _ _ _ _ a, 0, 0, _, _, _, _, _, _, _ => rfl
  | _, _, _, .ref _ _ _ n a, 0, j + 1, d, e, p, h1, h2, h3, h4 => by
    simp at h3; subst h3
    exact absurd (a.inRefs j e _ (by simpa [parE] using h2) (by simpa using h4)) n
  | _, _, _, .ref _ _ _ n a, i + 1, 0, d, e, p, h1, h2, h3, h4 => by
    simp at h4; subst h4
    exact absurd (a.inRefs i d _ (by simpa [parE] using h1) (by simpa using h3)) n
  | _, _, _, .ref _ _ _ n a, i + 1, j + 1, d, e, p, h1, h2, h3, h4 => by
    rw [a.uniq i j d e p (by simpa [parE] using h1) (by simpa [parE] using h2) (by simpa using h3) (by simpa using h4)]
theorem start_get {N : List Str} {vs : List V} {i : Nat} {v : V} (h : vs[i]? = some v) : (L2.start N vs)[i]? = some (some v) := by
  unfold L2.start
  have hi := (List.getElem?_eq_some_iff.mp h).1
  rw [List.getElem?_append_left (by rw [List.length_map]; exact hi), List.getElem?_map, h]; rfl
theorem mkEnv_get {n : Nat} {md : List Bool} {ds : List D} {i : Nat} {t : Slot} (h : (mkEnv n md ds)[i]? = some t) : (parE md ds)[i]? = some t ∨ (t = .un ∧ (parE md ds).length ≤ i ∧ i < (parE md ds).length + (n - md.length)) := by
  unfold mkEnv at h
  by_cases hi : i < (parE md ds).length
  · rw [List.getElem?_append_left hi] at h; exact .inl h
  · rw [List.getElem?_append_right (by omega)] at h
    obtain ⟨h1, h2⟩ := List.getElem?_eq_some_iff.mp h
    rw [List.length_replicate] at h1
    rw [List.getElem_replicate] at h2
    exact .inr ⟨h2.symm, by omega, by omega⟩
theorem sr_start {N : List Str} {md : List Bool} {vs : List V} {ds : List D} (a : ArgR K H0 H md vs ds) (hN : md.length ≤ N.length) (z : Same H0 H) (f : Same Hf H) (dj : ∀ p, H0 p = none ∨ Hf p = none) (hf : ∀ p ∈ refs md vs, Hf p = none) :
    SR K (mkEnv N.length md ds) (L2.start N vs) H0 Hf H := by
  have l1 := a.len
  have l2 := a.lend
  have l3 := parE_len l2
  refine ⟨z, f, dj, fun i t h => ?_, fun i j p d e h1 h2 h3 h4 => ?_, ?_⟩
  · rcases mkEnv_get h with h | ⟨rfl, h1, h2⟩
    · obtain ⟨v, q1, q2⟩ := a.slot hf i t h
      exact ⟨some v, start_get q1, q2⟩
    · have : i < (L2.start N vs).length := by unfold L2.start; rw [List.length_append, List.length_map, List.length_replicate]; omega
      exact ⟨_, List.getElem?_eq_getElem this, trivial⟩
  · have g : ∀ {i : Nat} {d : D}, (mkEnv N.length md ds)[i]? = some (.own d) → (L2.start N vs)[i]? = some (some (.ref p)) → (parE md ds)[i]? = some (.own d) ∧ vs[i]? = some (.ref p) := by
      intro i d h h'
      rcases mkEnv_get h with h | ⟨h, _, _⟩
      · obtain ⟨v, q1, q2⟩ := a.slot hf i _ h
        rw [start_get q1] at h'
        cases h'
        exact ⟨h, q1⟩
      · cases h
    obtain ⟨a1, a2⟩ := g h1 h3
    obtain ⟨b1, b2⟩ := g h2 h4
    exact a.uniq i j d e p a1 b1 a2 b2
  · unfold mkEnv L2.start
    rw [List.length_append, List.length_append, l3, List.length_replicate, List.length_map, List.length_replicate]; omega
theorem pinsF_get : ∀ {ms : List Bool} {vs : List V} {k : Nat} {q : Nat × Addr}, q ∈ pinsF k ms vs → k ≤ q.1 ∧ ms[q.1 - k]? = some true ∧ vs[q.1 - k]? = some (.ref q.2)
  | [], _, k, q, h => by simp [pinsF] at h
  | m :: ms, [], k, q, h => by simp [pinsF] at h
  | m :: ms, v :: vs, k, q, h => by
    have step : q ∈ pinsF (k + 1) ms vs → k ≤ q.1 ∧ (m :: ms)[q.1 - k]? = some true ∧ (v :: vs)[q.1 - k]? = some (.ref q.2) := fun h => by
      obtain ⟨h1, h2, h3⟩ := pinsF_get h
      have : q.1 - k = (q.1 - (k + 1)) + 1 := by omega
      rw [this]
      exact ⟨by omega, by simpa using h2, by simpa using h3⟩
    cases m with
    | false => exact step h
    | true =>
      cases v with
      | ref p =>
        rcases List.mem_cons.mp h with rfl | h
        · simp
        · exact step h
      | _ => exact step h
theorem ArgR.pin_refs : ∀ {ms : List Bool} {vs : List V} {ds : List D} (k : Nat), ArgR K H0 H ms vs ds → (pinsF k ms vs).map (·.2) = refs ms vs
  | _, _, _, k, .nil => rfl
  | _, _, _, k, .val r a => by unfold pinsF refs; exact a.pin_refs (k + 1)
  | _, _, _, k, .ref _ _ _ _ a => by unfold pinsF refs; rw [List.map_cons, a.pin_refs (k + 1)]
/-- what came by reference, at the end -/
theorem outs_end {H0' H' : Hp} {e : En} {σ' : L2.St} (s : SR K e σ' H0' Hf H') : ∀ {ms : List Bool} {vs : List V} {ds : List D} {k : Nat} {os : List D}, ArgR K H0 H ms vs ds → (∀ q ∈ pinsF k ms vs, σ'[q.1]? = some (some (.ref q.2))) → outsF e k ms = some os → OutR K H0' H' ms vs os
  | _, _, _, k, os, .nil, _, h => by cases h; exact .nil
  | _, _, _, k, os, .val r a, hp, h => .val (outs_end s a (fun q hq => hp q (by unfold pinsF; exact hq)) (by unfold outsF at h; exact h))
  | _, _, _, k, os, .ref (p := p) q1 q2 q3 q4 a, hp, h => by
    unfold outsF at h
    have h0 := hp (k, p) (by unfold pinsF; exact List.mem_cons_self)
    cases e1 : e[k]? with
    | none => rw [e1] at h; cases h
    | some t =>
      rw [e1] at h
      cases t with
      | un => cases h
      | val _ => cases h
      | own d =>
        have h : (outsF e (k + 1) _).map (d :: ·) = some os := h
        obtain ⟨os', h1, rfl⟩ := Option.map_eq_some_iff.mp h
        obtain ⟨w, w1, p', ob, w2, w3, w4, w5, w6⟩ := s.sl k _ e1
        rw [h0] at w1
        cases w1
        cases w2
        exact .ref w3 w4 w5 (outs_end s a (fun q hq => hp q (by unfold pinsF; exact List.mem_cons_of_mem _ hq)) h1)
theorem refs_pin {ms : List Bool} {vs : List V} {ds : List D} {e : En} : ∀ {k : Nat} {os : List D}, ArgR K H0 H ms vs ds → outsF e k ms = some os → ∀ q ∈ pinsF k ms vs, ∃ d, e[q.1]? = some (.own d) := by
  intro k os a
  induction a generalizing k os with
  | nil => intro _ q hq; simp [pinsF] at hq
  | val r a ih =>
    intro h q hq
    unfold outsF at h
    unfold pinsF at hq
    exact ih h q hq
  | ref q1 q2 q3 q4 a ih =>
    rename_i p o d ms vs ds
    intro h q hq
    unfold outsF at h
    unfold pinsF at hq
    cases e1 : e[k]? with
    | none => rw [e1] at h; cases h
    | some t =>
      rw [e1] at h
      cases t with
      | un => cases h
      | val _ => cases h
      | own d =>
        have h : (outsF e (k + 1) _).map (d :: ·) = some os := h
        obtain ⟨os', h1, rfl⟩ := Option.map_eq_some_iff.mp h
        rcases List.mem_cons.mp hq with rfl | hq
        · exact ⟨d, e1⟩
        · exact ih h1 q hq
end
section
variable {P : Program} {w : World} {K : PySem.W.Frag} {mg : Str → Option Value} {base : Heap}
variable {nm : Nm} {kq : Nat → Kq} {Γ : Nat → Fn}
/-- what all defs know of one another -/
structure GOk (P : Program) (w : World) (mg : Str → Option Value) (base : Heap) (fN : Nat → Option Str) (cN : List (Str × D)) (kq : Nat → Kq) (Γ : Nat → Fn) (C : Cq) (k : Nat) : Prop where
  blt : ∀ x ∈ bNs, mg x = none
  con : ∀ x d, (x, d) ∈ cN → ∃ v u, mg x = some u ∧ RelV v u ∧ ∀ H0, Rep C.K H0 v d
  call : ∀ (f : Nat) x, fN f = some x → ∃ fa fd ps, mg x = some (.ref fa) ∧ PySem.W.keepIn C.K (.ref fa) = true ∧ Binds C.K fd ps [] ∧ FnOk P w C.K mg base (L2.CX P w) k fa fd ps (spF C (Γ f)) ∧
    ∀ q, (kq q).np = 0 → (kq q).pm.Nodup → (kq q).f = f → KwB C.K fd ps (kq q).ks (kq q).pm
theorem RetR.neg {ro : Bool} {H0 Hf H : Hp} {rs : List Addr} {v : V} {d : D} (h : ¬ ro = true) (r : Rep K H0 v d) : RetR K ro H0 Hf H rs v d := by unfold RetR; rw [if_neg h]; exact r
theorem RetR.pos {ro : Bool} {H0 Hf H : Hp} {rs : List Addr} {v : V} {d : D} (h : ro = true) (r : ∃ p o, v = .ref p ∧ H p = some o ∧ ObR K H0 o d ∧ H0 p = none ∧ Hf p = none ∧ p ∉ rs) : RetR K ro H0 Hf H rs v d := by unfold RetR; rw [if_pos h]; exact r
theorem def_ok {C : Cq} {k : Nat} {x qual : Str} {ar : Arguments} {body : List Stmt} {sc : Scope} {f : Addr} {fd : FuncData} {ps : List Str} {d : Df} {dvs : List V} {kws : List (Str × V)} (F : FunD C.K x qual ar body sc dvs kws f fd) (S : FnScope nm.N ps sc) (g : GOk P w mg base nm.fN nm.cN kq Γ C k)
    (hn : d.n = nm.N.length) (hm : d.md.length = ps.length) (hpn : ∀ i, d.md[i]? = some true → i ∈ nm.pin) (hb : (ms nm kq d.body).2 ⟨sc, fun _ => true⟩ body = true) :
    FnOk P w C.K mg base (L2.CX P w) (k + 1) f fd ps (spF C (d.fn Γ kq)) := by
  refine F.ok S (fun vs H Q E ⟨H0, Hf, ds, _, _, _, _, a, _⟩ => by rw [a.len]; exact hm) fun cdv A outer s H vs Q E hr ⟨H0, Hf, ds, z, fz, dj, hf, a, hp⟩ => ?_
  have hle : d.md.length ≤ nm.N.length := by
    have := congrArg List.length S.pre
    rw [List.length_take] at this
    omega
  let C' : Cq := { C with W := fun cls d _ H => E cls d H, pin := pinsF 0 d.md vs }
  have X : XOk nm kq Γ C' (cxOf (L2.CX P w) P w C.K mg base nm.N qual sc f cdv A outer s H E) ⟨sc, fun _ => true⟩ := by
    refine ⟨rfl, rfl, rfl, S.nd, rfl, S.kind, fun _ _ => rfl, takes_of rfl rfl rfl rfl, fun q hq => ?_, ?_, g.blt, g.con, k, hr, g.call⟩
    · have := (pinsF_get hq).2.1
      exact hpn _ (by simpa using this)
    · have := hr.un
      show (A.deeper _).units + 65 < cLine
      omega
  have hS := (soundS (ro := d.ro) X (passes_of rfl) d.body).2 body hb
  refine ⟨_, hS, mkEnv nm.N.length d.md ds, H0, Hf, fun q hq => ?_, sr_start a hle z fz dj hf, ?_⟩
  · have := (pinsF_get hq).2.2
    exact start_get (by simpa using this)
  · have hrun : (d.fn Γ kq).run ds = endF d.md d.ro (semS Γ kq d.ro d.body (mkEnv nm.N.length d.md ds)) := by
      show (if ds.length = d.md.length then _ else _) = _
      have hl : ds.length = d.md.length := a.lend
      rw [if_pos hl, hn]
    rw [hrun] at hp
    generalize semS Γ kq d.ro d.body (mkEnv nm.N.length d.md ds) = r at hp
    have a : ArgR C.K H0 H d.md vs ds := a
    match r, hp with
    | .bad, hp => exact hp.elim
    | .ok (.bk, e), hp => exact hp.elim
    | .ok (.ct, e), hp => exact hp.elim
    | .ok (.rt (.cel i), e), hp => exact hp.elim
    | .ok (.nx, e), hp =>
      simp only [endF] at hp
      split at hp
      · exact hp.elim
      · rename_i hro
        split at hp
        · rename_i os ho
          exact fun σ' H0' H' pk s' m => hp .non H0' H' m s'.zs s'.fs s'.dj (outs_end s' a pk ho) (RetR.neg hro .non)
        · exact hp.elim
    | .ok (.rt (.dat y), e), hp =>
      simp only [endF] at hp
      split at hp
      · exact hp.elim
      · rename_i hro
        split at hp
        · rename_i os ho
          exact fun v σ' H0' H' pk s' m r => hp v H0' H' m s'.zs s'.fs s'.dj (outs_end s' a pk ho) (RetR.neg hro r)
        · exact hp.elim
    | .ok (.rt (.frs y), e), hp =>
      simp only [endF] at hp
      split at hp
      · rename_i hro
        split at hp
        · rename_i os ho
          intro v σ' H0' H' pk s' m r
          refine hp v H0' H' m s'.zs s'.fs s'.dj (outs_end s' a pk ho) (RetR.pos hro ?_)
          obtain ⟨p, o, r1, r2, r3, r4, r5, r6⟩ := r
          refine ⟨p, o, r1, r2, r3, r4, r5, fun hp => ?_⟩
          have hp : p ∈ refs d.md vs := hp
          rw [← a.pin_refs 0] at hp
          obtain ⟨q, hq, rfl⟩ := List.mem_map.mp hp
          obtain ⟨d', e1⟩ := refs_pin a ho q hq
          exact r6 q.1 d' e1 (pk q hq)
        · exact hp.elim
      · exact hp.elim
    | .ex x e, hp =>
      simp only [endF] at hp
      split at hp
      · rename_i os ho
        exact fun cls dd σ' H0' H' pk s' m xr => hp cls dd H0' H' m s'.zs s'.fs s'.dj (outs_end s' a pk ho) xr
      · exact hp.elim
end
end FR
set_option Elab.async false
set_option linter.all false
set_option autoImplicit false
set_option maxRecDepth 100000
/-! FRh: all defs of a law together; the law -/
namespace FR
open PySem PySem.Spec PyProof.Rows L2
structure Dr where
  id : Nat
  x : Str
  ar : Arguments
  body : List Stmt
  sc : Scope
  N : List Str
  ps : List Str
def Dr.de (d : Dr) : He.DefD := ⟨(d.x, none), d.x, d.x, d.ar, d.body, d.sc, [], []⟩
def pinsOf (md : List Bool) : List Nat := (List.range md.length).filter fun i => md.getD i false
theorem pinsOf_ok {md : List Bool} {i : Nat} (h : md[i]? = some true) : i ∈ pinsOf md := by
  unfold pinsOf
  rw [List.mem_filter, List.mem_range]
  refine ⟨(List.getElem?_eq_some_iff.mp h).1, ?_⟩
  rw [List.getD_eq_getElem?_getD, h]; rfl
def fNof (drs : List Dr) (f : Nat) : Option Str := (drs.find? (fun d => d.id == f)).map (·.x)
def Dr.ok (fN : Nat → Option Str) (cN : List (Str × D)) (kq : Nat → Kq) (T : Nat → Df) (d : Dr) : Bool :=
  C8.scC d.N d.ps d.sc && (T d.id).n == d.N.length && (T d.id).md.length == d.ps.length && (ms ⟨d.N, fN, cN, pinsOf (T d.id).md⟩ kq (T d.id).body).2 ⟨d.sc, fun _ => true⟩ d.body
def noFn (d : Df) : Fn := ⟨d.md, d.ro, fun _ => .bad⟩
def df0 : Df := ⟨0, [], false, .nil⟩
/-- the defs, called so deep at the most -/
noncomputable def Gam0 (T : Nat → Df) (kq : Nat → Kq) : Nat → Nat → Fn
  | 0, f => noFn (T f)
  | n + 1, f => (T f).fn (Gam0 T kq n) kq
@[irreducible] noncomputable def Gam (T : Nat → Df) (kq : Nat → Kq) (n f : Nat) : Fn := Gam0 T kq n f
theorem Gam_eq0 (T : Nat → Df) (kq : Nat → Kq) (n : Nat) : Gam T kq n = Gam0 T kq n := by funext f; unfold Gam; rfl
theorem Gam_zero (T : Nat → Df) (kq : Nat → Kq) (f : Nat) : Gam T kq 0 f = noFn (T f) := by rw [Gam_eq0]; rfl
theorem Gam_succ (T : Nat → Df) (kq : Nat → Kq) (n f : Nat) : Gam T kq (n + 1) f = (T f).fn (Gam T kq n) kq := by rw [Gam_eq0, Gam_eq0]; rfl
/-- how a def binds by place -/
def BndP (d : Dr) : Prop := ∀ (kV doc pm : Value) (an : Option Addr) (cdv ct : Value) (us : List Value), us.length = d.ps.length → bindArgs (PySem.W.fnOf d.x d.x d.ar d.body d.sc .none kV doc pm an cdv ct) ⟨us, []⟩ = pure (d.ps.zip us)
/-- .. by names -/
def BndK (d : Dr) (q : Kq) : Prop := ∀ (kV doc pm : Value) (an : Option Addr) (cdv ct : Value) (ws : List Value), ws.length = q.ks.length → bindArgs (PySem.W.fnOf d.x d.x d.ar d.body d.sc .none kV doc pm an cdv ct) ⟨[], q.ks.zip ws⟩ = pure (d.ps.zip (q.pm.map fun i => ws.getD i .none))
theorem vacF {P : Program} {w : World} {K : PySem.W.Frag} {mg : Str → Option Value} {base : Heap} {CX : CXT} {k : Nat} {f : Addr} {fd : FuncData} {ps : List Str} {C : Cq} {d : Df} : FnOk P w K mg base CX k f fd ps (spF C (noFn d)) :=
  ⟨fun vs H Q E ⟨_, _, _, _, _, _, _, _, z⟩ => z.elim, fun A outer s H args us vs Q E hr e0 hb hv ⟨_, _, _, _, _, _, _, _, z⟩ => z.elim⟩
section
variable {P : Program} {w : World} {mg : Str → Option Value} {base : Heap} {kq : Nat → Kq} {drs : List Dr} {T : Nat → Df} {cN : List (Str × D)} {C : Cq} {fa : List He.Fa} {h : Heap}
theorem FunD.kwb {K : PySem.W.Frag} {d : Dr} {f : Addr} {fd : FuncData} {q : Kq} (F : FunD K d.x d.x d.ar d.body d.sc [] [] f fd) (hq : BndK d q) : KwB K fd d.ps q.ks q.pm := by
  obtain ⟨oc, od, dV, kV, doc, pm, an, cdv, ct, osl, rfl, lk, hcd, hD, hK⟩ := F.ex
  rcases hD with ⟨_, rfl⟩ | ⟨e, _⟩
  · exact fun s ws _ hl => .of_eq (hq kV doc pm an cdv ct ws hl)
  · exact absurd rfl e
theorem all_ok (X : C.K.In h) (G : h.Ns mainGlobals mg) (c : He.SaysD fa (drs.map Dr.de) C.K) (hfa : ∀ d ∈ drs, He.Fa.glo d.x ∈ fa) (hbl : ∀ x ∈ bNs, He.Fa.free x ∈ fa)
    (con : ∀ x d, (x, d) ∈ cN → ∃ v u, mg x = some u ∧ RelV v u ∧ ∀ H0, Rep C.K H0 v d)
    (hok : drs.all (Dr.ok (fNof drs) cN kq T) = true) (hbp : ∀ d ∈ drs, BndP d) (hbk : ∀ q, (kq q).np = 0 → (kq q).pm.Nodup → ∀ d ∈ drs, d.id = (kq q).f → BndK d (kq q)) :
    ∀ n, GOk P w mg base (fNof drs) cN kq (Gam T kq n) C n := by
  have fact : ∀ {f : He.Fa}, f ∈ fa → f.ok C.K = true := fun {f} hf => by
    obtain ⟨i, hi⟩ := List.mem_iff_getElem?.mp hf
    exact c.fact i hi
  intro n
  have base1 : ∀ (f : Nat) x, fNof drs f = some x → ∃ d fd, d ∈ drs ∧ d.id = f ∧ d.x = x ∧ mg x = some (.ref (He.ga C.K x)) ∧ FunD C.K d.x d.x d.ar d.body d.sc [] [] (He.ga C.K x) fd := by
    intro f x hx
    obtain ⟨d, h1, h2⟩ := Option.map_eq_some_iff.mp hx
    have hm := List.mem_of_find?_eq_some h1
    have hid : d.id = f := by simpa using List.find?_some h1
    obtain ⟨i, hi⟩ := List.mem_iff_getElem?.mp hm
    obtain ⟨fd, F⟩ := c.def_ i (d := d.de) (by rw [List.getElem?_map, hi]; rfl)
    subst h2
    exact ⟨d, fd, hm, hid, rfl, He.glo_ok X G (fact (hfa d hm)), F⟩
  have common : ∀ {k : Nat} {Γ : Nat → Fn}, (∀ d fd fa, d ∈ drs → FunD C.K d.x d.x d.ar d.body d.sc [] [] fa fd → FnOk P w C.K mg base (L2.CX P w) k fa fd d.ps (spF C (Γ d.id))) → GOk P w mg base (fNof drs) cN kq Γ C k := by
    intro k Γ hf
    refine ⟨fun x hx => He.free_ok X G (fact (hbl x hx)), con, fun f x hx => ?_⟩
    obtain ⟨d, fd, hm, hid, h2, h3, F⟩ := base1 f x hx
    exact ⟨_, fd, d.ps, h3, F.kp, F.bindsN (hbp d hm), by rw [← hid]; exact hf d fd _ hm F, fun q hq0 hq1 hq2 => FunD.kwb F (hbk q hq0 hq1 d hm (hid.trans hq2.symm))⟩
  induction n with
  | zero => exact common fun d fd fa _ _ => by rw [Gam_zero]; exact vacF
  | succ n ih =>
    refine common fun d fd fa hm F => ?_
    have hd := List.all_eq_true.mp hok d hm
    unfold Dr.ok at hd
    simp only [Bool.and_eq_true, beq_iff_eq] at hd
    obtain ⟨⟨⟨d1, d2⟩, d3⟩, d4⟩ := hd
    rw [Gam_succ]
    exact def_ok (nm := ⟨d.N, fNof drs, cN, pinsOf (T d.id).md⟩) F (C8.fnScope_by d1) ih d2 d3 (fun i hi => pinsOf_ok hi) d4
theorem one_ok' (X : C.K.In h) (G : h.Ns mainGlobals mg) (c : He.SaysD fa (drs.map Dr.de) C.K) (hfa : ∀ d ∈ drs, He.Fa.glo d.x ∈ fa) (hbl : ∀ x ∈ bNs, He.Fa.free x ∈ fa)
    (con : ∀ x d, (x, d) ∈ cN → ∃ v u, mg x = some u ∧ RelV v u ∧ ∀ H0, Rep C.K H0 v d)
    (hok : drs.all (Dr.ok (fNof drs) cN kq T) = true) (hbp : ∀ d ∈ drs, BndP d) (hbk : ∀ q, (kq q).np = 0 → (kq q).pm.Nodup → ∀ d ∈ drs, d.id = (kq q).f → BndK d (kq q)) {d : Dr} (hm : d ∈ drs) :
    mg d.x = some (.ref (He.ga C.K d.x)) ∧ ∃ fd, (∀ (s : Shared) (us : List Value), us.length = d.ps.length → BindsTo s fd ⟨us, []⟩ (d.ps.zip us)) ∧ ∀ (P : Program) (w : World) (base : Heap) (n : Nat), FnOk P w C.K mg base (L2.CX P w) (n + 1) (He.ga C.K d.x) fd d.ps (spF C (Gam T kq (n + 1) d.id)) := by
  have fact : (He.Fa.glo d.x).ok C.K = true := by
    obtain ⟨i, hi⟩ := List.mem_iff_getElem?.mp (hfa d hm)
    exact c.fact i hi
  obtain ⟨i, hd⟩ := List.mem_iff_getElem?.mp hm
  obtain ⟨fd, F⟩ := c.def_ i (d := d.de) (by rw [List.getElem?_map, hd]; rfl)
  have F : FunD C.K d.x d.x d.ar d.body d.sc [] [] (He.ga C.K d.x) fd := F
  refine ⟨He.glo_ok X G fact, fd, fun s us hl => F.bindsA (hbp d hm) s us hl, fun P w base n => ?_⟩
  have ih := all_ok (P := P) (w := w) (base := base) X G c hfa hbl con hok hbp hbk n
  have hq := List.all_eq_true.mp hok d hm
  unfold Dr.ok at hq
  simp only [Bool.and_eq_true, beq_iff_eq] at hq
  obtain ⟨⟨⟨d1, d2⟩, d3⟩, d4⟩ := hq
  rw [Gam_succ]
  exact def_ok (nm := ⟨d.N, fNof drs, cN, pinsOf (T d.id).md⟩) F (C8.fnScope_by d1) ih d2 d3 (fun i hi => pinsOf_ok hi) d4
theorem FnOk.cx {P : Program} {w : World} {K : PySem.W.Frag} {mg : Str → Option Value} {base : Heap} {CX CX' : CXT} {k : Nat} {f : Addr} {fd : FuncData} {ps : List Str} {sp : Sp} (F : FnOk P w K mg base CX k f fd ps sp) (hc : ∀ outer H s E e s', CX outer H s E e s' → CX' outer H s E e s') : FnOk P w K mg base CX' k f fd ps sp :=
  ⟨F.len, fun A outer s H args us vs Q E hr e0 hb hv hsp => codeAny_mono (F.run A outer s H args us vs Q E hr e0 hb hv hsp) fun r s' h => by
    cases r with
    | error e => exact hc _ _ _ _ _ _ h
    | ok fl => cases fl <;> exact h⟩
/-- what may come out, whatever the world -/
def CXw (P : Program) : CXT := fun outer H s E e s' => ∃ w, L2.CX P w outer H s E e s'
theorem cxw_none {P : Program} {H : Hp} {s : Shared} {e : Value} {s' : Shared} (h : CXw P [] H s (fun _ _ _ => False) e s') : False := by
  obtain ⟨w, _, _, _, _, _, _, _, _, _, _, _, _, z⟩ := h
  exact z
/-- the law's def, at a script -/
theorem law_sp {n : Nat} {f : Nat} {d : Df} (hmd : (Gam T kq n f).md = [false]) (hro : (Gam T kq n f).ro = false) {H : Hp} {a : Addr} {ns : List Int} (hS : SqL C.K H a (ns.map V.int)) (hr : (Gam T kq n f).run [.scr ns] = .ok (.bl true) []) :
    spF C (Gam T kq n f) [.ref a] H (fun v _ => v = .bl true) fun _ _ _ => False := by
  refine ⟨H, fun _ => none, [.scr ns], .refl _, fun _ _ z => (nomatch z), fun _ => .inr rfl, fun _ _ => rfl, ?_, ?_⟩
  · rw [hmd]; exact .val (.scr hS) .nil
  · rw [hr]
    intro v H0' H' _ _ _ _ _ r
    unfold RetR at r
    rw [hro] at r
    simp only [Bool.false_eq_true, if_false] at r
    cases r
    rfl
end
end FR
set_option Elab.async false
set_option linter.all false
set_option autoImplicit false
set_option maxRecDepth 100000
/-! FRq: reckoning with meanings, step by step -/
namespace FR
open PySem PySem.Spec PyProof.Rows L2
theorem R.bind_cg {α β : Type} {x y : R α} {f : α → R β} (h : x = y) : x.bind f = y.bind f := by rw [h]
@[simp] theorem R.bind_ok {α β : Type} (a : α) (f : α → R β) : (R.ok a).bind f = f a := rfl
@[simp] theorem R.bind_bad {α β : Type} (f : α → R β) : (R.bad : R α).bind f = .bad := rfl
@[simp] theorem R.bind_ex {α β : Type} (x : Xc) (e : En) (f : α → R β) : (R.ex x e : R α).bind f = .ex x e := rfl
@[simp] theorem R.of_some {α : Type} (a : α) : R.of (some a) = .ok a := rfl
@[simp] theorem R.of_none {α : Type} : R.of (none : Option α) = .bad := rfl
@[simp] theorem cont_dat (e : En) (d : D) : cont e (.dat d) = some d := rfl
@[simp] theorem cont_frs (e : En) (d : D) : cont e (.frs d) = some d := rfl
@[simp] theorem cont_cel (e : En) (i : Nat) : cont e (.cel i) = FR.ownOf e[i]? := rfl
@[simp] theorem ownOf_own (d : D) : FR.ownOf (some (.own d)) = some d := rfl
@[simp] theorem stab_dat (d : D) : stab (.dat d) = some d := rfl
@[simp] theorem stab_frs (d : D) : stab (.frs d) = some d := rfl
@[simp] theorem R.nx_ok {α : Type} (a : α) : (R.ok a).nx = .ok a := rfl
section
variable {Γ : Nat → Fn} {kq : Nat → Kq} {ro : Bool} {env : En}
/-! statements -/
def kSeq (g : En → R (Fk × En)) : Fk × En → R (Fk × En)
  | (.nx, e) => g e
  | (k, e) => .ok (k, e)
@[simp] theorem kSeq_nx (g : En → R (Fk × En)) (e : En) : kSeq g (.nx, e) = g e := rfl
@[simp] theorem kSeq_rt (g : En → R (Fk × En)) (e : En) (l : Ld) : kSeq g (.rt l, e) = .ok (.rt l, e) := rfl
@[simp] theorem kSeq_bk (g : En → R (Fk × En)) (e : En) : kSeq g (.bk, e) = .ok (.bk, e) := rfl
@[simp] theorem kSeq_ct (g : En → R (Fk × En)) (e : En) : kSeq g (.ct, e) = .ok (.ct, e) := rfl
@[simp] theorem q_nil : semS Γ kq ro .nil env = .ok (.nx, env) := rfl
@[simp] theorem q_cons {a r : S} : semS Γ kq ro (.cons a r) env = (semS Γ kq ro a env).bind (kSeq (semS Γ kq ro r)) := by
  show seqS _ _ env = _
  unfold seqS
  congr 1
  funext ⟨k, e⟩
  cases k <;> rfl
@[simp] theorem q_pass : semS Γ kq ro .pass env = .ok (.nx, env) := rfl
@[simp] theorem q_brk : semS Γ kq ro .brk env = .ok (.bk, env) := rfl
@[simp] theorem q_cnt : semS Γ kq ro .cnt env = .ok (.ct, env) := rfl
@[simp] theorem q_retN : semS Γ kq ro .retN env = .ok (.rt (.dat .non), env) := rfl
def kEx : Ld × En → R (Fk × En) := fun (_, e) => .ok (.nx, e)
@[simp] theorem kEx_eq (l : Ld) (e : En) : kEx (l, e) = .ok (.nx, e) := rfl
@[simp] theorem q_ex {e : E} : semS Γ kq ro (.ex e) env = ((sem Γ kq e).v env).bind kEx := rfl
def kRet : Ld × En → R (Fk × En) := fun (l, e) => match stab l with
  | some d => .ok (.rt (.dat d), e)
  | none => .bad
def kRetO : Ld × En → R (Fk × En) := fun (l, e) => match l with
  | .frs d => .ok (.rt (.frs d), e)
  | _ => .bad
@[simp] theorem kRet_dat (d : D) (e : En) : kRet (.dat d, e) = .ok (.rt (.dat d), e) := rfl
@[simp] theorem kRet_frs (d : D) (e : En) : kRet (.frs d, e) = .ok (.rt (.dat d), e) := rfl
@[simp] theorem kRetO_frs (d : D) (e : En) : kRetO (.frs d, e) = .ok (.rt (.frs d), e) := rfl
@[simp] theorem q_ret {e : E} : semS Γ kq false (.ret e) env = ((sem Γ kq e).v env).bind kRet := rfl
@[simp] theorem q_retO {e : E} : semS Γ kq true (.ret e) env = ((sem Γ kq e).v env).bind kRetO := rfl
def kIf {α : Type} (g k : En → R α) : Bool × En → R α := fun (b, e) => if b then g e else k e
@[simp] theorem kIf_t {α : Type} (g k : En → R α) (e : En) : kIf g k (true, e) = g e := rfl
@[simp] theorem kIf_f {α : Type} (g k : En → R α) (e : En) : kIf g k (false, e) = k e := rfl
@[simp] theorem q_iff {c : E} {a b : S} : semS Γ kq ro (.iff c a b) env = ((sem Γ kq c).t env).bind (kIf (semS Γ kq ro a) (semS Γ kq ro b)) := rfl
def kAsg (t : T) : Ld × En → R (Fk × En) := fun (l, e) => match stab l with
  | some d => (match asg t [d] e with
    | some e' => .ok (.nx, e')
    | none => .bad)
  | none => .bad
@[simp] theorem kAsg_eq (t : T) (l : Ld) (e : En) : kAsg t (l, e) = match stab l with
  | some d => (match asg t [d] e with
    | some e' => .ok (.nx, e')
    | none => .bad)
  | none => .bad := rfl
@[simp] theorem q_asg {t : T} {e : E} : semS Γ kq ro (.asg t e) env = ((sem Γ kq e).v env).bind (kAsg t) := rfl
def kSet (i : Nat) : Ld × En → R (Fk × En) := fun (l, e) => if i < e.length then (match stab l with
    | some d => .ok (.nx, e.set i (.val d))
    | none => .bad) else .bad
def kSetO (i : Nat) : Ld × En → R (Fk × En) := fun (l, e) => if i < e.length then (match l with
    | .frs d => .ok (.nx, e.set i (.own d))
    | _ => .bad) else .bad
@[simp] theorem kSet_dat (i : Nat) (d : D) (e : En) : kSet i (.dat d, e) = if i < e.length then .ok (.nx, e.set i (.val d)) else .bad := rfl
@[simp] theorem kSet_frs (i : Nat) (d : D) (e : En) : kSet i (.frs d, e) = if i < e.length then .ok (.nx, e.set i (.val d)) else .bad := rfl
@[simp] theorem kSetO_frs (i : Nat) (d : D) (e : En) : kSetO i (.frs d, e) = if i < e.length then .ok (.nx, e.set i (.own d)) else .bad := rfl
@[simp] theorem q_set {i : Nat} {e : E} : semS Γ kq ro (.set false i e) env = ((sem Γ kq e).v env).bind (kSet i) := rfl
@[simp] theorem q_setO {i : Nat} {e : E} : semS Γ kq ro (.set true i e) env = ((sem Γ kq e).v env).bind (kSetO i) := rfl
def kPar (ts : List (Bool × Nat)) : List Ld × En → R (Fk × En) := fun (ls, e) => match putL e ts ls with
  | some e' => .ok (.nx, e')
  | none => .bad
@[simp] theorem kPar_eq (ts : List (Bool × Nat)) (ls : List Ld) (e : En) : kPar ts (ls, e) = match putL e ts ls with
  | some e' => .ok (.nx, e')
  | none => .bad := rfl
@[simp] theorem q_par {ts : List (Bool × Nat)} {a : E} : semS Γ kq ro (.par ts a) env = ((sem Γ kq a).a env).bind (kPar ts) := rfl
def kFor (t : T) (b : En → R (Fk × En)) : List D × En → R (Fk × En) := fun (ds, e) => forL t b ds e
@[simp] theorem kFor_eq (t : T) (b : En → R (Fk × En)) (ds : List D) (e : En) : kFor t b (ds, e) = forL t b ds e := rfl
@[simp] theorem q_loop {t : T} {it : E} {b : S} : semS Γ kq ro (.loop t it b) env = ((sem Γ kq it).i env).bind (kFor t (semS Γ kq ro b)) := rfl
theorem q_whl {c : E} {b : S} : semS Γ kq ro (.whl c b) env = whS (sem Γ kq c).t (semS Γ kq ro b) env := rfl
def kSti (i : Nat) (fk : En → R (Ld × En)) : Ld × En → R (Fk × En) := fun (l, e) => match stab l, e[i]? with
  | some d, some (.own (.lst _)) => (fk e).bind fun (k, e2) => (match k, e2[i]? with
    | .dat (.int n), some (.own (.lst ds)) => (match ixN ds.length n with
      | some j => .ok (.nx, e2.set i (.own (.lst (ds.set j d))))
      | none => .bad)
    | _, _ => .bad)
  | _, _ => .bad
@[simp] theorem kSti_eq (i : Nat) (fk : En → R (Ld × En)) (l : Ld) (e : En) : kSti i fk (l, e) = match stab l, e[i]? with
  | some d, some (.own (.lst _)) => (fk e).bind fun (k, e2) => (match k, e2[i]? with
    | .dat (.int n), some (.own (.lst ds)) => (match ixN ds.length n with
      | some j => .ok (.nx, e2.set i (.own (.lst (ds.set j d))))
      | none => .bad)
    | _, _ => .bad)
  | _, _ => .bad := rfl
@[simp] theorem q_sti {i : Nat} {k a : E} : semS Γ kq ro (.sti i k a) env = ((sem Γ kq a).v env).bind (kSti i (sem Γ kq k).v) := rfl
/-! expressions -/
@[simp] theorem v_var {i : Nat} : (sem Γ kq (.var i)).v env = varS i env := rfl
@[simp] theorem varS_val {i : Nat} {d : D} (h : env[i]? = some (.val d)) : varS i env = .ok (.dat d, env) := by unfold varS; rw [h]
@[simp] theorem varS_own {i : Nat} {d : D} (h : env[i]? = some (.own d)) : varS i env = .ok (.cel i, env) := by unfold varS; rw [h]
@[simp] theorem v_fz {i : Nat} : (sem Γ kq (.fz i)).v env = fzS i env := rfl
@[simp] theorem fzS_own {i : Nat} {d : D} (h : env[i]? = some (.own d)) : fzS i env = .ok (.dat d, env.set i (.val d)) := by unfold fzS; rw [h]
@[simp] theorem v_mv {i : Nat} : (sem Γ kq (.mv i)).v env = mvS i env := rfl
@[simp] theorem mvS_own {i : Nat} {d : D} (h : env[i]? = some (.own d)) : mvS i env = .ok (.frs d, env.set i .un) := by unfold mvS; rw [h]
@[simp] theorem v_cI {i : Int} : (sem Γ kq (.cI i)).v env = .ok (.dat (.int i), env) := rfl
@[simp] theorem v_cB {i : Bool} : (sem Γ kq (.cB i)).v env = .ok (.dat (.bl i), env) := rfl
@[simp] theorem v_cN : (sem Γ kq .cN).v env = .ok (.dat .non, env) := rfl
@[simp] theorem v_cS {i : Str} : (sem Γ kq (.cS i)).v env = .ok (.dat (.str i), env) := rfl
@[simp] theorem v_gl {d : D} : (sem Γ kq (.gl d)).v env = .ok (.dat d, env) := rfl
def kM1 (g : D → Option Ld) : Ld × En → R (Ld × En) := fun (l, e) => match cont e l with
  | some d => R.of ((g d).map (·, e))
  | none => .bad
@[simp] theorem kM1_eq (g : D → Option Ld) (l : Ld) (e : En) : kM1 g (l, e) = match cont e l with
  | some d => R.of ((g d).map (·, e))
  | none => .bad := rfl
def kM2b (o : D → D → Option Ld) (l : Ld) : Ld × En → R (Ld × En) := fun (r, e2) => match cont e2 l, cont e2 r with
  | some x, some y => R.of ((o x y).map (·, e2))
  | _, _ => .bad
def kM2 (g : En → R (Ld × En)) (o : D → D → Option Ld) : Ld × En → R (Ld × En) := fun (l, e) => (g e).bind (kM2b o l)
@[simp] theorem kM2_eq (g : En → R (Ld × En)) (o : D → D → Option Ld) (l : Ld) (e : En) : kM2 g o (l, e) = (g e).bind (kM2b o l) := rfl
@[simp] theorem kM2b_eq (o : D → D → Option Ld) (l r : Ld) (e : En) : kM2b o l (r, e) = match cont e l, cont e r with
  | some x, some y => R.of ((o x y).map (·, e))
  | _, _ => .bad := rfl
@[simp] theorem v_bin {o : Bop} {a b : E} : (sem Γ kq (.bin o a b)).v env = ((sem Γ kq a).v env).bind (kM2 (sem Γ kq b).v o.run) := rfl
@[simp] theorem v_cmp {o : Cop} {a b : E} : (sem Γ kq (.cmp o a b)).v env = ((sem Γ kq a).v env).bind (kM2 (sem Γ kq b).v o.run) := rfl
@[simp] theorem v_ix {a b : E} : (sem Γ kq (.ix a b)).v env = ((sem Γ kq a).v env).bind (kM2 (sem Γ kq b).v ixD) := rfl
@[simp] theorem v_neg {a : E} : (sem Γ kq (.neg a)).v env = ((sem Γ kq a).v env).bind (kM1 fun | .int i => one (.int (-i)) | _ => none) := rfl
@[simp] theorem v_isi {a : E} {ts : List String} : (sem Γ kq (.isi a ts)).v env = ((sem Γ kq a).v env).bind (kM1 (isiD ts)) := rfl
@[simp] theorem v_setof {a : E} : (sem Γ kq (.setof a)).v env = ((sem Γ kq a).v env).bind (kM1 setofS) := rfl
@[simp] theorem v_one {a : E} : (sem Γ kq (.one a)).v env = (sem Γ kq a).v env := rfl
@[simp] theorem v_ite {c a b : E} : (sem Γ kq (.ite c a b)).v env = ((sem Γ kq c).t env).bind (kIf (sem Γ kq a).v (sem Γ kq b).v) := rfl
def kTup : List Ld × En → R (Ld × En) := fun (ls, e) => match stabs ls with
  | some ds => if ds.length ≤ sizeLine then .ok (.dat (.tup ds), e) else .bad
  | none => .bad
def kLst : List Ld × En → R (Ld × En) := fun (ls, e) => match stabs ls with
  | some ds => if ds.length ≤ sizeLine then .ok (.frs (.lst ds), e) else .bad
  | none => .bad
@[simp] theorem kTup_eq (ls : List Ld) (e : En) : kTup (ls, e) = match stabs ls with
  | some ds => if ds.length ≤ sizeLine then .ok (.dat (.tup ds), e) else .bad
  | none => .bad := rfl
@[simp] theorem kLst_eq (ls : List Ld) (e : En) : kLst (ls, e) = match stabs ls with
  | some ds => if ds.length ≤ sizeLine then .ok (.frs (.lst ds), e) else .bad
  | none => .bad := rfl
@[simp] theorem v_tup {a : E} : (sem Γ kq (.tup a)).v env = ((sem Γ kq a).a env).bind kTup := rfl
@[simp] theorem v_lst {a : E} : (sem Γ kq (.lst a)).v env = ((sem Γ kq a).a env).bind kLst := rfl
def kMa (g : List D → Option Ld) : List Ld × En → R (Ld × En) := fun (ls, e) => match conts e ls with
  | some ds => R.of ((g ds).map (·, e))
  | none => .bad
@[simp] theorem kMa_eq (g : List D → Option Ld) (ls : List Ld) (e : En) : kMa g (ls, e) = match conts e ls with
  | some ds => R.of ((g ds).map (·, e))
  | none => .bad := rfl
@[simp] theorem v_bf {f : Bf} {a : E} : (sem Γ kq (.bf f a)).v env = ((sem Γ kq a).a env).bind (kMa f.run) := rfl
def kConsB (l : Ld) : List Ld × En → R (List Ld × En) := fun (ls, e2) => match cont e2 l with
  | some _ => .ok (l :: ls, e2)
  | none => .bad
def kCons (fs : En → R (List Ld × En)) : Ld × En → R (List Ld × En) := fun (l, e) => (fs e).bind (kConsB l)
@[simp] theorem kCons_eq (fs : En → R (List Ld × En)) (l : Ld) (e : En) : kCons fs (l, e) = (fs e).bind (kConsB l) := rfl
@[simp] theorem kConsB_eq (l : Ld) (ls : List Ld) (e : En) : kConsB l (ls, e) = match cont e l with
  | some _ => .ok (l :: ls, e)
  | none => .bad := rfl
@[simp] theorem a_nil : (sem Γ kq .nil).a env = .ok ([], env) := rfl
@[simp] theorem t_nil : (sem Γ kq .nil).t env = .ok (true, env) := rfl
@[simp] theorem a_cons {a r : E} : (sem Γ kq (.cons a r)).a env = ((sem Γ kq a).v env).bind (kCons (sem Γ kq r).a) := rfl
def kStar (fs : En → R (List Ld × En)) : Ld × En → R (List Ld × En) := fun (l, e) => match stab l with
  | some d => (match itemsD d with
    | some ds => (fs e).bind fun (ls, e2) => .ok (ds.map .dat ++ ls, e2)
    | none => .bad)
  | none => .bad
@[simp] theorem kStar_eq (fs : En → R (List Ld × En)) (l : Ld) (e : En) : kStar fs (l, e) = match stab l with
  | some d => (match itemsD d with
    | some ds => (fs e).bind fun (ls, e2) => .ok (ds.map .dat ++ ls, e2)
    | none => .bad)
  | none => .bad := rfl
theorem a_star {a r : E} : (sem Γ kq (.star a r)).a env = ((sem Γ kq a).v env).bind (kStar (sem Γ kq r).a) := by
  show starA _ _ env = _
  unfold starA
  congr 1
/-! tests -/
def kTr : Ld × En → R (Bool × En) := fun (l, e) => match cont e l with
  | some d => R.of ((tru d).map (·, e))
  | none => .bad
@[simp] theorem kTr_eq (l : Ld) (e : En) : kTr (l, e) = match cont e l with
  | some d => R.of ((tru d).map (·, e))
  | none => .bad := rfl
@[simp] theorem t_var {i : Nat} : (sem Γ kq (.var i)).t env = (varS i env).bind kTr := rfl
@[simp] theorem t_cmp {o : Cop} {a b : E} : (sem Γ kq (.cmp o a b)).t env = ((sem Γ kq (.cmp o a b)).v env).bind kTr := rfl
@[simp] theorem t_isi {a : E} {ts : List String} : (sem Γ kq (.isi a ts)).t env = ((sem Γ kq (.isi a ts)).v env).bind kTr := rfl
@[simp] theorem t_bf {f : Bf} {a : E} : (sem Γ kq (.bf f a)).t env = ((sem Γ kq (.bf f a)).v env).bind kTr := rfl
@[simp] theorem t_ix {a b : E} : (sem Γ kq (.ix a b)).t env = ((sem Γ kq (.ix a b)).v env).bind kTr := rfl
@[simp] theorem t_one {a : E} : (sem Γ kq (.one a)).t env = (sem Γ kq a).t env := rfl
def kNot : Bool × En → R (Bool × En) := fun (k, e) => .ok (!k, e)
@[simp] theorem kNot_eq (k : Bool) (e : En) : kNot (k, e) = .ok (!k, e) := rfl
@[simp] theorem t_not {a : E} : (sem Γ kq (.not a)).t env = ((sem Γ kq a).t env).bind kNot := rfl
def kAnd (g : En → R (Bool × En)) : Bool × En → R (Bool × En) := fun (k, e) => if k then g e else .ok (false, e)
def kOr (g : En → R (Bool × En)) : Bool × En → R (Bool × En) := fun (k, e) => if k then .ok (true, e) else g e
@[simp] theorem kAnd_eq (g : En → R (Bool × En)) (k : Bool) (e : En) : kAnd g (k, e) = if k then g e else .ok (false, e) := rfl
@[simp] theorem kOr_eq (g : En → R (Bool × En)) (k : Bool) (e : En) : kOr g (k, e) = if k then .ok (true, e) else g e := rfl
@[simp] theorem t_and {a b : E} : (sem Γ kq (.and a b)).t env = ((sem Γ kq a).t env).bind (kAnd (sem Γ kq b).t) := rfl
@[simp] theorem t_or {a b : E} : (sem Γ kq (.or a b)).t env = ((sem Γ kq a).t env).bind (kOr (sem Γ kq b).t) := rfl
def kAndV (fb : En → R (Ld × En)) : Ld × En → R (Ld × En) := fun (l, e) => match (cont e l).bind tru with
  | some true => fb e
  | some false => .ok (l, e)
  | none => .bad
@[simp] theorem kAndV_eq (fb : En → R (Ld × En)) (l : Ld) (e : En) : kAndV fb (l, e) = match (cont e l).bind tru with
  | some true => fb e
  | some false => .ok (l, e)
  | none => .bad := rfl
def kOrV (fb : En → R (Ld × En)) : Ld × En → R (Ld × En) := fun (l, e) => match (cont e l).bind tru with
  | some true => .ok (l, e)
  | some false => fb e
  | none => .bad
@[simp] theorem kOrV_eq (fb : En → R (Ld × En)) (l : Ld) (e : En) : kOrV fb (l, e) = match (cont e l).bind tru with
  | some true => .ok (l, e)
  | some false => fb e
  | none => .bad := rfl
@[simp] theorem v_and {a b : E} : (sem Γ kq (.and a b)).v env = ((sem Γ kq a).v env).bind (kAndV (sem Γ kq b).v) := rfl
@[simp] theorem v_or {a b : E} : (sem Γ kq (.or a b)).v env = ((sem Γ kq a).v env).bind (kOrV (sem Γ kq b).v) := rfl
@[simp] theorem v_not {a : E} : (sem Γ kq (.not a)).v env = ((sem Γ kq a).v env).bind (kM1 fun d => (tru d).map fun k => .dat (.bl !k)) := rfl
/-! slices -/
def kPart : Ld × En → R (Option Int × En) := fun (l, e) => match l with
  | .dat (.int i) => .ok (some i, e)
  | _ => .bad
@[simp] theorem kPart_eq (i : Int) (e : En) : kPart (.dat (.int i), e) = .ok (some i, e) := rfl
@[simp] theorem part_t {f : En → R (Ld × En)} : part true f env = .ok (none, env) := rfl
@[simp] theorem part_f {f : En → R (Ld × En)} : part false f env = (f env).bind kPart := rfl
def kSlc (l : Ld) (x : Option Int) : Option Int × En → R (Ld × En) := fun (y, e3) => match cont e3 l with
  | some d => R.of ((sliD d x y).map (·, e3))
  | none => .bad
def kSlb (hi : En → R (Option Int × En)) (l : Ld) : Option Int × En → R (Ld × En) := fun (x, e2) => (hi e2).bind (kSlc l x)
def kSla (lo hi : En → R (Option Int × En)) : Ld × En → R (Ld × En) := fun (l, e) => (lo e).bind (kSlb hi l)
@[simp] theorem kSlc_eq (l : Ld) (x y : Option Int) (e : En) : kSlc l x (y, e) = match cont e l with
  | some d => R.of ((sliD d x y).map (·, e))
  | none => .bad := rfl
@[simp] theorem kSlb_eq (hi : En → R (Option Int × En)) (l : Ld) (x : Option Int) (e : En) : kSlb hi l (x, e) = (hi e).bind (kSlc l x) := rfl
@[simp] theorem kSla_eq (lo hi : En → R (Option Int × En)) (l : Ld) (e : En) : kSla lo hi (l, e) = (lo e).bind (kSlb hi l) := rfl
@[simp] theorem v_sli {a lo hi : E} : (sem Γ kq (.sli a lo hi)).v env = ((sem Γ kq a).v env).bind (kSla (part lo.isNil (sem Γ kq lo).v) (part hi.isNil (sem Γ kq hi).v)) := rfl
/-! calls -/
def kCall (F : Fn) : List Ld × En → R (Ld × En) := fun (ls, e) => doCall F ls e
@[simp] theorem kCall_eq (F : Fn) (ls : List Ld) (e : En) : kCall F (ls, e) = doCall F ls e := rfl
@[simp] theorem v_call {f : Nat} {a : E} : (sem Γ kq (.call f a)).v env = ((sem Γ kq a).a env).bind (kCall (Γ f)) := rfl
@[simp] theorem t_call {f : Nat} {a : E} : (sem Γ kq (.call f a)).t env = ((sem Γ kq (.call f a)).v env).bind kTr := rfl
def kCallk (F : Fn) (pm : List Nat) : List Ld × En → R (Ld × En) := fun (ls, e) => match permL pm ls with
    | some ks => doCall F ks e
    | none => .bad
@[simp] theorem kCallk_eq (F : Fn) (pm : List Nat) (ls : List Ld) (e : En) : kCallk F pm (ls, e) = match permL pm ls with
    | some ks => doCall F ks e
    | none => .bad := rfl
@[simp] theorem v_callk {f q : Nat} {a : E} : (sem Γ kq (.callk f q a)).v env = ((sem Γ kq a).a env).bind (kCallk (Γ f) (kq q).pm) := rfl
/-! what is walked -/
def kIt : Ld × En → R (List D × En) := fun (l, e) => match stab l with
    | some d => R.of ((itemsD d).map (·, e))
    | none => .bad
@[simp] theorem kIt_eq (l : Ld) (e : En) : kIt (l, e) = match stab l with
    | some d => R.of ((itemsD d).map (·, e))
    | none => .bad := rfl
@[simp] theorem i_var {i : Nat} : (sem Γ kq (.var i)).i env = (varS i env).bind kIt := rfl
@[simp] theorem i_fz {i : Nat} : (sem Γ kq (.fz i)).i env = (fzS i env).bind kIt := rfl
@[simp] theorem i_call {f : Nat} {a : E} : (sem Γ kq (.call f a)).i env = ((sem Γ kq (.call f a)).v env).bind kIt := rfl
@[simp] theorem i_sli {a lo hi : E} : (sem Γ kq (.sli a lo hi)).i env = ((sem Γ kq (.sli a lo hi)).v env).bind kIt := rfl
@[simp] theorem i_ix {a b : E} : (sem Γ kq (.ix a b)).i env = ((sem Γ kq (.ix a b)).v env).bind kIt := rfl
@[simp] theorem i_lst {a : E} : (sem Γ kq (.lst a)).i env = ((sem Γ kq (.lst a)).v env).bind kIt := rfl
@[simp] theorem i_tup {a : E} : (sem Γ kq (.tup a)).i env = ((sem Γ kq (.tup a)).v env).bind kIt := rfl
def kRng : Ld × En → R (List D × En) := fun (l, e) => match l with
    | .dat (.int j) => if -(2 ^ 62) ≤ j ∧ j < 2 ^ 62 then .ok (rangeD 0 j.toNat, e) else .bad
    | _ => .bad
@[simp] theorem kRng_eq {j : Int} {e : En} (h : 0 ≤ j) (h2 : j < 1099511627776) : kRng (.dat (.int j), e) = .ok (rangeD 0 j.toNat, e) := by
  unfold kRng
  simp only
  rw [if_pos (by omega)]
@[simp] theorem i_iR {a : E} : (sem Γ kq (.iR a)).i env = ((sem Γ kq a).v env).bind kRng := rfl
@[simp] theorem i_iEn {a : E} : (sem Γ kq (.iEn a)).i env = enuS (sem Γ kq a).v env := rfl
@[simp] theorem i_iZ {a b : E} : (sem Γ kq (.iZ a b)).i env = zipS (sem Γ kq a).v (sem Γ kq b).v env := rfl
/-! comprehensions -/
def nxF {α : Type} (f : En → R α) : En → R α := fun e => (f e).nx
theorem nxF_eq {α : Type} (f : En → R α) (e : En) : nxF f e = (f e).nx := rfl
def kLcE (e : En) (own : List Nat) : List D × En → R (Ld × En) := fun (ys, e2) => .ok (.frs (.lst ys), unwipe e e2 own)
@[simp] theorem kLcE_eq (e : En) (own : List Nat) (ys : List D) (e2 : En) : kLcE e own (ys, e2) = .ok (.frs (.lst ys), unwipe e e2 own) := rfl
def kLc (own : List Nat) (t : T) (c : En → R (Bool × En)) (f : En → R (Ld × En)) : List D × En → R (Ld × En) := fun (ds, e) =>
  if ds.length ≤ sizeLine ∧ t.slots.all (fun i => own.contains i) = true ∧ own.all (fun i => isUn (e.getD i .un)) = true then
    (lcLoop own t (nxF c) (nxF f) ds [] (wipeE e own)).bind (kLcE e own)
  else .bad
@[simp] theorem kLc_eq (own : List Nat) (t : T) (c : En → R (Bool × En)) (f : En → R (Ld × En)) (ds : List D) (e : En) : kLc own t c f (ds, e) =
  if ds.length ≤ sizeLine ∧ t.slots.all (fun i => own.contains i) = true ∧ own.all (fun i => isUn (e.getD i .un)) = true then
    (lcLoop own t (nxF c) (nxF f) ds [] (wipeE e own)).bind (kLcE e own)
  else .bad := rfl
@[simp] theorem v_lc {own : List Nat} {t : T} {it c f : E} : (sem Γ kq (.lc own t it c f)).v env = ((sem Γ kq it).i env).bind (kLc own t (sem Γ kq c).t (sem Γ kq f).v) := rfl
@[simp] theorem v_app {i : Nat} {a : E} : (sem Γ kq (.app i a)).v env = appS i (sem Γ kq a).v env := rfl
end
theorem lcLoop_cg {own : List Nat} {t : T} {c : En → R (Bool × En)} {f : En → R (Ld × En)} {ds ds' acc acc' : List D} {e e' : En} (h1 : ds = ds') (h2 : acc = acc') (h3 : e = e') : lcLoop own t c f ds acc e = lcLoop own t c f ds' acc' e' := by rw [h1, h2, h3]
theorem forL_cg {t : T} {b : En → R (Fk × En)} {ds ds' : List D} {e e' : En} (h1 : ds = ds') (h3 : e = e') : forL t b ds e = forL t b ds' e' := by rw [h1, h3]
@[simp] theorem slots_nm (i : Nat) : (T.nm i).slots = [i] := rfl
@[simp] theorem slots_tp (t : T) : (T.tp t).slots = t.slots := rfl
@[simp] theorem slots_nil : T.nil.slots = [] := rfl
@[simp] theorem slots_cons (a b : T) : (T.cons a b).slots = a.slots ++ b.slots := rfl
@[simp] theorem isUn_un : isUn .un = true := rfl
@[simp] theorem isUn_val (d : D) : isUn (.val d) = true := rfl
@[simp] theorem isUn_own (d : D) : isUn (.own d) = false := rfl
@[simp] theorem endF_rt (md : List Bool) (d : D) (e : En) : endF md false (.ok (.rt (.dat d), e)) = match outsF e 0 md with
    | some os => .ok d os
    | none => .bad := rfl
@[simp] theorem endF_rtO (md : List Bool) (d : D) (e : En) : endF md true (.ok (.rt (.frs d), e)) = match outsF e 0 md with
    | some os => .ok d os
    | none => .bad := rfl
@[simp] theorem endF_nx (md : List Bool) (e : En) : endF md false (.ok (.nx, e)) = match outsF e 0 md with
    | some os => .ok .non os
    | none => .bad := rfl
@[simp] theorem outsF_nil (e : En) (i : Nat) : outsF e i [] = some [] := rfl
@[simp] theorem outsF_f (e : En) (i : Nat) (m : List Bool) : outsF e i (false :: m) = outsF e (i + 1) m := rfl
@[simp] theorem outsF_t (e : En) (i : Nat) (m : List Bool) : outsF e i (true :: m) = match e[i]? with
    | some (.own d) => (outsF e (i + 1) m).map (d :: ·)
    | _ => none := rfl
@[simp] theorem conts_nil (e : En) : conts e [] = some [] := rfl
@[simp] theorem conts_cons (e : En) (l : Ld) (ls : List Ld) : conts e (l :: ls) = (cont e l).bind fun d => (conts e ls).map (d :: ·) := rfl
@[simp] theorem stabs_nil : stabs [] = some [] := rfl
@[simp] theorem stabs_cons (l : Ld) (ls : List Ld) : stabs (l :: ls) = (stab l).bind fun d => (stabs ls).map (d :: ·) := rfl
@[simp] theorem tru_bl (b : Bool) : tru (.bl b) = some b := rfl
@[simp] theorem tru_int (i : Int) : tru (.int i) = some (i != 0) := rfl
@[simp] theorem tru_non : tru .non = some false := rfl
@[simp] theorem tru_lst (ds : List D) : tru (.lst ds) = some !ds.isEmpty := rfl
@[simp] theorem tru_tup (ds : List D) : tru (.tup ds) = some !ds.isEmpty := rfl
@[simp] theorem itemsD_lst (ds : List D) : itemsD (.lst ds) = some ds := rfl
@[simp] theorem itemsD_tup (ds : List D) : itemsD (.tup ds) = some ds := rfl
/-- a call that ends well -/
theorem call_eq {F : Fn} {ls : List Ld} {e e' : En} {ds os : List D} {d : D} {md : List Bool} {ro : Bool} (hm : F.md = md) (hr : F.ro = ro) (h1 : argsD e md ls = some ds) (h2 : (cels md ls).Nodup) (h3 : F.run ds = .ok d os) (h4 : setOuts e md ls os = some e') :
    doCall F ls e = .ok (if ro then .frs d else .dat d, e') := by
  unfold doCall
  rw [hm, h1]
  simp only
  rw [if_pos h2, h3]
  simp only [h4, hr]
  rfl
@[simp] theorem asg_nm (i : Nat) (d : D) (e : En) : asg (.nm i) [d] e = if i < e.length then some (e.set i (.val d)) else none := rfl
@[simp] theorem asg_tp (t : T) (ds : List D) (e : En) : asg (.tp t) [.tup ds] e = asg t ds e := rfl
@[simp] theorem asg_nil (e : En) : asg .nil [] e = some e := rfl
@[simp] theorem asg_cons (a b : T) (d : D) (ds : List D) (e : En) : asg (.cons a b) (d :: ds) e = (asg a [d] e).bind (asg b ds) := rfl
@[simp] theorem putL_nil (e : En) : putL e [] [] = some e := rfl
@[simp] theorem putL_v (e : En) (i : Nat) (ts : List (Bool × Nat)) (l : Ld) (ls : List Ld) : putL e ((false, i) :: ts) (l :: ls) = if i < e.length then (match stab l with
      | some d => putL (e.set i (.val d)) ts ls
      | none => none) else none := rfl
@[simp] theorem putL_o (e : En) (i : Nat) (ts : List (Bool × Nat)) (d : D) (ls : List Ld) : putL e ((true, i) :: ts) (.frs d :: ls) = if i < e.length then putL (e.set i (.own d)) ts ls else none := rfl
@[simp] theorem argsD_nil (e : En) : argsD e [] [] = some [] := rfl
@[simp] theorem argsD_f (e : En) (ms : List Bool) (l : Ld) (ls : List Ld) : argsD e (false :: ms) (l :: ls) = (stab l).bind fun d => (argsD e ms ls).map (d :: ·) := rfl
@[simp] theorem argsD_tc (e : En) (ms : List Bool) (i : Nat) (ls : List Ld) : argsD e (true :: ms) (.cel i :: ls) = (cont e (.cel i)).bind fun d => (argsD e ms ls).map (d :: ·) := rfl
@[simp] theorem argsD_tf (e : En) (ms : List Bool) (d : D) (ls : List Ld) : argsD e (true :: ms) (.frs d :: ls) = (argsD e ms ls).map (d :: ·) := rfl
@[simp] theorem cels_nil : cels [] [] = [] := rfl
@[simp] theorem cels_f (ms : List Bool) (l : Ld) (ls : List Ld) : cels (false :: ms) (l :: ls) = cels ms ls := by cases l <;> rfl
@[simp] theorem cels_tc (ms : List Bool) (i : Nat) (ls : List Ld) : cels (true :: ms) (.cel i :: ls) = i :: cels ms ls := rfl
@[simp] theorem cels_tf (ms : List Bool) (d : D) (ls : List Ld) : cels (true :: ms) (.frs d :: ls) = cels ms ls := rfl
@[simp] theorem setOuts_nil (e : En) : setOuts e [] [] [] = some e := rfl
@[simp] theorem setOuts_tc (e : En) (ms : List Bool) (i : Nat) (ls : List Ld) (d : D) (ds : List D) : setOuts e (true :: ms) (.cel i :: ls) (d :: ds) = setOuts (e.set i (.own d)) ms ls ds := rfl
@[simp] theorem setOuts_tf (e : En) (ms : List Bool) (x : D) (ls : List Ld) (d : D) (ds : List D) : setOuts e (true :: ms) (.frs x :: ls) (d :: ds) = setOuts e ms ls ds := rfl
@[simp] theorem setOuts_f (e : En) (ms : List Bool) (l : Ld) (ls : List Ld) (ds : List D) : setOuts e (false :: ms) (l :: ls) ds = setOuts e ms ls ds := by cases l <;> rfl
@[simp] theorem doCall_eq {F : Fn} {ls : List Ld} {e : En} : doCall F ls e = match argsD e F.md ls with
  | none => .bad
  | some ds => if (cels F.md ls).Nodup then (match F.run ds with
    | .ok d outs => R.of ((setOuts e F.md ls outs).map fun e => (if F.ro then .frs d else .dat d, e))
    | .ex x outs => match setOuts e F.md ls outs with
      | some e => .ex x e
      | none => .bad
    | .bad => .bad) else .bad := rfl
@[simp] theorem Gam_md {T : Nat → Df} {kq : Nat → Kq} (n f : Nat) : (Gam T kq n f).md = (T f).md := by
  cases n
  · rw [Gam_zero]; rfl
  · rw [Gam_succ]; rfl
@[simp] theorem Gam_ro {T : Nat → Df} {kq : Nat → Kq} (n f : Nat) : (Gam T kq n f).ro = (T f).ro := by
  cases n
  · rw [Gam_zero]; rfl
  · rw [Gam_succ]; rfl
theorem Gam_run {T : Nat → Df} {kq : Nat → Kq} {f : Nat} {t : Df} (n : Nat) (h : T f = t) (ds : List D) : (Gam T kq (n + 1) f).run ds = (t.fn (Gam T kq n) kq).run ds := by rw [← h, Gam_succ]
end FR
set_option Elab.async false
set_option linter.all false
set_option autoImplicit false
set_option maxRecDepth 100000
set_option maxHeartbeats 0
/-! FRu: loops and comprehensions by what holds between the turns; the helpers that all laws have -/
namespace FR
open PySem PySem.Spec PyProof.Rows L2
/-- it ends well, and so -/
def Ok {α : Type} (r : R α) (P : α → Prop) : Prop := ∃ a, r = .ok a ∧ P a
theorem Ok.bind {α β : Type} {x : R α} {f : α → R β} {P : α → Prop} {Q : β → Prop} (h : Ok x P) (k : ∀ a, P a → Ok (f a) Q) : Ok (x.bind f) Q := by
  obtain ⟨a, rfl, p⟩ := h
  exact k a p
theorem Ok.imp {α : Type} {x : R α} {P Q : α → Prop} (h : Ok x P) (k : ∀ a, P a → Q a) : Ok x Q := by
  obtain ⟨a, e, p⟩ := h
  exact ⟨a, e, k a p⟩
@[simp] theorem Ok_ok {α : Type} (a : α) (P : α → Prop) : Ok (.ok a) P ↔ P a := ⟨fun ⟨_, e, p⟩ => by cases e; exact p, fun p => ⟨a, rfl, p⟩⟩
def turnP (I : En → Prop) (Q : Fk × En → Prop) : Fk × En → Prop
  | (.nx, e) => I e
  | (.ct, e) => I e
  | (.bk, e) => Q (.nx, e)
  | (.rt l, e) => Q (.rt l, e)
theorem forL_ok {t : T} {b : En → R (Fk × En)} {Q : Fk × En → Prop} : ∀ (ds : List D) (I : Nat → En → Prop) (env : En), I 0 env →
    (∀ i d env, ds[i]? = some d → I i env → ∃ e1, asg t [d] env = some e1 ∧ Ok (b e1) (turnP (I (i + 1)) Q)) → (∀ env, I ds.length env → Q (.nx, env)) → Ok (forL t b ds env) Q
  | [], I, env, h0, _, hd => ⟨_, rfl, hd env h0⟩
  | d :: ds, I, env, h0, hs, hd => by
    obtain ⟨e1, a1, ⟨⟨k, e2⟩, a2, a3⟩⟩ := hs 0 d env rfl h0
    rw [forL_cons, a1]
    simp only [a2, R.bind_ok]
    have ih : I 1 e2 → Ok (forL t b ds e2) Q := fun z => forL_ok ds (fun i => I (i + 1)) e2 z (fun i d env e z => hs (i + 1) d env (by simpa using e) z) hd
    cases k with
    | nx => exact ih a3
    | ct => exact ih a3
    | bk => exact ⟨_, rfl, a3⟩
    | rt l => exact ⟨_, rfl, a3⟩
theorem lcLoop_ok {own : List Nat} {t : T} {c : En → R (Bool × En)} {f : En → R (Ld × En)} : ∀ (ds acc : List D) (I : Nat → List D → En → Prop) (env : En), I 0 acc env →
    (∀ i d acc env, ds[i]? = some d → I i acc env → ∃ e1, asg t [d] env = some e1 ∧ Ok (c e1) fun p => if p.1 = true then Ok (f p.2) (fun q => ∃ y, stab q.1 = some y ∧ I (i + 1) (acc ++ [y]) (wipeE q.2 own)) else I (i + 1) acc (wipeE p.2 own)) →
    Ok (lcLoop own t c f ds acc env) fun p => I ds.length p.1 p.2
  | [], acc, I, env, h0, _ => ⟨_, rfl, h0⟩
  | d :: ds, acc, I, env, h0, hs => by
    obtain ⟨e1, a1, ⟨⟨k, e2⟩, a2, a3⟩⟩ := hs 0 d acc env rfl h0
    rw [lcLoop_cons, a1]
    simp only [a2, R.bind_ok]
    simp only at a3
    have ih : ∀ acc e, I 1 acc e → Ok (lcLoop own t c f ds acc e) fun p => I (ds.length + 1) p.1 p.2 := fun acc e z => lcLoop_ok ds acc (fun i => I (i + 1)) e z (fun i d acc env e z => hs (i + 1) d acc env (by simpa using e) z)
    cases k with
    | false =>
      simp only [Bool.false_eq_true, if_false] at a3 ⊢
      exact ih _ _ a3
    | true =>
      simp only [if_true] at a3 ⊢
      obtain ⟨⟨l, e3⟩, b1, y, b2, b3⟩ := a3
      simp only [b1, R.bind_ok, b2]
      exact ih _ _ b3
/-- a comprehension whose elements leave the slots as they were -/
theorem lc_eq {α : Type} {own : List Nat} {t : T} {c : En → R (Bool × En)} {f : En → R (Ld × En)} {b : En} (enc : α → D) (g : α → Option D) : ∀ (xs : List α) (acc : List D),
    (∀ x ∈ xs, ∃ e1, asg t [enc x] b = some e1 ∧ ((∃ e2 l e3 y, c e1 = .ok (true, e2) ∧ f e2 = .ok (l, e3) ∧ stab l = some y ∧ g x = some y ∧ wipeE e3 own = b) ∨ (∃ e2, c e1 = .ok (false, e2) ∧ g x = none ∧ wipeE e2 own = b))) →
    lcLoop own t c f (xs.map enc) acc b = .ok (acc ++ xs.filterMap g, b)
  | [], acc, _ => by simp [lcLoop]
  | d :: ds, acc, h => by
    obtain ⟨e1, h1, h2⟩ := h d List.mem_cons_self
    have ih := fun acc => lc_eq (own := own) (t := t) (c := c) (f := f) enc g ds acc fun d' hd => h d' (List.mem_cons_of_mem _ hd)
    rw [List.map_cons, lcLoop_cons, h1]
    rcases h2 with ⟨e2, l, e3, y, a1, a2, a3, a4, a5⟩ | ⟨e2, a1, a2, a3⟩
    · simp only [a1, R.bind_ok, if_true, a2, a3, a5]
      rw [ih, List.filterMap_cons, a4]
      simp
    · simp only [a1, R.bind_ok, Bool.false_eq_true, if_false, a3]
      rw [ih, List.filterMap_cons, a2]
theorem lc_of {Γ : Nat → Fn} {kq : Nat → Kq} {own : List Nat} {t : T} {it c f : E} {env e e2 : En} {ds ys : List D} (h1 : (sem Γ kq it).i env = .ok (ds, e)) (h2 : ds.length ≤ 1000000) (h3 : t.slots.all (fun i => own.contains i) = true) (h4 : own.all (fun i => isUn (e.getD i .un)) = true)
    (h5 : lcLoop own t (nxF (sem Γ kq c).t) (nxF (sem Γ kq f).v) ds [] (wipeE e own) = .ok (ys, e2)) : (sem Γ kq (.lc own t it c f)).v env = .ok (.frs (.lst ys), unwipe e e2 own) := by
  rw [v_lc, h1, R.bind_ok, kLc_eq, if_pos ⟨Nat.le_trans h2 (by decide), h3, h4⟩, h5, R.bind_ok, kLcE_eq]
theorem iR_of {Γ : Nat → Fn} {kq : Nat → Kq} {a : E} {env e : En} {j : Int} (h : (sem Γ kq a).v env = .ok (.dat (.int j), e)) (h0 : 0 ≤ j) (h2 : j < 1099511627776) : (sem Γ kq (.iR a)).i env = .ok (rangeD 0 j.toNat, e) := by
  rw [i_iR, h, R.bind_ok, kRng_eq h0 h2]
theorem rangeD_len (lo : Int) (n : Nat) : (rangeD lo n).length = n := by simp [rangeD]
/-! ### draws -/
def fTake : S := (.cons (.iff (.cmp .gt (.ix (.var 0) (.cI 0)) (.cI 0)) (.cons (.set false 5 (.bin .mod (.bf .int (.cons (.ix (.var 0) (.cI 0)) .nil)) (.var 1))) (.cons (.sti 0 (.cI 0) (.bin .fdiv (.ix (.var 0) (.cI 0)) (.var 1))) (.cons (.ret (.var 5)) .nil))) .nil) (.cons (.sti 0 (.cI 2) (.bin .add (.ix (.var 0) (.cI 2)) (.cI 1))) (.cons (.set false 2 (.bin .mod (.bf .int (.cons (.bin .mul (.bin .add (.ix (.var 0) (.cI 1)) (.bin .mul (.cI 48271) (.ix (.var 0) (.cI 2)))) (.bin .add (.cI 39373) (.ix (.var 0) (.cI 2)))) .nil)) (.cI 2147483647))) (.cons (.set false 3 (.bin .add (.bin .mod (.bf .int (.cons (.var 2) .nil)) (.cI 40009)) (.cI 7))) (.cons (.set false 4 (.bin .mod (.bf .int (.cons (.bin .mul (.bin .add (.bin .add (.var 2) (.ix (.var 0) (.cI 2))) (.bin .fdiv (.ix (.var 0) (.cI 1)) (.cI 1000003))) (.var 3)) .nil)) (.cI 2147483629))) (.cons (.ret (.bin .mod (.bf .int (.cons (.bin .fdiv (.bin .mod (.bf .int (.cons (.bin .add (.bin .mul (.var 4) (.cI 48271)) (.var 2)) .nil)) (.cI 2147483587)) (.cI 64)) .nil)) (.var 1))) .nil))))))
def tTake : Df := ⟨6, [true, false], false, fTake⟩
/-- the source of draws, behind so many draws at the most -/
def Urn (k : Nat) (u : D) : Prop := ∃ a b c : Int, u = .lst [.int a, .int b, .int c] ∧ 0 ≤ b ∧ b < 2 ^ 62 ∧ 0 ≤ c ∧ c ≤ k
theorem Urn.mono {k l : Nat} {u : D} (h : Urn k u) (e : k ≤ l) : Urn l u := by
  obtain ⟨a, b, c, h1, h2, h3, h4, h5⟩ := h
  exact ⟨a, b, c, h1, h2, h3, h4, by omega⟩
theorem cdiv_ok {a b : Int} (h : 0 < b) (h2 : b < 2 ^ 62) : CDivW a b := wide_div (b := 62) h (by omega) (by decide) (by decide)
theorem take_run {Γ : Nat → Fn} {kq : Nat → Kq} {k : Nat} {u : D} {low : Int} (hu : Urn k u) (hk : k ≤ 1000000) (h1 : 0 < low) (h2 : low < 2 ^ 62) :
    ∃ v u', (tTake.fn Γ kq).run [u, .int low] = .ok (.int v) [u'] ∧ 0 ≤ v ∧ v < low ∧ Urn (k + 1) u' := by
  obtain ⟨a, b, c, rfl, b1, b2, c1, c2⟩ := hu
  have e : (tTake.fn Γ kq).run [.lst [.int a, .int b, .int c], .int low] = endF [true, false] false (semS Γ kq false fTake [.own (.lst [.int a, .int b, .int c]), .val (.int low), .un, .un, .un, .un]) := rfl
  rw [e, fTake]
  by_cases ha : a > 0
  · have hd : CDivW a low := cdiv_ok h1 h2
    refine ⟨a % low, .lst [.int (a / low), .int b, .int c], ?_, Int.emod_nonneg _ (by omega), Int.emod_lt_of_pos _ h1, _, _, _, rfl, b1, b2, c1, by omega⟩
    simp [Bop.run, Cop.run, ixD, atI, ixN, tru, ha, endF, outsF, conts, Bf.run, FR.intD, modD, fdivD, h1, ltD, hd]
  · have m1 : CMul 48271 (c + 1) := .inl ⟨by decide, by decide⟩
    have m2 : CMul (b + 48271 * (c + 1)) (39373 + (c + 1)) := .inr ⟨by omega, by omega⟩
    generalize ho : (b + 48271 * (c + 1)) * (39373 + (c + 1)) % 2147483647 = once
    have f0 : 0 ≤ once % 40009 + 7 ∧ once % 40009 + 7 < 50000 := by omega
    generalize hf : once % 40009 + 7 = far at f0
    have m3 : CMul (once + (c + 1) + b / 1000003) far := .inr ⟨by omega, by omega⟩
    have m4 : ∀ x, CMul x 48271 := fun x => .inr ⟨by decide, by decide⟩
    have m5 : ∀ x, CDivW x 1000003 := fun x => cdiv_ok (by decide) (by decide)
    have m6 : ∀ x, CDivW x 64 := fun x => cdiv_ok (by decide) (by decide)
    refine ⟨(((once + (c + 1) + b / 1000003) * far % 2147483629 * 48271 + once) % 2147483587 / 64) % low, .lst [.int a, .int b, .int (c + 1)], ?_, Int.emod_nonneg _ (by omega), Int.emod_lt_of_pos _ h1, _, _, _, rfl, b1, b2, by omega, by omega⟩
    simp [Bop.run, Cop.run, ixD, atI, ixN, tru, ha, endF, outsF, conts, Bf.run, FR.intD, modD, fdivD, addD, mulD, h1, ltD, m1, m2, ho, hf, m3, m4, m5, m6]
/-! ### the cells of the script -/
def fCells : S := (.cons (.set true 2 (.or (.bf .list (.cons (.sli (.var 0) .nil (.var 1)) .nil)) (.one (.lst (.cons (.cI 0) .nil))))) (.cons (.loop (.tp (.cons (.nm 3) (.cons (.nm 4) .nil))) (.iEn (.sli (.var 0) (.var 1) (.cI 63))) (.cons (.set false 5 (.bin .mod (.bf .int (.cons (.var 3) .nil)) (.var 1))) (.cons (.sti 2 (.var 5) (.bin .add (.ix (.var 2) (.var 5)) (.bin .mul (.var 4) (.bin .add (.var 3) (.cI 2))))) .nil))) (.cons (.ret (.fz 2)) .nil)))
def tCells : Df := ⟨6, [false, false], false, fCells⟩
@[simp] theorem sizeLine_eq : sizeLine = 16777216 := by decide
theorem ixN_in {n : Nat} {i : Int} (h : 0 ≤ i) (h2 : i < n) : ixN n i = some i.toNat := by
  unfold ixN
  rw [if_pos h, if_pos h2]
theorem atI_in {α : Type} {xs : List α} {i : Int} {x : α} (h : 0 ≤ i) (h2 : xs[i.toNat]? = some x) : atI xs i = some x := by
  unfold atI
  rw [ixN_in h (by have := (List.getElem?_eq_some_iff.mp h2).1; omega)]
  exact h2
theorem sIx_some {n d : Nat} {v : Int} (h : 0 ≤ v) : HT.sIx n d (some v) = min v.toNat n := by
  show (if v < 0 then (v + (n : Int)).toNat else min v.toNat n) = _
  rw [if_neg (by omega)]
@[simp] theorem cutD_to {ds : List D} {v : Int} (h : 0 ≤ v) : cutD ds none (some v) = ds.take v.toNat := by
  unfold cutD
  rw [sIx_some h]
  show (ds.drop 0).take (min v.toNat ds.length - 0) = _
  rw [List.drop_zero, Nat.sub_zero, ← List.take_eq_take_min]
@[simp] theorem cutD_from {ds : List D} {v : Int} (h : 0 ≤ v) : cutD ds (some v) none = ds.drop v.toNat := by
  unfold cutD
  rw [sIx_some h]
  show (ds.drop (min v.toNat ds.length)).take (ds.length - min v.toNat ds.length) = _
  rw [← List.length_drop, List.take_length]
  by_cases q : v.toNat ≤ ds.length
  · rw [Nat.min_eq_left q]
  · rw [Nat.min_eq_right (by omega), List.drop_length, List.drop_eq_nil_of_le (by omega)]
@[simp] theorem cutD_all {ds : List D} : cutD ds none none = ds := by
  show (ds.drop 0).take (ds.length - 0) = _
  simp
@[simp] theorem cutD_ft {ds : List D} {v u : Int} (h : 0 ≤ v) (h2 : 0 ≤ u) : cutD ds (some v) (some u) = (ds.drop v.toNat).take (u.toNat - v.toNat) := by
  unfold cutD
  rw [sIx_some h, sIx_some h2]
  by_cases q : v.toNat ≤ ds.length
  · rw [Nat.min_eq_left q, List.take_eq_take_iff, List.length_drop]
    omega
  · rw [Nat.min_eq_right (b := ds.length) (a := v.toNat) (by omega), List.drop_length, List.drop_eq_nil_of_le (as := ds) (i := v.toNat) (by omega)]
    simp
theorem cells_run {Γ : Nat → Fn} {kq : Nat → Kq} (ns : List Int) (hn : ns.length ≤ 63) (w : Nat) (h1 : 0 < w) (h2 : w < 63) :
    ∃ ms : List Int, (tCells.fn Γ kq).run [.scr ns, .int w] = .ok (.lst (ms.map D.int)) [] ∧ 1 ≤ ms.length ∧ ms.length ≤ w := by
  have e : (tCells.fn Γ kq).run [.scr ns, .int w] = endF [false, false] false (semS Γ kq false fCells [.val (.scr ns), .val (.int w), .un, .un, .un, .un]) := rfl
  rw [e, fCells]
  have hw : ((w : Int)).toNat = w := by omega
  generalize hf : (if ns.take w = [] then [0] else ns.take w) = fs
  have hl : 1 ≤ fs.length ∧ fs.length ≤ w ∧ (w < ns.length → fs.length = w) := by
    subst hf
    split
    · rename_i z
      refine ⟨by decide, h1, fun q => ?_⟩
      have := congrArg List.length z
      rw [List.length_take] at this
      simp only [List.length_nil] at this; omega
    · rename_i z
      rw [List.length_take]
      refine ⟨?_, by omega, by omega⟩
      have : 0 < (ns.take w).length := List.length_pos_iff.mpr z
      rw [List.length_take] at this
      exact this
  have start : semS Γ kq false (.set true 2 (.or (.bf .list (.cons (.sli (.var 0) .nil (.var 1)) .nil)) (.one (.lst (.cons (.cI 0) .nil))))) [.val (.scr ns), .val (.int w), .un, .un, .un, .un] = .ok (.nx, [.val (.scr ns), .val (.int w), .own (.lst (fs.map D.int)), .un, .un, .un]) := by
    by_cases z : ns.take w = []
    · rw [if_pos z] at hf
      subst hf
      have z2 : ns = [] := by
        cases ns with
        | nil => rfl
        | cons a r => cases w with
          | zero => omega
          | succ w => simp at z
      subst z2
      simp [E.isNil, sliD, conts, Bf.run, listD, tru, stabs]
    · rw [if_neg z] at hf
      subst hf
      have z2 : (List.take w (ns.map D.int)).isEmpty = false := by
        rw [← List.map_take]
        cases q : ns.take w with
        | nil => exact absurd q z
        | cons a r => rfl
      simp [E.isNil, sliD, conts, Bf.run, listD, tru, hw, z2, List.map_take]
  have go : Ok (semS Γ kq false (.loop (.tp (.cons (.nm 3) (.cons (.nm 4) .nil))) (.iEn (.sli (.var 0) (.var 1) (.cI 63))) (.cons (.set false 5 (.bin .mod (.bf .int (.cons (.var 3) .nil)) (.var 1))) (.cons (.sti 2 (.var 5) (.bin .add (.ix (.var 2) (.var 5)) (.bin .mul (.var 4) (.bin .add (.var 3) (.cI 2))))) .nil))) [.val (.scr ns), .val (.int w), .own (.lst (fs.map D.int)), .un, .un, .un])
      fun p => p.1 = .nx ∧ ∃ (gs : List Int) (a b c : Slot), gs.length = fs.length ∧ p.2 = [.val (.scr ns), .val (.int w), .own (.lst (gs.map D.int)), a, b, c] := by
    have hi : (sem Γ kq (.iEn (.sli (.var 0) (.var 1) (.cI 63)))).i [.val (.scr ns), .val (.int w), .own (.lst (fs.map D.int)), .un, .un, .un] = .ok ((((ns.drop w).take (63 - w)).map D.int).mapIdx fun (k : Nat) d => D.tup [.int (k : Int), d], [.val (.scr ns), .val (.int w), .own (.lst (fs.map D.int)), .un, .un, .un]) := by
      simp [enuS, E.isNil, sliD, hw, List.map_take, List.map_drop]
    rw [q_loop, hi, R.bind_ok, kFor_eq]
    refine forL_ok _ (fun i env => ∃ (gs : List Int) (a b c : Slot), gs.length = fs.length ∧ env = [.val (.scr ns), .val (.int w), .own (.lst (gs.map D.int)), a, b, c]) _ ⟨fs, _, _, _, rfl, rfl⟩ ?_ (fun env h => ⟨rfl, h⟩)
    rintro i d env hd ⟨gs, a, b, c, hg, rfl⟩
    rw [List.getElem?_mapIdx, Option.map_eq_some_iff] at hd
    obtain ⟨x, hx, rfl⟩ := hd
    rw [List.getElem?_map, Option.map_eq_some_iff] at hx
    obtain ⟨n, hx, rfl⟩ := hx
    have hlt : i < ns.length - w := by
      have := (List.getElem?_eq_some_iff.mp hx).1
      rw [List.length_take, List.length_drop] at this
      omega
    have hgw : gs.length = w := by rw [hg]; exact hl.2.2 (by omega)
    have hm : CMul n ((i : Int) + 2) := .inr ⟨by omega, by omega⟩
    have hr : ((i : Int) % (w : Int)).toNat < gs.length := by
      have := Int.emod_lt_of_pos (i : Int) (show (0 : Int) < w by omega)
      have := Int.emod_nonneg (i : Int) (show (w : Int) ≠ 0 by omega)
      omega
    have hr0 : 0 ≤ (i : Int) % (w : Int) := Int.emod_nonneg (i : Int) (show (w : Int) ≠ 0 by omega)
    have hix : ixN gs.length ((i : Int) % (w : Int)) = some ((i : Int) % (w : Int)).toNat := by
      exact ixN_in hr0 (by omega)
    have hat : atI (gs.map D.int) ((i : Int) % (w : Int)) = some (.int gs[((i : Int) % (w : Int)).toNat]) := by
      exact atI_in hr0 (by simp [hr])
    refine ⟨_, rfl, ?_⟩
    have hwp : (0 : Int) < w := by omega
    refine ⟨(.nx, [.val (.scr ns), .val (.int w), .own (.lst ((gs.set ((i : Int) % (w : Int)).toNat (gs[((i : Int) % (w : Int)).toNat] + n * ((i : Int) + 2))).map D.int)), .val (.int i), .val (.int n), .val (.int ((i : Int) % (w : Int)))]), ?_, ?_⟩
    · simp [conts, Bf.run, FR.intD, Bop.run, modD, h1, hwp, ixD, hat, mulD, addD, hm, hix, List.map_set]
    · exact ⟨_, _, _, _, by rw [List.length_set]; exact hg, rfl⟩
  obtain ⟨⟨k, e2⟩, g1, rfl, gs, a, b, c, g2, rfl⟩ := go
  refine ⟨gs, ?_, by omega, by omega⟩
  rw [q_cons, start, R.bind_ok, kSeq_nx, q_cons, g1, R.bind_ok, kSeq_nx]
  simp [endF, outsF]
/-! ### a source of draws for a cell -/
def fBoxA (c : Int) : S := (.cons (.set false 2 (.ite (.cmp .lt (.var 1) (.bf .len (.cons (.var 0) .nil))) (.ix (.var 0) (.var 1)) (.cI 0))) (.cons (.set false 3 (.bin .mul (.bf .abs (.cons (.var 2) .nil)) (.bf .int (.cons (.cmp .ge (.bf .abs (.cons (.var 2) .nil)) (.bin .pow (.cI 10) (.cI 18))) .nil)))) (.cons (.ret (.lst (.cons (.var 3) (.cons (.bin .add (.bin .add (.bin .mod (.bf .int (.cons (.var 2) .nil)) (.cI 2305843009213693951)) (.bin .mul (.cI 39373) (.var 1))) (.cI c)) (.cons (.cI 0) .nil))))) .nil)))
def tBoxA (c : Int) : Df := ⟨4, [false, false], true, fBoxA c⟩
theorem boxA_run {Γ : Nat → Fn} {kq : Nat → Kq} {c : Int} (hc : 0 ≤ c) (hc2 : c < 1000000) (ms : List Int) (k : Nat) (hk : k < 63) :
    ∃ u, ((tBoxA c).fn Γ kq).run [.lst (ms.map D.int), .int k] = .ok u [] ∧ Urn 0 u := by
  have e : ((tBoxA c).fn Γ kq).run [.lst (ms.map D.int), .int k] = endF [false, false] true (semS Γ kq true (fBoxA c) [.val (.lst (ms.map D.int)), .val (.int k), .un, .un]) := rfl
  rw [e, fBoxA]
  have hp : CPow 10 18 := by decide
  have m1 : CMul 39373 (k : Int) := .inl ⟨by decide, by decide⟩
  have key : ∀ z : Int, ∃ u, endF [false, false] true (semS Γ kq true (.cons (.set false 3 (.bin .mul (.bf .abs (.cons (.var 2) .nil)) (.bf .int (.cons (.cmp .ge (.bf .abs (.cons (.var 2) .nil)) (.bin .pow (.cI 10) (.cI 18))) .nil)))) (.cons (.ret (.lst (.cons (.var 3) (.cons (.bin .add (.bin .add (.bin .mod (.bf .int (.cons (.var 2) .nil)) (.cI 2305843009213693951)) (.bin .mul (.cI 39373) (.var 1))) (.cI c)) (.cons (.cI 0) .nil))))) .nil)) [.val (.lst (ms.map D.int)), .val (.int k), .val (.int z), .un]) = .ok u [] ∧ Urn 0 u := by
    intro z
    have m2 : ∀ x : Int, CMul x 0 := fun x => .inr ⟨by decide, by decide⟩
    have m3 : ∀ x : Int, CMul x 1 := fun x => .inr ⟨by decide, by decide⟩
    have hb : 0 ≤ z % 2305843009213693951 + 39373 * (k : Int) + c ∧ z % 2305843009213693951 + 39373 * (k : Int) + c < 2 ^ 62 := by omega
    by_cases q : (10 : Int) ^ 18 ≤ (if z < 0 then -z else z)
    · refine ⟨.lst [.int (if z < 0 then -z else z), .int (z % 2305843009213693951 + 39373 * (k : Int) + c), .int 0], ?_, _, _, _, rfl, hb.1, hb.2, Int.le_refl _, Int.le_refl _⟩
      have q' : (1000000000000000000 : Int) ≤ (if z < 0 then -z else z) := q
      simp [conts, Bf.run, absD, intD, Bop.run, powD, hp, Cop.run, leI, q', mulD, m1, m3, modD, addD, stabs, endF, outsF]
    · refine ⟨.lst [.int 0, .int (z % 2305843009213693951 + 39373 * (k : Int) + c), .int 0], ?_, _, _, _, rfl, hb.1, hb.2, Int.le_refl _, Int.le_refl _⟩
      have q' : ¬ (1000000000000000000 : Int) ≤ (if z < 0 then -z else z) := q
      simp [conts, Bf.run, absD, intD, Bop.run, powD, hp, Cop.run, leI, q', mulD, m1, m2, modD, addD, stabs, endF, outsF]
  by_cases q : k < ms.length
  · have hat : atI (ms.map D.int) (k : Int) = some (.int ms[k]) := atI_in (by omega) (by simp [q])
    have st : semS Γ kq true (.set false 2 (.ite (.cmp .lt (.var 1) (.bf .len (.cons (.var 0) .nil))) (.ix (.var 0) (.var 1)) (.cI 0))) [.val (.lst (ms.map D.int)), .val (.int k), .un, .un] = .ok (.nx, [.val (.lst (ms.map D.int)), .val (.int k), .val (.int ms[k]), .un]) := by
      simp [conts, Bf.run, lenDs, lenD, Cop.run, ltD, q, tru, ixD, hat]
    rw [q_cons, st, R.bind_ok, kSeq_nx]
    exact key _
  · have st : semS Γ kq true (.set false 2 (.ite (.cmp .lt (.var 1) (.bf .len (.cons (.var 0) .nil))) (.ix (.var 0) (.var 1)) (.cI 0))) [.val (.lst (ms.map D.int)), .val (.int k), .un, .un] = .ok (.nx, [.val (.lst (ms.map D.int)), .val (.int k), .val (.int 0), .un]) := by
      simp [conts, Bf.run, lenDs, lenD, Cop.run, ltD, q, tru]
    rw [q_cons, st, R.bind_ok, kSeq_nx]
    exact key _
/-! ### same: of one thing with itself -/
def tame : Nat → D → Bool
  | _, .non => true
  | _, .bl _ => true
  | _, .int _ => true
  | _, .str x => PyData.strOk x
  | n + 1, .tup ds => decide (ds.length ≤ 1000000) && ds.all (tame n)
  | n + 1, .lst ds => decide (ds.length ≤ 1000000) && ds.all (tame n)
  | _, _ => false
def fSameA : S := (.cons (.iff (.isi (.var 1) ["list", "tuple"]) (.cons (.iff (.or (.cmp .ne (.isi (.var 0) ["list"]) (.isi (.var 1) ["list"])) (.one (.cmp .ne (.isi (.var 0) ["tuple"]) (.isi (.var 1) ["tuple"])))) (.cons (.ret (.cB false)) .nil) .nil) (.cons (.ret (.and (.cmp .eq (.bf .len (.cons (.var 0) .nil)) (.bf .len (.cons (.var 1) .nil))) (.one (.bf .all (.cons (.lc [2, 3] (.tp (.cons (.nm 2) (.cons (.nm 3) .nil))) (.iZ (.var 0) (.var 1)) .nil (.call 1003 (.cons (.var 2) (.cons (.var 3) .nil)))) .nil))))) .nil)) .nil) (.cons (.iff (.or (.cmp .isN (.var 1) .cN) (.one (.isi (.var 1) ["bool", "str"]))) (.cons (.ret (.and (.cmp .eq (.var 0) (.var 1)) (.and (.cmp .eq (.isi (.var 0) ["bool"]) (.isi (.var 1) ["bool"])) (.one (.cmp .eq (.cmp .isN (.var 0) .cN) (.cmp .isN (.var 1) .cN)))))) .nil) .nil) (.cons (.ret (.and (.isi (.var 0) ["int"]) (.and (.not (.isi (.var 0) ["bool"])) (.one (.cmp .eq (.var 0) (.var 1)))))) .nil)))
def tSameA : Df := ⟨4, [false, false], false, fSameA⟩
end FR
set_option Elab.async false
set_option linter.all false
set_option autoImplicit false
set_option maxRecDepth 100000
set_option maxHeartbeats 0
/-! FRi: isinstance; same -/
namespace FR
open PySem PySem.Spec PyProof.Rows L2
@[simp] theorem isi_non_list_tuple  : isiD ["list", "tuple"] .non = some (.dat (.bl false)) := by
  show (["list", "tuple"].mapM fun u => kitB "NoneType" u).map (fun bs => Ld.dat (.bl (bs.any id))) = _
  rw [show (["list", "tuple"].mapM fun u => kitB "NoneType" u) = some [false, false] by decide +kernel]
  rfl
@[simp] theorem isi_non_tuple_list  : isiD ["tuple", "list"] .non = some (.dat (.bl false)) := by
  show (["tuple", "list"].mapM fun u => kitB "NoneType" u).map (fun bs => Ld.dat (.bl (bs.any id))) = _
  rw [show (["tuple", "list"].mapM fun u => kitB "NoneType" u) = some [false, false] by decide +kernel]
  rfl
@[simp] theorem isi_non_list  : isiD ["list"] .non = some (.dat (.bl false)) := by
  show (["list"].mapM fun u => kitB "NoneType" u).map (fun bs => Ld.dat (.bl (bs.any id))) = _
  rw [show (["list"].mapM fun u => kitB "NoneType" u) = some [false] by decide +kernel]
  rfl
@[simp] theorem isi_non_tuple  : isiD ["tuple"] .non = some (.dat (.bl false)) := by
  show (["tuple"].mapM fun u => kitB "NoneType" u).map (fun bs => Ld.dat (.bl (bs.any id))) = _
  rw [show (["tuple"].mapM fun u => kitB "NoneType" u) = some [false] by decide +kernel]
  rfl
@[simp] theorem isi_non_bool_str  : isiD ["bool", "str"] .non = some (.dat (.bl false)) := by
  show (["bool", "str"].mapM fun u => kitB "NoneType" u).map (fun bs => Ld.dat (.bl (bs.any id))) = _
  rw [show (["bool", "str"].mapM fun u => kitB "NoneType" u) = some [false, false] by decide +kernel]
  rfl
@[simp] theorem isi_non_bool  : isiD ["bool"] .non = some (.dat (.bl false)) := by
  show (["bool"].mapM fun u => kitB "NoneType" u).map (fun bs => Ld.dat (.bl (bs.any id))) = _
  rw [show (["bool"].mapM fun u => kitB "NoneType" u) = some [false] by decide +kernel]
  rfl
@[simp] theorem isi_non_int  : isiD ["int"] .non = some (.dat (.bl false)) := by
  show (["int"].mapM fun u => kitB "NoneType" u).map (fun bs => Ld.dat (.bl (bs.any id))) = _
  rw [show (["int"].mapM fun u => kitB "NoneType" u) = some [false] by decide +kernel]
  rfl
@[simp] theorem isi_non_str  : isiD ["str"] .non = some (.dat (.bl false)) := by
  show (["str"].mapM fun u => kitB "NoneType" u).map (fun bs => Ld.dat (.bl (bs.any id))) = _
  rw [show (["str"].mapM fun u => kitB "NoneType" u) = some [false] by decide +kernel]
  rfl
@[simp] theorem isi_non_dict  : isiD ["dict"] .non = some (.dat (.bl false)) := by
  show (["dict"].mapM fun u => kitB "NoneType" u).map (fun bs => Ld.dat (.bl (bs.any id))) = _
  rw [show (["dict"].mapM fun u => kitB "NoneType" u) = some [false] by decide +kernel]
  rfl
@[simp] theorem isi_bl_list_tuple (b : Bool) : isiD ["list", "tuple"] (.bl b) = some (.dat (.bl false)) := by
  show (["list", "tuple"].mapM fun u => kitB "bool" u).map (fun bs => Ld.dat (.bl (bs.any id))) = _
  rw [show (["list", "tuple"].mapM fun u => kitB "bool" u) = some [false, false] by decide +kernel]
  rfl
@[simp] theorem isi_bl_tuple_list (b : Bool) : isiD ["tuple", "list"] (.bl b) = some (.dat (.bl false)) := by
  show (["tuple", "list"].mapM fun u => kitB "bool" u).map (fun bs => Ld.dat (.bl (bs.any id))) = _
  rw [show (["tuple", "list"].mapM fun u => kitB "bool" u) = some [false, false] by decide +kernel]
  rfl
@[simp] theorem isi_bl_list (b : Bool) : isiD ["list"] (.bl b) = some (.dat (.bl false)) := by
  show (["list"].mapM fun u => kitB "bool" u).map (fun bs => Ld.dat (.bl (bs.any id))) = _
  rw [show (["list"].mapM fun u => kitB "bool" u) = some [false] by decide +kernel]
  rfl
@[simp] theorem isi_bl_tuple (b : Bool) : isiD ["tuple"] (.bl b) = some (.dat (.bl false)) := by
  show (["tuple"].mapM fun u => kitB "bool" u).map (fun bs => Ld.dat (.bl (bs.any id))) = _
  rw [show (["tuple"].mapM fun u => kitB "bool" u) = some [false] by decide +kernel]
  rfl
@[simp] theorem isi_bl_bool_str (b : Bool) : isiD ["bool", "str"] (.bl b) = some (.dat (.bl true)) := by
  show (["bool", "str"].mapM fun u => kitB "bool" u).map (fun bs => Ld.dat (.bl (bs.any id))) = _
  rw [show (["bool", "str"].mapM fun u => kitB "bool" u) = some [true, false] by decide +kernel]
  rfl
@[simp] theorem isi_bl_bool (b : Bool) : isiD ["bool"] (.bl b) = some (.dat (.bl true)) := by
  show (["bool"].mapM fun u => kitB "bool" u).map (fun bs => Ld.dat (.bl (bs.any id))) = _
  rw [show (["bool"].mapM fun u => kitB "bool" u) = some [true] by decide +kernel]
  rfl
@[simp] theorem isi_bl_int (b : Bool) : isiD ["int"] (.bl b) = some (.dat (.bl true)) := by
  show (["int"].mapM fun u => kitB "bool" u).map (fun bs => Ld.dat (.bl (bs.any id))) = _
  rw [show (["int"].mapM fun u => kitB "bool" u) = some [true] by decide +kernel]
  rfl
@[simp] theorem isi_bl_str (b : Bool) : isiD ["str"] (.bl b) = some (.dat (.bl false)) := by
  show (["str"].mapM fun u => kitB "bool" u).map (fun bs => Ld.dat (.bl (bs.any id))) = _
  rw [show (["str"].mapM fun u => kitB "bool" u) = some [false] by decide +kernel]
  rfl
@[simp] theorem isi_bl_dict (b : Bool) : isiD ["dict"] (.bl b) = some (.dat (.bl false)) := by
  show (["dict"].mapM fun u => kitB "bool" u).map (fun bs => Ld.dat (.bl (bs.any id))) = _
  rw [show (["dict"].mapM fun u => kitB "bool" u) = some [false] by decide +kernel]
  rfl
@[simp] theorem isi_int_list_tuple (i : Int) : isiD ["list", "tuple"] (.int i) = some (.dat (.bl false)) := by
  show (["list", "tuple"].mapM fun u => kitB "int" u).map (fun bs => Ld.dat (.bl (bs.any id))) = _
  rw [show (["list", "tuple"].mapM fun u => kitB "int" u) = some [false, false] by decide +kernel]
  rfl
@[simp] theorem isi_int_tuple_list (i : Int) : isiD ["tuple", "list"] (.int i) = some (.dat (.bl false)) := by
  show (["tuple", "list"].mapM fun u => kitB "int" u).map (fun bs => Ld.dat (.bl (bs.any id))) = _
  rw [show (["tuple", "list"].mapM fun u => kitB "int" u) = some [false, false] by decide +kernel]
  rfl
@[simp] theorem isi_int_list (i : Int) : isiD ["list"] (.int i) = some (.dat (.bl false)) := by
  show (["list"].mapM fun u => kitB "int" u).map (fun bs => Ld.dat (.bl (bs.any id))) = _
  rw [show (["list"].mapM fun u => kitB "int" u) = some [false] by decide +kernel]
  rfl
@[simp] theorem isi_int_tuple (i : Int) : isiD ["tuple"] (.int i) = some (.dat (.bl false)) := by
  show (["tuple"].mapM fun u => kitB "int" u).map (fun bs => Ld.dat (.bl (bs.any id))) = _
  rw [show (["tuple"].mapM fun u => kitB "int" u) = some [false] by decide +kernel]
  rfl
@[simp] theorem isi_int_bool_str (i : Int) : isiD ["bool", "str"] (.int i) = some (.dat (.bl false)) := by
  show (["bool", "str"].mapM fun u => kitB "int" u).map (fun bs => Ld.dat (.bl (bs.any id))) = _
  rw [show (["bool", "str"].mapM fun u => kitB "int" u) = some [false, false] by decide +kernel]
  rfl
@[simp] theorem isi_int_bool (i : Int) : isiD ["bool"] (.int i) = some (.dat (.bl false)) := by
  show (["bool"].mapM fun u => kitB "int" u).map (fun bs => Ld.dat (.bl (bs.any id))) = _
  rw [show (["bool"].mapM fun u => kitB "int" u) = some [false] by decide +kernel]
  rfl
@[simp] theorem isi_int_int (i : Int) : isiD ["int"] (.int i) = some (.dat (.bl true)) := by
  show (["int"].mapM fun u => kitB "int" u).map (fun bs => Ld.dat (.bl (bs.any id))) = _
  rw [show (["int"].mapM fun u => kitB "int" u) = some [true] by decide +kernel]
  rfl
@[simp] theorem isi_int_str (i : Int) : isiD ["str"] (.int i) = some (.dat (.bl false)) := by
  show (["str"].mapM fun u => kitB "int" u).map (fun bs => Ld.dat (.bl (bs.any id))) = _
  rw [show (["str"].mapM fun u => kitB "int" u) = some [false] by decide +kernel]
  rfl
@[simp] theorem isi_int_dict (i : Int) : isiD ["dict"] (.int i) = some (.dat (.bl false)) := by
  show (["dict"].mapM fun u => kitB "int" u).map (fun bs => Ld.dat (.bl (bs.any id))) = _
  rw [show (["dict"].mapM fun u => kitB "int" u) = some [false] by decide +kernel]
  rfl
@[simp] theorem isi_str_list_tuple (x : Str) : isiD ["list", "tuple"] (.str x) = some (.dat (.bl false)) := by
  show (["list", "tuple"].mapM fun u => kitB "str" u).map (fun bs => Ld.dat (.bl (bs.any id))) = _
  rw [show (["list", "tuple"].mapM fun u => kitB "str" u) = some [false, false] by decide +kernel]
  rfl
@[simp] theorem isi_str_tuple_list (x : Str) : isiD ["tuple", "list"] (.str x) = some (.dat (.bl false)) := by
  show (["tuple", "list"].mapM fun u => kitB "str" u).map (fun bs => Ld.dat (.bl (bs.any id))) = _
  rw [show (["tuple", "list"].mapM fun u => kitB "str" u) = some [false, false] by decide +kernel]
  rfl
@[simp] theorem isi_str_list (x : Str) : isiD ["list"] (.str x) = some (.dat (.bl false)) := by
  show (["list"].mapM fun u => kitB "str" u).map (fun bs => Ld.dat (.bl (bs.any id))) = _
  rw [show (["list"].mapM fun u => kitB "str" u) = some [false] by decide +kernel]
  rfl
@[simp] theorem isi_str_tuple (x : Str) : isiD ["tuple"] (.str x) = some (.dat (.bl false)) := by
  show (["tuple"].mapM fun u => kitB "str" u).map (fun bs => Ld.dat (.bl (bs.any id))) = _
  rw [show (["tuple"].mapM fun u => kitB "str" u) = some [false] by decide +kernel]
  rfl
@[simp] theorem isi_str_bool_str (x : Str) : isiD ["bool", "str"] (.str x) = some (.dat (.bl true)) := by
  show (["bool", "str"].mapM fun u => kitB "str" u).map (fun bs => Ld.dat (.bl (bs.any id))) = _
  rw [show (["bool", "str"].mapM fun u => kitB "str" u) = some [false, true] by decide +kernel]
  rfl
@[simp] theorem isi_str_bool (x : Str) : isiD ["bool"] (.str x) = some (.dat (.bl false)) := by
  show (["bool"].mapM fun u => kitB "str" u).map (fun bs => Ld.dat (.bl (bs.any id))) = _
  rw [show (["bool"].mapM fun u => kitB "str" u) = some [false] by decide +kernel]
  rfl
@[simp] theorem isi_str_int (x : Str) : isiD ["int"] (.str x) = some (.dat (.bl false)) := by
  show (["int"].mapM fun u => kitB "str" u).map (fun bs => Ld.dat (.bl (bs.any id))) = _
  rw [show (["int"].mapM fun u => kitB "str" u) = some [false] by decide +kernel]
  rfl
@[simp] theorem isi_str_str (x : Str) : isiD ["str"] (.str x) = some (.dat (.bl true)) := by
  show (["str"].mapM fun u => kitB "str" u).map (fun bs => Ld.dat (.bl (bs.any id))) = _
  rw [show (["str"].mapM fun u => kitB "str" u) = some [true] by decide +kernel]
  rfl
@[simp] theorem isi_str_dict (x : Str) : isiD ["dict"] (.str x) = some (.dat (.bl false)) := by
  show (["dict"].mapM fun u => kitB "str" u).map (fun bs => Ld.dat (.bl (bs.any id))) = _
  rw [show (["dict"].mapM fun u => kitB "str" u) = some [false] by decide +kernel]
  rfl
@[simp] theorem isi_tup_list_tuple (ds : List D) : isiD ["list", "tuple"] (.tup ds) = some (.dat (.bl true)) := by
  show (["list", "tuple"].mapM fun u => kitB "tuple" u).map (fun bs => Ld.dat (.bl (bs.any id))) = _
  rw [show (["list", "tuple"].mapM fun u => kitB "tuple" u) = some [false, true] by decide +kernel]
  rfl
@[simp] theorem isi_tup_tuple_list (ds : List D) : isiD ["tuple", "list"] (.tup ds) = some (.dat (.bl true)) := by
  show (["tuple", "list"].mapM fun u => kitB "tuple" u).map (fun bs => Ld.dat (.bl (bs.any id))) = _
  rw [show (["tuple", "list"].mapM fun u => kitB "tuple" u) = some [true, false] by decide +kernel]
  rfl
@[simp] theorem isi_tup_list (ds : List D) : isiD ["list"] (.tup ds) = some (.dat (.bl false)) := by
  show (["list"].mapM fun u => kitB "tuple" u).map (fun bs => Ld.dat (.bl (bs.any id))) = _
  rw [show (["list"].mapM fun u => kitB "tuple" u) = some [false] by decide +kernel]
  rfl
@[simp] theorem isi_tup_tuple (ds : List D) : isiD ["tuple"] (.tup ds) = some (.dat (.bl true)) := by
  show (["tuple"].mapM fun u => kitB "tuple" u).map (fun bs => Ld.dat (.bl (bs.any id))) = _
  rw [show (["tuple"].mapM fun u => kitB "tuple" u) = some [true] by decide +kernel]
  rfl
@[simp] theorem isi_tup_bool_str (ds : List D) : isiD ["bool", "str"] (.tup ds) = some (.dat (.bl false)) := by
  show (["bool", "str"].mapM fun u => kitB "tuple" u).map (fun bs => Ld.dat (.bl (bs.any id))) = _
  rw [show (["bool", "str"].mapM fun u => kitB "tuple" u) = some [false, false] by decide +kernel]
  rfl
@[simp] theorem isi_tup_bool (ds : List D) : isiD ["bool"] (.tup ds) = some (.dat (.bl false)) := by
  show (["bool"].mapM fun u => kitB "tuple" u).map (fun bs => Ld.dat (.bl (bs.any id))) = _
  rw [show (["bool"].mapM fun u => kitB "tuple" u) = some [false] by decide +kernel]
  rfl
@[simp] theorem isi_tup_int (ds : List D) : isiD ["int"] (.tup ds) = some (.dat (.bl false)) := by
  show (["int"].mapM fun u => kitB "tuple" u).map (fun bs => Ld.dat (.bl (bs.any id))) = _
  rw [show (["int"].mapM fun u => kitB "tuple" u) = some [false] by decide +kernel]
  rfl
@[simp] theorem isi_tup_str (ds : List D) : isiD ["str"] (.tup ds) = some (.dat (.bl false)) := by
  show (["str"].mapM fun u => kitB "tuple" u).map (fun bs => Ld.dat (.bl (bs.any id))) = _
  rw [show (["str"].mapM fun u => kitB "tuple" u) = some [false] by decide +kernel]
  rfl
@[simp] theorem isi_tup_dict (ds : List D) : isiD ["dict"] (.tup ds) = some (.dat (.bl false)) := by
  show (["dict"].mapM fun u => kitB "tuple" u).map (fun bs => Ld.dat (.bl (bs.any id))) = _
  rw [show (["dict"].mapM fun u => kitB "tuple" u) = some [false] by decide +kernel]
  rfl
@[simp] theorem isi_lst_list_tuple (ds : List D) : isiD ["list", "tuple"] (.lst ds) = some (.dat (.bl true)) := by
  show (["list", "tuple"].mapM fun u => kitB "list" u).map (fun bs => Ld.dat (.bl (bs.any id))) = _
  rw [show (["list", "tuple"].mapM fun u => kitB "list" u) = some [true, false] by decide +kernel]
  rfl
@[simp] theorem isi_lst_tuple_list (ds : List D) : isiD ["tuple", "list"] (.lst ds) = some (.dat (.bl true)) := by
  show (["tuple", "list"].mapM fun u => kitB "list" u).map (fun bs => Ld.dat (.bl (bs.any id))) = _
  rw [show (["tuple", "list"].mapM fun u => kitB "list" u) = some [false, true] by decide +kernel]
  rfl
@[simp] theorem isi_lst_list (ds : List D) : isiD ["list"] (.lst ds) = some (.dat (.bl true)) := by
  show (["list"].mapM fun u => kitB "list" u).map (fun bs => Ld.dat (.bl (bs.any id))) = _
  rw [show (["list"].mapM fun u => kitB "list" u) = some [true] by decide +kernel]
  rfl
@[simp] theorem isi_lst_tuple (ds : List D) : isiD ["tuple"] (.lst ds) = some (.dat (.bl false)) := by
  show (["tuple"].mapM fun u => kitB "list" u).map (fun bs => Ld.dat (.bl (bs.any id))) = _
  rw [show (["tuple"].mapM fun u => kitB "list" u) = some [false] by decide +kernel]
  rfl
@[simp] theorem isi_lst_bool_str (ds : List D) : isiD ["bool", "str"] (.lst ds) = some (.dat (.bl false)) := by
  show (["bool", "str"].mapM fun u => kitB "list" u).map (fun bs => Ld.dat (.bl (bs.any id))) = _
  rw [show (["bool", "str"].mapM fun u => kitB "list" u) = some [false, false] by decide +kernel]
  rfl
@[simp] theorem isi_lst_bool (ds : List D) : isiD ["bool"] (.lst ds) = some (.dat (.bl false)) := by
  show (["bool"].mapM fun u => kitB "list" u).map (fun bs => Ld.dat (.bl (bs.any id))) = _
  rw [show (["bool"].mapM fun u => kitB "list" u) = some [false] by decide +kernel]
  rfl
@[simp] theorem isi_lst_int (ds : List D) : isiD ["int"] (.lst ds) = some (.dat (.bl false)) := by
  show (["int"].mapM fun u => kitB "list" u).map (fun bs => Ld.dat (.bl (bs.any id))) = _
  rw [show (["int"].mapM fun u => kitB "list" u) = some [false] by decide +kernel]
  rfl
@[simp] theorem isi_lst_str (ds : List D) : isiD ["str"] (.lst ds) = some (.dat (.bl false)) := by
  show (["str"].mapM fun u => kitB "list" u).map (fun bs => Ld.dat (.bl (bs.any id))) = _
  rw [show (["str"].mapM fun u => kitB "list" u) = some [false] by decide +kernel]
  rfl
@[simp] theorem isi_lst_dict (ds : List D) : isiD ["dict"] (.lst ds) = some (.dat (.bl false)) := by
  show (["dict"].mapM fun u => kitB "list" u).map (fun bs => Ld.dat (.bl (bs.any id))) = _
  rw [show (["dict"].mapM fun u => kitB "list" u) = some [false] by decide +kernel]
  rfl
@[simp] theorem isi_dK_list_tuple (es : List (Key × D)) : isiD ["list", "tuple"] (.dK es) = some (.dat (.bl false)) := by
  show (["list", "tuple"].mapM fun u => kitB "dict" u).map (fun bs => Ld.dat (.bl (bs.any id))) = _
  rw [show (["list", "tuple"].mapM fun u => kitB "dict" u) = some [false, false] by decide +kernel]
  rfl
@[simp] theorem isi_dK_tuple_list (es : List (Key × D)) : isiD ["tuple", "list"] (.dK es) = some (.dat (.bl false)) := by
  show (["tuple", "list"].mapM fun u => kitB "dict" u).map (fun bs => Ld.dat (.bl (bs.any id))) = _
  rw [show (["tuple", "list"].mapM fun u => kitB "dict" u) = some [false, false] by decide +kernel]
  rfl
@[simp] theorem isi_dK_list (es : List (Key × D)) : isiD ["list"] (.dK es) = some (.dat (.bl false)) := by
  show (["list"].mapM fun u => kitB "dict" u).map (fun bs => Ld.dat (.bl (bs.any id))) = _
  rw [show (["list"].mapM fun u => kitB "dict" u) = some [false] by decide +kernel]
  rfl
@[simp] theorem isi_dK_tuple (es : List (Key × D)) : isiD ["tuple"] (.dK es) = some (.dat (.bl false)) := by
  show (["tuple"].mapM fun u => kitB "dict" u).map (fun bs => Ld.dat (.bl (bs.any id))) = _
  rw [show (["tuple"].mapM fun u => kitB "dict" u) = some [false] by decide +kernel]
  rfl
@[simp] theorem isi_dK_bool_str (es : List (Key × D)) : isiD ["bool", "str"] (.dK es) = some (.dat (.bl false)) := by
  show (["bool", "str"].mapM fun u => kitB "dict" u).map (fun bs => Ld.dat (.bl (bs.any id))) = _
  rw [show (["bool", "str"].mapM fun u => kitB "dict" u) = some [false, false] by decide +kernel]
  rfl
@[simp] theorem isi_dK_bool (es : List (Key × D)) : isiD ["bool"] (.dK es) = some (.dat (.bl false)) := by
  show (["bool"].mapM fun u => kitB "dict" u).map (fun bs => Ld.dat (.bl (bs.any id))) = _
  rw [show (["bool"].mapM fun u => kitB "dict" u) = some [false] by decide +kernel]
  rfl
@[simp] theorem isi_dK_int (es : List (Key × D)) : isiD ["int"] (.dK es) = some (.dat (.bl false)) := by
  show (["int"].mapM fun u => kitB "dict" u).map (fun bs => Ld.dat (.bl (bs.any id))) = _
  rw [show (["int"].mapM fun u => kitB "dict" u) = some [false] by decide +kernel]
  rfl
@[simp] theorem isi_dK_str (es : List (Key × D)) : isiD ["str"] (.dK es) = some (.dat (.bl false)) := by
  show (["str"].mapM fun u => kitB "dict" u).map (fun bs => Ld.dat (.bl (bs.any id))) = _
  rw [show (["str"].mapM fun u => kitB "dict" u) = some [false] by decide +kernel]
  rfl
@[simp] theorem isi_dK_dict (es : List (Key × D)) : isiD ["dict"] (.dK es) = some (.dat (.bl true)) := by
  show (["dict"].mapM fun u => kitB "dict" u).map (fun bs => Ld.dat (.bl (bs.any id))) = _
  rw [show (["dict"].mapM fun u => kitB "dict" u) = some [true] by decide +kernel]
  rfl
@[simp] theorem isi_dT_list_tuple (es : List (D × D)) : isiD ["list", "tuple"] (.dT es) = some (.dat (.bl false)) := by
  show (["list", "tuple"].mapM fun u => kitB "dict" u).map (fun bs => Ld.dat (.bl (bs.any id))) = _
  rw [show (["list", "tuple"].mapM fun u => kitB "dict" u) = some [false, false] by decide +kernel]
  rfl
@[simp] theorem isi_dT_tuple_list (es : List (D × D)) : isiD ["tuple", "list"] (.dT es) = some (.dat (.bl false)) := by
  show (["tuple", "list"].mapM fun u => kitB "dict" u).map (fun bs => Ld.dat (.bl (bs.any id))) = _
  rw [show (["tuple", "list"].mapM fun u => kitB "dict" u) = some [false, false] by decide +kernel]
  rfl
@[simp] theorem isi_dT_list (es : List (D × D)) : isiD ["list"] (.dT es) = some (.dat (.bl false)) := by
  show (["list"].mapM fun u => kitB "dict" u).map (fun bs => Ld.dat (.bl (bs.any id))) = _
  rw [show (["list"].mapM fun u => kitB "dict" u) = some [false] by decide +kernel]
  rfl
@[simp] theorem isi_dT_tuple (es : List (D × D)) : isiD ["tuple"] (.dT es) = some (.dat (.bl false)) := by
  show (["tuple"].mapM fun u => kitB "dict" u).map (fun bs => Ld.dat (.bl (bs.any id))) = _
  rw [show (["tuple"].mapM fun u => kitB "dict" u) = some [false] by decide +kernel]
  rfl
@[simp] theorem isi_dT_bool_str (es : List (D × D)) : isiD ["bool", "str"] (.dT es) = some (.dat (.bl false)) := by
  show (["bool", "str"].mapM fun u => kitB "dict" u).map (fun bs => Ld.dat (.bl (bs.any id))) = _
  rw [show (["bool", "str"].mapM fun u => kitB "dict" u) = some [false, false] by decide +kernel]
  rfl
@[simp] theorem isi_dT_bool (es : List (D × D)) : isiD ["bool"] (.dT es) = some (.dat (.bl false)) := by
  show (["bool"].mapM fun u => kitB "dict" u).map (fun bs => Ld.dat (.bl (bs.any id))) = _
  rw [show (["bool"].mapM fun u => kitB "dict" u) = some [false] by decide +kernel]
  rfl
@[simp] theorem isi_dT_int (es : List (D × D)) : isiD ["int"] (.dT es) = some (.dat (.bl false)) := by
  show (["int"].mapM fun u => kitB "dict" u).map (fun bs => Ld.dat (.bl (bs.any id))) = _
  rw [show (["int"].mapM fun u => kitB "dict" u) = some [false] by decide +kernel]
  rfl
@[simp] theorem isi_dT_str (es : List (D × D)) : isiD ["str"] (.dT es) = some (.dat (.bl false)) := by
  show (["str"].mapM fun u => kitB "dict" u).map (fun bs => Ld.dat (.bl (bs.any id))) = _
  rw [show (["str"].mapM fun u => kitB "dict" u) = some [false] by decide +kernel]
  rfl
@[simp] theorem isi_dT_dict (es : List (D × D)) : isiD ["dict"] (.dT es) = some (.dat (.bl true)) := by
  show (["dict"].mapM fun u => kitB "dict" u).map (fun bs => Ld.dat (.bl (bs.any id))) = _
  rw [show (["dict"].mapM fun u => kitB "dict" u) = some [true] by decide +kernel]
  rfl
@[simp] theorem eqD_str (x y : Str) : eqD (.str x) (.str y) = if PyData.strOk x = true ∧ PyData.strOk y = true then some (x == y) else none := rfl
@[simp] theorem eqD_int (x y : Int) : eqD (.int x) (.int y) = some (x == y) := rfl
@[simp] theorem eqD_bl (x y : Bool) : eqD (.bl x) (.bl y) = some (x == y) := rfl
@[simp] theorem eqD_non : eqD .non .non = some true := rfl
theorem same_run {T : Nat → Df} {kq : Nat → Kq} (hT : T 1003 = tSameA) : ∀ (n : Nat) (d : D), tame n d = true → (Gam T kq (n + 1) 1003).run [d, d] = .ok (.bl true) [] := by
  have hmd : tSameA.md = [false, false] := rfl
  have hro : tSameA.ro = false := rfl
  have e : ∀ (n : Nat) (d : D), (Gam T kq (n + 1) 1003).run [d, d] = endF [false, false] false (semS (Gam T kq n) kq false fSameA [.val d, .val d, .un, .un]) := by
    intro n d
    rw [Gam_run n hT]; rfl
  intro n
  induction n with
  | zero =>
    intro d h
    rw [e, fSameA]
    cases d <;> first | (cases h; done) | skip
    · simp [Cop.run, isNon]
    · simp [Cop.run, isNon]
    · simp [Cop.run, isNon]
    · simp only [tame] at h
      simp [Cop.run, isNon, h]
  | succ n ih =>
    intro d h
    rw [e, fSameA]
    have key : ∀ (s : D) (ds : List D), ds.length ≤ 1000000 → ds.all (tame n) = true → lcLoop [2, 3] (.tp (.cons (.nm 2) (.cons (.nm 3) .nil))) (nxF (sem (Gam T kq (n + 1)) kq .nil).t) (nxF (sem (Gam T kq (n + 1)) kq (.call 1003 (.cons (.var 2) (.cons (.var 3) .nil)))).v) ((ds.zip ds).map fun p => D.tup [p.1, p.2]) [] [.val s, .val s, .un, .un] = .ok ((List.replicate ds.length true).map D.bl, [.val s, .val s, .un, .un]) := by
      intro s ds hl hd
      rw [lc_eq (fun p : D × D => D.tup [p.1, p.2]) (fun _ => some (D.bl true))]
      · simp [List.map_const']
      · rintro ⟨x, y⟩ hx
        have hxy : x = y := by
          obtain ⟨i, hi⟩ := List.mem_iff_getElem?.mp hx
          simp only [List.getElem?_zip_eq_some] at hi
          have := hi.1.symm.trans hi.2
          cases this; rfl
        subst hxy
        have hxm : x ∈ ds := (List.of_mem_zip hx).1
        have r := ih x (List.all_eq_true.mp hd x hxm)
        refine ⟨_, rfl, .inl ⟨_, .dat (.bl true), [.val s, .val s, .val x, .val x], _, rfl, ?_, rfl, rfl, ?_⟩⟩
        · simp [hT, hmd, hro, r, nxF_eq]
        · simp [wipeE]
    have sq : ∀ (d : D) (ds : List D), itemsD d = some ds → zipD d d = some ((ds.zip ds).map fun p => D.tup [p.1, p.2]) → isiD ["list", "tuple"] d = some (.dat (.bl true)) → lenD d = some ds.length → tame (n + 1) d = true → ds.length ≤ 1000000 ∧ ds.all (tame n) = true →
        (∃ b, isiD ["list"] d = some (.dat (.bl b))) → (∃ b, isiD ["tuple"] d = some (.dat (.bl b))) → endF [false, false] false (semS (Gam T kq (n + 1)) kq false fSameA [.val d, .val d, .un, .un]) = .ok (.bl true) [] := by
      rintro d ds h1 h2 h3 h4 h5 h ⟨b1, h6⟩ ⟨b2, h7⟩
      have k := key d ds h.1 h.2
      have hz : ds.length ≤ 16777216 := by omega
      rw [fSameA]
      simp [Cop.run, isNon, zipS, consA, h1, h2, h3, h4, h6, h7, Bf.run, lenDs, wipeE, k, hz, allD, unwipe, -List.map_replicate, blsOf_map]
    cases d <;> first | (cases h; done) | skip
    · simp [Cop.run, isNon]
    · simp [Cop.run, isNon]
    · simp [Cop.run, isNon]
    · simp only [tame] at h
      simp [Cop.run, isNon, h]
    · rename_i ds
      refine sq (.tup ds) ds rfl rfl (by simp) rfl h ?_ ⟨_, isi_tup_list ds⟩ ⟨_, isi_tup_tuple ds⟩
      simpa [tame] using h
    · rename_i ds
      refine sq (.lst ds) ds rfl rfl (by simp) rfl h ?_ ⟨_, isi_lst_list ds⟩ ⟨_, isi_lst_tuple ds⟩
      simpa [tame] using h
/-! ### a draw, in place -/
theorem draw_v {T : Nat → Df} {kq : Nat → Kq} (hT : T 1000 = tTake) {n i k : Nat} {e : E} {env : En} {u : D} {low : Int} (hi : env[i]? = some (.own u)) (he : (sem (Gam T kq (n + 1)) kq e).v env = .ok (.dat (.int low), env)) (hu : Urn k u) (hk : k ≤ 1000000) (h1 : 0 < low) (h2 : low < 2 ^ 62) :
    ∃ v u', (sem (Gam T kq (n + 1)) kq (.call 1000 (.cons (.var i) (.cons e .nil)))).v env = .ok (.dat (.int v), env.set i (.own u')) ∧ 0 ≤ v ∧ v < low ∧ Urn (k + 1) u' := by
  obtain ⟨v, u', r1, r2, r3, r4⟩ := take_run (Γ := Gam T kq n) (kq := kq) hu hk h1 h2
  refine ⟨v, u', ?_, r2, r3, r4⟩
  have hr : (Gam T kq (n + 1) 1000).run [u, .int low] = .ok (.int v) [u'] := by rw [Gam_run n hT]; exact r1
  have m1 : (T 1000).md = [true, false] := by rw [hT]; rfl
  have m2 : (T 1000).ro = false := by rw [hT]; rfl
  simp [hi, he, m1, m2, hr]
theorem cI_v {T : Nat → Df} {kq : Nat → Kq} {n : Nat} {env : En} {c : Int} : (sem (Gam T kq n) kq (.cI c)).v env = .ok (.dat (.int c), env) := rfl
/-! ### the end of a law -/
theorem allD_true (n : Nat) : allD [.lst ((List.replicate n true).map D.bl)] = some (.dat (.bl true)) := by
  simp only [allD, blsOf_map]
  simp
end FR
set_option Elab.async false
set_option linter.all false
set_option autoImplicit false
/-! K39m: the plain law of levels -/
namespace K39
def overI (xs : List Int) (l : Int) : Int := (xs.map fun x => if x - l > 0 then x - l else 0).sum
def cntI (xs : List Int) (l : Int) : Int := ((xs.filter fun x => decide (l < x)).length : Int)
/-- the least level over which one has more -/
def Tell (xs ys : List Int) : Option Int → Prop
  | none => ∀ l, 0 ≤ l → overI xs l ≤ overI ys l
  | some l => 0 ≤ l ∧ overI ys l < overI xs l ∧ ∀ k, 0 ≤ k → k < l → overI xs k ≤ overI ys k
theorem Tell.unique {xs ys : List Int} : ∀ {a b : Option Int}, Tell xs ys a → Tell xs ys b → a = b
  | none, none, _, _ => rfl
  | none, some l, h, h2 => by have := h l h2.1; have := h2.2.1; omega
  | some l, none, h, h2 => by have := h2 l h.1; have := h.2.1; omega
  | some l, some k, h, h2 => by
    have : l = k := by
      apply Classical.byContradiction
      intro q
      rcases Int.lt_or_gt_of_ne q with q | q
      · have := h2.2.2 l h.1 q; have := h.2.1; omega
      · have := h.2.2 k h2.1 q; have := h2.2.1; omega
    rw [this]
theorem over_cons (x : Int) (xs : List Int) (l : Int) : overI (x :: xs) l = (if x - l > 0 then x - l else 0) + overI xs l := by simp [overI]
theorem cnt_cons (x : Int) (xs : List Int) (l : Int) : cntI (x :: xs) l = (if l < x then 1 else 0) + cntI xs l := by
  unfold cntI
  rw [List.filter_cons]
  by_cases h : l < x
  · simp [h]; omega
  · simp [h]
/-- between two neighbours a level goes down by as many as are above -/
theorem over_lin {a b : Int} : ∀ {xs : List Int}, (∀ x ∈ xs, x ≤ a ∨ b ≤ x) → ∀ l, a ≤ l → l ≤ b → overI xs l = overI xs a - cntI xs a * (l - a)
  | [], _, l, _, _ => by simp [overI, cntI]
  | x :: xs, h, l, h1, h2 => by
    have ih := over_lin (xs := xs) (fun y hy => h y (List.mem_cons_of_mem _ hy)) l h1 h2
    rw [over_cons, over_cons, cnt_cons, ih, Int.add_mul]
    rcases h x List.mem_cons_self with q | q
    · rw [if_neg (by omega), if_neg (by omega), if_neg (by omega)]; omega
    · by_cases z : a < x
      · rw [if_pos z, if_pos (show x - a > 0 by omega)]
        split <;> omega
      · rw [if_neg z, if_neg (by omega), if_neg (by omega)]; omega
theorem over_top {a : Int} : ∀ {xs : List Int}, (∀ x ∈ xs, x ≤ a) → ∀ l, a ≤ l → overI xs l = 0
  | [], _, l, _ => rfl
  | x :: xs, h, l, h1 => by
    rw [over_cons, over_top (xs := xs) (fun y hy => h y (List.mem_cons_of_mem _ hy)) l h1, if_neg (by have := h x List.mem_cons_self; omega)]
    rfl
theorem cnt_le (xs : List Int) (l : Int) : 0 ≤ cntI xs l ∧ cntI xs l ≤ xs.length := by
  unfold cntI
  have := List.length_filter_le (fun x => decide (l < x)) xs
  omega
theorem over_zero : ∀ {xs : List Int}, (∀ x ∈ xs, 0 ≤ x) → overI xs 0 = xs.sum
  | [], _ => rfl
  | x :: xs, h => by
    rw [over_cons, over_zero (xs := xs) fun y hy => h y (List.mem_cons_of_mem _ hy), List.sum_cons]
    have := h x List.mem_cons_self
    split <;> omega
/-- one stretch: all below it is no more; is the end more, then the told level is the least -/
theorem stretch {xs ys : List Int} {a b : Int} (ab : a < b) (hx : ∀ x ∈ xs, x ≤ a ∨ b ≤ x) (hy : ∀ x ∈ ys, x ≤ a ∨ b ≤ x) (ha : overI xs a ≤ overI ys a) :
    let ahead := overI xs a - overI ys a
    let steps := cntI ys a - cntI xs a
    (ahead + steps * (b - a) > 0 → 0 < steps ∧ a < a + (0 - ahead) / steps + 1 ∧ overI ys (a + (0 - ahead) / steps + 1) < overI xs (a + (0 - ahead) / steps + 1) ∧ ∀ k, a ≤ k → k < a + (0 - ahead) / steps + 1 → overI xs k ≤ overI ys k) ∧
    (¬ ahead + steps * (b - a) > 0 → ∀ k, a ≤ k → k ≤ b → overI xs k ≤ overI ys k) := by
  intro ahead steps
  have lin : ∀ l, a ≤ l → l ≤ b → overI xs l - overI ys l = ahead + steps * (l - a) := by
    intro l h1 h2
    rw [over_lin hx l h1 h2, over_lin hy l h1 h2]
    simp only [ahead, steps, Int.sub_mul]
    omega
  have h0 : ahead ≤ 0 := by simp only [ahead]; omega
  refine ⟨fun h => ?_, fun h k h1 h2 => ?_⟩
  · have hs : 0 < steps := by
      apply Classical.byContradiction
      intro q
      have : steps * (b - a) ≤ 0 := Int.mul_nonpos_of_nonpos_of_nonneg (by omega) (by omega)
      omega
    have q0 : 0 ≤ (0 - ahead) / steps := Int.ediv_nonneg (by omega) (by omega)
    have q1 : steps * ((0 - ahead) / steps) ≤ 0 - ahead := Int.mul_ediv_self_le (by omega)
    have q2 : 0 - ahead < steps * ((0 - ahead) / steps + 1) := by
      have := Int.lt_mul_ediv_self_add (x := 0 - ahead) (k := steps) hs
      rw [Int.mul_add]; omega
    generalize (0 - ahead) / steps = q at q0 q1 q2
    have hqb : q + 1 ≤ b - a := by
      apply Classical.byContradiction
      intro z
      have : steps * (b - a) ≤ steps * q := Int.mul_le_mul_of_nonneg_left (by omega) (by omega)
      omega
    refine ⟨hs, by omega, ?_, fun k k1 k2 => ?_⟩
    · have := lin (a + q + 1) (by omega) (by omega)
      rw [show a + q + 1 - a = q + 1 by omega] at this
      omega
    · have := lin k k1 (by omega)
      have : steps * (k - a) ≤ steps * q := Int.mul_le_mul_of_nonneg_left (by omega) (by omega)
      omega
  · have := lin k h1 h2
    by_cases hs : 0 ≤ steps
    · have : steps * (k - a) ≤ steps * (b - a) := Int.mul_le_mul_of_nonneg_left (by omega) hs
      omega
    · have : steps * (k - a) ≤ 0 := Int.mul_nonpos_of_nonpos_of_nonneg (by omega) (by omega)
      omega
end K39
set_option Elab.async false
set_option linter.all false
set_option autoImplicit false
set_option maxRecDepth 100000
set_option maxHeartbeats 0
namespace K39
open PySem PySem.Spec PyProof.Rows L2 FR
def top (i : Nat) : Stmt := PySem.Challenge.pw_freightrights_k39_levels_and_what_is_ove.main.body.getD i (.Pass ⟨0, 0, 0, 0⟩)
def f_189 : S := (.cons (.ret (.setof (.var 0))) .nil)
def t_189 : Df := ⟨1, [false], false, f_189⟩
def d_189 : Dr := ⟨189, "set_of", defArgs (top 1), defBody (top 1), defScope (top 1), ["some"], ["some"]⟩
def f_272 : S := (.cons (.ret (.bf .sum (.cons (.lc [2] (.nm 2) (.var 0) .nil (.bf .max (.cons (.cI 0) (.cons (.bin .sub (.var 2) (.var 1)) .nil)))) .nil))) .nil)
def t_272 : Df := ⟨3, [false, false], false, f_272⟩
def d_272 : Dr := ⟨272, "over", defArgs (top 3), defBody (top 3), defScope (top 3), ["one", "level", "number"], ["one", "level"]⟩
def f_273 : S := (.cons (.set false 2 (.call 189 (.cons (.lst (.cons (.cI 0) (.star (.var 0) (.star (.var 1) .nil)))) .nil))) (.cons (.loop (.tp (.cons (.nm 3) (.cons (.nm 4) .nil))) (.iZ (.var 2) (.sli (.var 2) (.cI 1) .nil)) (.cons (.set false 5 (.bin .sub (.call 272 (.cons (.var 0) (.cons (.var 3) .nil))) (.call 272 (.cons (.var 1) (.cons (.var 3) .nil))))) (.cons (.set false 6 (.bin .sub (.bf .len (.cons (.lc [7] (.nm 7) (.var 1) (.cmp .gt (.var 7) (.var 3)) (.var 7)) .nil)) (.bf .len (.cons (.lc [7] (.nm 7) (.var 0) (.cmp .gt (.var 7) (.var 3)) (.var 7)) .nil)))) (.cons (.iff (.cmp .gt (.bin .add (.var 5) (.bin .mul (.var 6) (.bin .sub (.var 4) (.var 3)))) (.cI 0)) (.cons (.ret (.bin .add (.bin .add (.var 3) (.bin .fdiv (.bin .sub (.cI 0) (.var 5)) (.var 6))) (.cI 1))) .nil) .nil) .nil)))) (.cons (.ret .cN) .nil)))
def t_273 : Df := ⟨8, [false, false], false, f_273⟩
def d_273 : Dr := ⟨273, "telling_level", defArgs (top 4), defBody (top 4), defScope (top 4), ["one", "other", "ends", "low", "high", "ahead", "steps", "number"], ["one", "other"]⟩
def f_1001 : S := (.cons (.set false 2 (.ite (.cmp .lt (.var 1) (.bf .len (.cons (.var 0) .nil))) (.ix (.var 0) (.var 1)) (.cI 0))) (.cons (.set false 3 (.bin .mul (.bf .abs (.cons (.var 2) .nil)) (.bf .int (.cons (.cmp .ge (.bf .abs (.cons (.var 2) .nil)) (.bin .pow (.cI 10) (.cI 18))) .nil)))) (.cons (.ret (.lst (.cons (.var 3) (.cons (.bin .add (.bin .add (.bin .mod (.bf .int (.cons (.var 2) .nil)) (.cI 2305843009213693951)) (.bin .mul (.cI 39373) (.var 1))) (.cI 93939)) (.cons (.cI 0) .nil))))) .nil)))
def t_1001 : Df := ⟨4, [false, false], true, f_1001⟩
def d_1001 : Dr := ⟨1001, "_law_box", defArgs (top 6), defBody (top 6), defScope (top 6), ["_law_script", "_law_k", "_law_great_so", "_law_lead_so"], ["_law_script", "_law_k"]⟩
def f_1000 : S := (.cons (.iff (.cmp .gt (.ix (.var 0) (.cI 0)) (.cI 0)) (.cons (.set false 5 (.bin .mod (.bf .int (.cons (.ix (.var 0) (.cI 0)) .nil)) (.var 1))) (.cons (.sti 0 (.cI 0) (.bin .fdiv (.ix (.var 0) (.cI 0)) (.var 1))) (.cons (.ret (.var 5)) .nil))) .nil) (.cons (.sti 0 (.cI 2) (.bin .add (.ix (.var 0) (.cI 2)) (.cI 1))) (.cons (.set false 2 (.bin .mod (.bf .int (.cons (.bin .mul (.bin .add (.ix (.var 0) (.cI 1)) (.bin .mul (.cI 48271) (.ix (.var 0) (.cI 2)))) (.bin .add (.cI 39373) (.ix (.var 0) (.cI 2)))) .nil)) (.cI 2147483647))) (.cons (.set false 3 (.bin .add (.bin .mod (.bf .int (.cons (.var 2) .nil)) (.cI 40009)) (.cI 7))) (.cons (.set false 4 (.bin .mod (.bf .int (.cons (.bin .mul (.bin .add (.bin .add (.var 2) (.ix (.var 0) (.cI 2))) (.bin .fdiv (.ix (.var 0) (.cI 1)) (.cI 1000003))) (.var 3)) .nil)) (.cI 2147483629))) (.cons (.ret (.bin .mod (.bf .int (.cons (.bin .fdiv (.bin .mod (.bf .int (.cons (.bin .add (.bin .mul (.var 4) (.cI 48271)) (.var 2)) .nil)) (.cI 2147483587)) (.cI 64)) .nil)) (.var 1))) .nil))))))
def t_1000 : Df := ⟨6, [true, false], false, f_1000⟩
def d_1000 : Dr := ⟨1000, "_law_take", defArgs (top 7), defBody (top 7), defScope (top 7), ["_law_urn", "_law_low_so", "_law_once", "_law_far", "_law_twice", "_law_drawn"], ["_law_urn", "_law_low_so"]⟩
def f_1002 : S := (.cons (.set true 2 (.or (.bf .list (.cons (.sli (.var 0) .nil (.var 1)) .nil)) (.one (.lst (.cons (.cI 0) .nil))))) (.cons (.loop (.tp (.cons (.nm 3) (.cons (.nm 4) .nil))) (.iEn (.sli (.var 0) (.var 1) (.cI 63))) (.cons (.set false 5 (.bin .mod (.bf .int (.cons (.var 3) .nil)) (.var 1))) (.cons (.sti 2 (.var 5) (.bin .add (.ix (.var 2) (.var 5)) (.bin .mul (.var 4) (.bin .add (.var 3) (.cI 2))))) .nil))) (.cons (.ret (.fz 2)) .nil)))
def t_1002 : Df := ⟨6, [false, false], false, f_1002⟩
def d_1002 : Dr := ⟨1002, "_law_cells", defArgs (top 8), defBody (top 8), defScope (top 8), ["_law_script", "_law_top", "_law_found", "_law_k", "_law_own", "_law_at_so"], ["_law_script", "_law_top"]⟩
def f_1003 : S := (.cons (.iff (.isi (.var 1) ["list", "tuple"]) (.cons (.iff (.or (.cmp .ne (.isi (.var 0) ["list"]) (.isi (.var 1) ["list"])) (.one (.cmp .ne (.isi (.var 0) ["tuple"]) (.isi (.var 1) ["tuple"])))) (.cons (.ret (.cB false)) .nil) .nil) (.cons (.ret (.and (.cmp .eq (.bf .len (.cons (.var 0) .nil)) (.bf .len (.cons (.var 1) .nil))) (.one (.bf .all (.cons (.lc [2, 3] (.tp (.cons (.nm 2) (.cons (.nm 3) .nil))) (.iZ (.var 0) (.var 1)) .nil (.call 1003 (.cons (.var 2) (.cons (.var 3) .nil)))) .nil))))) .nil)) .nil) (.cons (.iff (.or (.cmp .isN (.var 1) .cN) (.one (.isi (.var 1) ["bool", "str"]))) (.cons (.ret (.and (.cmp .eq (.var 0) (.var 1)) (.and (.cmp .eq (.isi (.var 0) ["bool"]) (.isi (.var 1) ["bool"])) (.one (.cmp .eq (.cmp .isN (.var 0) .cN) (.cmp .isN (.var 1) .cN)))))) .nil) .nil) (.cons (.ret (.and (.isi (.var 0) ["int"]) (.and (.not (.isi (.var 0) ["bool"])) (.one (.cmp .eq (.var 0) (.var 1)))))) .nil)))
def t_1003 : Df := ⟨4, [false, false], false, f_1003⟩
def d_1003 : Dr := ⟨1003, "_law_same", defArgs (top 9), defBody (top 9), defScope (top 9), ["_law_got", "_law_goal", "_law_mine_so", "_law_own"], ["_law_got", "_law_goal"]⟩
def f_1020 : S := (.cons (.ret (.bf .sum (.cons (.lc [2] (.nm 2) (.var 0) .nil (.lenR (.var 1) (.var 2))) .nil))) .nil)
def t_1020 : Df := ⟨3, [false, false], false, f_1020⟩
def d_1020 : Dr := ⟨1020, "_law_over", defArgs (top 10), defBody (top 10), defScope (top 10), ["_law_own", "_law_low_so", "_law_much"], ["_law_own", "_law_low_so"]⟩
def f_1021 : S := (.cons (.loop (.nm 2) (.iR (.cI 32)) (.cons (.iff (.cmp .gt (.call 1020 (.cons (.var 0) (.cons (.var 2) .nil))) (.call 1020 (.cons (.var 1) (.cons (.var 2) .nil)))) (.cons (.ret (.var 2)) .nil) .nil) .nil)) (.cons (.ret .cN) .nil))
def t_1021 : Df := ⟨3, [false, false], false, f_1021⟩
def d_1021 : Dr := ⟨1021, "_law_tells", defArgs (top 11), defBody (top 11), defScope (top 11), ["_law_one_so", "_law_two_so", "_law_k"], ["_law_one_so", "_law_two_so"]⟩
def f_1022 : S := (.cons (.set false 2 (.lst (.cons (.lc [5] (.nm 5) (.iR (.cI 11)) .nil (.call 1020 (.cons (.var 0) (.cons (.var 5) .nil)))) (.cons (.call 1021 (.cons (.var 0) (.cons (.var 1) .nil))) (.cons (.call 1021 (.cons (.var 1) (.cons (.var 0) .nil))) .nil))))) (.cons (.set false 3 (.lst (.cons (.lc [5] (.nm 5) (.iR (.cI 11)) .nil (.call 272 (.cons (.var 0) (.cons (.var 5) .nil)))) (.cons (.call 273 (.cons (.var 0) (.cons (.var 1) .nil))) (.cons (.call 273 (.cons (.var 1) (.cons (.var 0) .nil))) .nil))))) (.cons (.set false 4 (.lst (.cons (.lc [5] (.nm 5) (.iR (.cI 11)) .nil (.call 272 (.cons (.bf .list (.cons (.var 0) .nil)) (.cons (.var 5) .nil)))) (.cons (.call 273 (.cons (.bf .list (.cons (.var 0) .nil)) (.cons (.var 1) .nil))) .nil)))) (.cons (.ret (.call 1003 (.cons (.bin .add (.bin .add (.var 3) (.var 4)) (.lst (.cons (.call 273 (.cons (.var 1) (.cons (.bf .list (.cons (.var 0) .nil)) .nil))) .nil))) (.cons (.bin .add (.var 2) (.var 2)) .nil)))) .nil))))
def t_1022 : Df := ⟨6, [false, false], false, f_1022⟩
def d_1022 : Dr := ⟨1022, "_law_asked", defArgs (top 12), defBody (top 12), defScope (top 12), ["_law_one_so", "_law_two_so", "_law_goal", "_law_got", "_law_soft", "_law_k"], ["_law_one_so", "_law_two_so"]⟩
def f_1023 : S := (.cons (.set false 0 (.lst (.cons (.tup (.cons (.tup (.cons (.cI 1) (.cons (.cI 4) (.cons (.cI 1) .nil)))) (.cons (.tup (.cons (.cI 1) (.cons (.cI 2) (.cons (.cI 3) .nil)))) .nil))) (.cons (.tup (.cons (.tup (.cons (.cI 1) (.cons (.cI 2) (.cons (.cI 3) .nil)))) (.cons (.tup (.cons (.cI 1) (.cons (.cI 4) (.cons (.cI 1) .nil)))) .nil))) (.cons (.tup (.cons (.tup (.cons (.cI 2) (.cons (.cI 2) (.cons (.cI 2) .nil)))) (.cons (.tup (.cons (.cI 0) (.cons (.cI 3) (.cons (.cI 3) .nil)))) .nil))) (.cons (.tup (.cons (.tup .nil) (.cons (.tup .nil) .nil))) (.cons (.tup (.cons (.tup (.cons (.cI 5) .nil)) (.cons (.tup (.cons (.cI 5) .nil)) .nil))) .nil))))))) (.cons (.set false 0 (.bin .add (.var 0) (.lst (.cons (.tup (.cons (.tup (.cons (.cI 0) (.cons (.cI 4) .nil))) (.cons (.tup (.cons (.cI 2) (.cons (.cI 2) .nil))) .nil))) (.cons (.tup (.cons (.tup (.cons (.cI 3) (.cons (.cI 1) .nil))) (.cons (.tup (.cons (.cI 1) (.cons (.cI 3) .nil))) .nil))) .nil))))) (.cons (.set false 0 (.bin .add (.var 0) (.lst (.cons (.tup (.cons (.tup (.cons (.cI 0) (.cons (.cI 0) (.cons (.cI 9) .nil)))) (.cons (.tup (.cons (.cI 0) (.cons (.cI 1) (.cons (.cI 8) .nil)))) .nil))) (.cons (.tup (.cons (.tup (.cons (.cI 1) (.cons (.cI 1) (.cons (.cI 7) .nil)))) (.cons (.tup (.cons (.cI 0) (.cons (.cI 4) (.cons (.cI 5) .nil)))) .nil))) (.cons (.tup (.cons (.tup (.cons (.cI 0) (.cons (.cI 4) (.cons (.cI 5) .nil)))) (.cons (.tup (.cons (.cI 1) (.cons (.cI 1) (.cons (.cI 7) .nil)))) .nil))) .nil)))))) (.cons (.set false 0 (.bin .add (.var 0) (.lst (.cons (.tup (.cons (.tup (.cons (.cI 0) (.cons (.cI 5) (.cons (.cI 5) (.cons (.cI 5) .nil))))) (.cons (.tup (.cons (.cI 3) (.cons (.cI 3) (.cons (.cI 3) (.cons (.cI 6) .nil))))) .nil))) (.cons (.tup (.cons (.tup (.cons (.cI 3) (.cons (.cI 3) (.cons (.cI 3) (.cons (.cI 6) .nil))))) (.cons (.tup (.cons (.cI 0) (.cons (.cI 5) (.cons (.cI 5) (.cons (.cI 5) .nil))))) .nil))) .nil))))) (.cons (.set false 1 (.lc [4] (.nm 4) (.var 0) .nil (.call 273 (.cons (.ix (.var 4) (.cI 0)) (.cons (.ix (.var 4) (.cI 1)) .nil))))) (.cons (.set false 2 (.lst (.cons (.cI 2) (.cons .cN (.cons .cN (.cons .cN (.cons .cN (.cons (.cI 1) (.cons .cN (.cons (.cI 1) (.cons (.cI 3) (.cons (.cI 1) (.cons (.cI 1) (.cons (.cI 5) .nil)))))))))))))) (.cons (.set false 3 (.bin .pow (.cI 10) (.cI 30))) (.cons (.set false 1 (.bin .add (.var 1) (.lst (.cons (.call 273 (.cons (.tup (.cons (.var 3) (.cons (.cI 0) .nil))) (.cons (.tup (.cons (.bin .fdiv (.var 3) (.cI 2)) (.cons (.bin .fdiv (.var 3) (.cI 2)) .nil))) .nil))) (.cons (.call 273 (.cons (.tup (.cons (.bin .sub (.var 3) (.cI 1)) (.cons (.cI 1) .nil))) (.cons (.tup (.cons (.var 3) (.cons (.cI 0) .nil))) .nil))) .nil))))) (.cons (.set false 1 (.bin .add (.var 1) (.lst (.cons (.call 273 (.cons (.tup (.cons (.var 3) (.cons (.cI 0) .nil))) (.cons (.tup (.cons (.bin .sub (.var 3) (.cI 1)) (.cons (.cI 1) .nil))) .nil))) .nil)))) (.cons (.set false 2 (.bin .add (.var 2) (.lst (.cons (.cI 1) (.cons .cN (.cons (.cI 1) .nil)))))) (.cons (.set false 1 (.bin .add (.var 1) (.lst (.cons (.call 273 (.cons (.tup (.cons (.bin .sub (.var 3) (.cI 4)) (.cons (.bin .sub (.var 3) (.cI 4)) (.cons (.cI 0) (.cons (.cI 4) .nil))))) (.cons (.tup (.cons (.var 3) (.cons (.bin .sub (.var 3) (.cI 8)) (.cons (.cI 2) (.cons (.cI 2) .nil))))) .nil))) .nil)))) (.cons (.set false 1 (.bin .add (.var 1) (.lst (.cons (.call 273 (.cons (.tup (.cons (.var 3) (.cons (.bin .sub (.var 3) (.cI 8)) (.cons (.cI 2) (.cons (.cI 2) .nil))))) (.cons (.tup (.cons (.bin .sub (.var 3) (.cI 4)) (.cons (.bin .sub (.var 3) (.cI 4)) (.cons (.cI 0) (.cons (.cI 4) .nil))))) .nil))) .nil)))) (.cons (.set false 2 (.bin .add (.var 2) (.lst (.cons (.cI 1) (.cons (.bin .sub (.var 3) (.cI 7)) .nil))))) (.cons (.set false 1 (.bin .add (.var 1) (.lst (.cons (.call 272 (.cons (.tup (.cons (.cI 1) (.cons (.cI 4) (.cons (.cI 1) .nil)))) (.cons (.cI 2) .nil))) (.cons (.call 272 (.cons (.tup .nil) (.cons (.cI 0) .nil))) (.cons (.call 272 (.cons (.tup (.cons (.var 3) (.cons (.cI 3) .nil))) (.cons (.cI 1) .nil))) (.cons (.call 272 (.cons (.tup (.cons (.var 3) (.cons (.cI 3) .nil))) (.cons (.var 3) .nil))) .nil))))))) (.cons (.set false 1 (.bin .add (.var 1) (.lst (.cons (.callk 272 1 (.cons (.cI 0) (.cons (.lst (.cons (.cI 2) (.cons (.cI 3) .nil))) .nil))) (.cons (.callk 273 0 (.cons (.lst (.cons (.cI 1) (.cons (.cI 1) .nil))) (.cons (.lst (.cons (.cI 0) (.cons (.cI 2) .nil))) .nil))) .nil))))) (.cons (.ret (.call 1003 (.cons (.var 1) (.cons (.bin .add (.var 2) (.lst (.cons (.cI 2) (.cons (.cI 0) (.cons (.bin .add (.var 3) (.cI 1)) (.cons (.cI 0) (.cons (.cI 5) (.cons (.cI 1) .nil)))))))) .nil)))) .nil))))))))))))))))
def t_1023 : Df := ⟨5, [], false, f_1023⟩
def d_1023 : Dr := ⟨1023, "_law_by_hand_right", defArgs (top 13), defBody (top 13), defScope (top 13), ["_law_rows", "_law_got", "_law_goal", "_law_far", "_law_own"], []⟩
def f_1024 : S := (.cons (.loop (.nm 1) (.iR (.cI 5)) (.cons (.set false 2 (.lc [6] (.nm 6) (.iR (.bin .add (.cI 1) (.call 1000 (.cons (.var 0) (.cons (.cI 5) .nil))))) .nil (.call 1000 (.cons (.var 0) (.cons (.cI 7) .nil))))) (.cons (.set true 3 (.bf .list (.cons (.var 2) .nil))) (.cons (.loop (.nm 4) (.iR (.call 1000 (.cons (.var 0) (.cons (.cI 5) .nil)))) (.cons (.par [(false, 7), (false, 8)] (.cons (.call 1000 (.cons (.var 0) (.cons (.bf .len (.cons (.var 3) .nil)) .nil))) (.cons (.call 1000 (.cons (.var 0) (.cons (.bf .len (.cons (.var 3) .nil)) .nil))) .nil))) (.cons (.set false 5 (.call 1000 (.cons (.var 0) (.cons (.bin .add (.ix (.var 3) (.var 7)) (.cI 1)) .nil)))) (.cons (.sti 3 (.var 7) (.bin .sub (.ix (.var 3) (.var 7)) (.var 5))) (.cons (.sti 3 (.var 8) (.bin .add (.ix (.var 3) (.var 8)) (.var 5))) .nil))))) (.cons (.iff (.not (.call 1022 (.cons (.bf .tuple (.cons (.var 2) .nil)) (.cons (.bf .tuple (.cons (.var 3) .nil)) .nil)))) (.cons (.ret (.cB false)) .nil) .nil) .nil))))) (.cons (.ret (.cB true)) .nil))
def t_1024 : Df := ⟨9, [true], false, f_1024⟩
def d_1024 : Dr := ⟨1024, "_law_right", defArgs (top 14), defBody (top 14), defScope (top 14), ["_law_urn", "_law_lap_so", "_law_one_so", "_law_two_so", "_law_lap", "_law_much", "_law_k", "_law_near", "_law_far"], ["_law_urn"]⟩
def f_1008 : S := (.cons (.set false 1 (.call 1002 (.cons (.var 0) (.cons (.cI 3) .nil)))) (.cons (.ret (.and (.call 1023 .nil) (.one (.bf .all (.cons (.lc [2] (.nm 2) (.iR (.bf .len (.cons (.var 1) .nil))) .nil (.call 1024 (.cons (.call 1001 (.cons (.var 1) (.cons (.var 2) .nil))) .nil))) .nil))))) .nil))
def t_1008 : Df := ⟨3, [false], false, f_1008⟩
def d_1008 : Dr := ⟨1008, "law", defArgs (top 15), defBody (top 15), defScope (top 15), ["_law_script", "_law_rows", "_law_k"], ["_law_script"]⟩
def T (i : Nat) : Df := (bif Nat.ble i 1002 then (bif Nat.ble i 273 then (bif Nat.ble i 189 then t_189 else (bif Nat.ble i 272 then t_272 else t_273)) else (bif Nat.ble i 1000 then t_1000 else (bif Nat.ble i 1001 then t_1001 else t_1002))) else (bif Nat.ble i 1020 then (bif Nat.ble i 1003 then t_1003 else (bif Nat.ble i 1008 then t_1008 else t_1020)) else (bif Nat.ble i 1022 then (bif Nat.ble i 1021 then t_1021 else t_1022) else (bif Nat.ble i 1023 then t_1023 else t_1024))))
def drs : List Dr := [d_189, d_272, d_273, d_1001, d_1000, d_1002, d_1003, d_1020, d_1021, d_1022, d_1023, d_1024, d_1008]
def kqs : List Kq := [⟨273, 0, ["other", "one"], [1, 0]⟩, ⟨272, 0, ["level", "one"], [1, 0]⟩]
def kq (i : Nat) : Kq := kqs.getD i ⟨0, 1, [], []⟩
def cN : List (Str × D) := []
theorem drs_ok : drs.all (Dr.ok (fNof drs) cN kq T) = true := by decide +kernel
noncomputable abbrev G (n : Nat) : Nat → Fn := Gam T kq n
/-! how the defs bind -/
theorem bnds : ∀ d ∈ drs, BndP d := by
  intro d hd
  simp only [drs, List.mem_cons, List.not_mem_nil, or_false] at hd
  rcases hd with rfl | rfl | rfl | rfl | rfl | rfl | rfl | rfl | rfl | rfl | rfl | rfl | rfl
  · exact fun _ _ _ _ _ _ us hl => match us, hl with | [_], _ => rfl
  · exact fun _ _ _ _ _ _ us hl => match us, hl with | [_, _], _ => rfl
  · exact fun _ _ _ _ _ _ us hl => match us, hl with | [_, _], _ => rfl
  · exact fun _ _ _ _ _ _ us hl => match us, hl with | [_, _], _ => rfl
  · exact fun _ _ _ _ _ _ us hl => match us, hl with | [_, _], _ => rfl
  · exact fun _ _ _ _ _ _ us hl => match us, hl with | [_, _], _ => rfl
  · exact fun _ _ _ _ _ _ us hl => match us, hl with | [_, _], _ => rfl
  · exact fun _ _ _ _ _ _ us hl => match us, hl with | [_, _], _ => rfl
  · exact fun _ _ _ _ _ _ us hl => match us, hl with | [_, _], _ => rfl
  · exact fun _ _ _ _ _ _ us hl => match us, hl with | [_, _], _ => rfl
  · exact fun _ _ _ _ _ _ us hl => match us, hl with | [], _ => rfl
  · exact fun _ _ _ _ _ _ us hl => match us, hl with | [_], _ => rfl
  · exact fun _ _ _ _ _ _ us hl => match us, hl with | [_], _ => rfl
theorem bndk : ∀ q, (kq q).np = 0 → (kq q).pm.Nodup → ∀ d ∈ drs, d.id = (kq q).f → BndK d (kq q) := by
  intro q h0 hn d hd he
  match q, h0, hn, he with
  | 0, _, _, he =>
    have hd : d = d_273 := by
      simp only [drs, List.mem_cons, List.not_mem_nil, or_false] at hd
      rcases hd with rfl | rfl | rfl | rfl | rfl | rfl | rfl | rfl | rfl | rfl | rfl | rfl | rfl <;> first | rfl | exact absurd he (by decide)
    subst hd; exact fun _ _ _ _ _ _ us hl => match us, hl with | [_, _], _ => rfl
  | 1, _, _, he =>
    have hd : d = d_272 := by
      simp only [drs, List.mem_cons, List.not_mem_nil, or_false] at hd
      rcases hd with rfl | rfl | rfl | rfl | rfl | rfl | rfl | rfl | rfl | rfl | rfl | rfl | rfl <;> first | rfl | exact absurd he (by decide)
    subst hd; exact fun _ _ _ _ _ _ us hl => match us, hl with | [_, _], _ => rfl
  | q + 2, h0, _, _ => cases h0
/-! the head -/
def fa : List He.Fa := drs.map (fun d => He.Fa.glo d.x) ++ bNs.map He.Fa.free
abbrev R0 : PySem.W.OpenRow := PySem.W.OpenLaw.row PySem.Challenge.rw_freightrights_k39_levels_and_what_is_ove
def fn : List He.DefD := drs.map Dr.de
abbrev hk : PySem.W.Hook := He.hookD 4 fa fn
def ob (s : PySem.W.SharedT) : He.AlD := He.obsDG 4 fa fn (HandSHeadRun.getT s)
theorem ob_eq (s : PySem.W.SharedT) : ob s = hk.obs s.abs := He.obsDG_eq (HandSHeadRun.getT_eq s)
def loose : List PySem.Str := drs.dropLast.map (·.x)
theorem run (w : World) : HandSHeadRun.RunEq R0 (PySem.W.view R0.prog [15]) hk ob 1000 loose w := by
  intro os
  kernel_rfl
abbrev Cc (K : PySem.W.Frag) : Cq := ⟨K, fun _ _ _ _ => False, fun _ _ _ _ _ => False, []⟩
theorem facts (n : Nat) {K : PySem.W.Frag} {h : Heap} {mg : Str → Option Value} {f : Addr} (X : K.In h) (Gl : h.Ns mainGlobals mg) (hfa : mg ("law" : Str) = some (.ref f)) (c : He.SaysD fa fn K) :
    ∃ fd : FuncData, (∀ (s : Shared) (v : Value), BindsTo s fd ⟨[v], []⟩ [("_law_script", v)]) ∧ ∀ (P : Program) (w : World) (base : Heap), FnOk P w K mg base (L2.CX P w) (n + 1) f fd ["_law_script"] (spF (Cc K) (G (n + 1) 1008)) := by
  obtain ⟨e, fd, hb, hF⟩ := one_ok' (T := T) (cN := cN) (C := Cc K) (drs := drs) (kq := kq) X Gl c
    (fun d hd => List.mem_append_left _ (List.mem_map_of_mem (f := fun d : Dr => He.Fa.glo d.x) hd)) (fun x hx => List.mem_append_right _ (List.mem_map_of_mem hx)) (fun x d hx => by cases hx) drs_ok bnds bndk (d := d_1008) (by simp [drs])
  have e : mg ("law" : Str) = some (.ref (He.ga K "law")) := e
  rw [hfa] at e
  cases e
  exact ⟨fd, fun s v => hb s [v] rfl, fun P w base => hF P w base n⟩
end K39
open PySem PySem.W PySem.Calls PyProof.Rows
theorem k39_of (n : Nat) (hn : n + 1 ≤ 150) (pure_ok : ∀ ns : List Int, ns.length ≤ 63 → (K39.G (n + 1) 1008).run [.scr ns] = .ok (.bl true) []) : PySem.Challenge.rw_freightrights_k39_levels_and_what_is_ove.Holds := by
  w_on; o_law
  refine HandSHeadRun.head_any (r := OpenLaw.row PySem.Challenge.rw_freightrights_k39_levels_and_what_is_ove) (q := view (OpenLaw.row PySem.Challenge.rw_freightrights_k39_levels_and_what_is_ove).prog [15]) (H := K39.hk) (ob := K39.ob) (M := 1000) (loose := K39.loose) (d := HandSHeadRun.topDef (OpenLaw.row PySem.Challenge.rw_freightrights_k39_levels_and_what_is_ove).prog 15) (kwd := []) K39.ob_eq
    (by kernel_rfl) (fun s => by kernel_rfl) K39.run (by kernel_rfl) (by kernel_rfl) (by kernel_rfl) (by rfl) (by first | assumption | decide +kernel) (by decide +kernel) ⟨rfl, rfl, rfl, rfl, rfl, by decide +kernel⟩ ?hw ?hc
  case hw => w_witness2
  case hc =>
    refine L2.walk_ofE (l := PySem.Challenge.rw_freightrights_k39_levels_and_what_is_ove) (n := 63) (k := n + 1) (x := "_law_script") (CX := FR.CXw (PySem.Challenge.rw_freightrights_k39_levels_and_what_is_ove).prog) rfl (by decide) (by kernel_rfl) (L2.Room.mono (k := 150) ⟨rfl, by decide, by decide +kernel⟩ hn) ?F (fun _ _ _ _ z => FR.cxw_none z)
    intro w mg fa h Y G hmg0
    obtain ⟨K, KX, c⟩ := Y
    have hmg : mg ("law" : PySem.Str) = some (.ref fa) := by
      have e : (HandSHeadRun.topDef (OpenLaw.row PySem.Challenge.rw_freightrights_k39_levels_and_what_is_ove).prog 15).name = ("law" : PySem.Str) := by kernel_rfl
      rw [← e]
      exact hmg0
    obtain ⟨fd, hb, hF⟩ := K39.facts n KX G hmg c
    exact ⟨K, fd, FR.spF (K39.Cc K) (K39.G (n + 1) 1008), KX, hb, fun H a ns hl _ hS => FR.law_sp (C := K39.Cc K) (d := FR.df0) (by rw [FR.Gam_succ]; rfl) (by rw [FR.Gam_succ]; rfl) hS (pure_ok ns hl), fun base _ _ => FR.FnOk.cx (hF _ w base) fun _ _ _ _ _ _ z => ⟨w, z⟩⟩
set_option Elab.async false
set_option linter.all false
set_option autoImplicit false
set_option maxRecDepth 100000
set_option maxHeartbeats 0
namespace K39
open PySem PySem.Spec PyProof.Rows L2 FR
theorem sumD_ints (ns : List Int) : sumD [.lst (ns.map D.int)] = some (.dat (.int ns.sum)) := by
  simp only [sumD, intsOf_map]; rfl
/-! over -/
theorem over_run (n : Nat) (xs : List Int) (l : Int) (hx : xs.length ≤ 1000) (d : D) (hd : itemsD d = some (xs.map D.int)) : (G (n + 1) 272).run [d, .int l] = .ok (.int (overI xs l)) [] := by
  have e : (G (n + 1) 272).run [d, .int l] = endF [false, false] false (semS (G n) kq false f_272 [.val d, .val (.int l), .un]) := Gam_run _ rfl _
  rw [e, f_272]
  have key : lcLoop [2] (.nm 2) (nxF (sem (G n) kq .nil).t) (nxF (sem (G n) kq (.bf .max (.cons (.cI 0) (.cons (.bin .sub (.var 2) (.var 1)) .nil)))).v) (xs.map D.int) [] [.val d, .val (.int l), .un] = .ok ((xs.map fun x => if x - l > 0 then x - l else 0).map D.int, [.val d, .val (.int l), .un]) := by
    rw [lc_eq D.int (fun x => some (.int (if x - l > 0 then x - l else 0)))]
    · simp [List.map_map, Function.comp_def]
    · intro x _
      refine ⟨_, rfl, .inl ⟨_, .dat (.int (if x - l > 0 then x - l else 0)), [.val d, .val (.int l), .val (.int x)], _, rfl, ?_, rfl, rfl, ?_⟩⟩
      · simp [nxF_eq, Bop.run, subD, Bf.run, maxD]
      · simp [wipeE]
  have hz : xs.length ≤ 16777216 := by omega
  simp [hd, hz, wipeE, key, Bf.run, sumD_ints, overI, -List.map_map]
/-! telling_level -/
def optD : Option Int → D
  | none => .non
  | some l => .int l
theorem cnt_run {Γ : Nat → Fn} (xs : List Int) (hx : xs.length ≤ 1000) (i : Nat) (env : En) (d : D) (low : Int) (he : env.length = 8) (h7 : env[7]? = some .un) (hi : env[i]? = some (.val d)) (h3 : env[3]? = some (.val (.int low))) (hd : itemsD d = some (xs.map D.int)) :
    (sem Γ kq (.bf .len (.cons (.lc [7] (.nm 7) (.var i) (.cmp .gt (.var 7) (.var 3)) (.var 7)) .nil))).v env = .ok (.dat (.int (cntI xs low)), env) := by
  obtain ⟨s0, s1, s2, s3, s4, s5, s6, s7, rfl⟩ : ∃ s0 s1 s2 s3 s4 s5 s6 s7, env = [s0, s1, s2, s3, s4, s5, s6, s7] := by
    match env, he with
    | [s0, s1, s2, s3, s4, s5, s6, s7], _ => exact ⟨_, _, _, _, _, _, _, _, rfl⟩
  cases (show s7 = Slot.un by simpa using h7)
  cases (show s3 = Slot.val (.int low) by simpa using h3)
  have key : lcLoop [7] (.nm 7) (nxF (sem Γ kq (.cmp .gt (.var 7) (.var 3))).t) (nxF (sem Γ kq (.var 7)).v) (xs.map D.int) [] [s0, s1, s2, .val (.int low), s4, s5, s6, .un] = .ok ((xs.filter fun x => decide (low < x)).map D.int, [s0, s1, s2, .val (.int low), s4, s5, s6, .un]) := by
    rw [lc_eq D.int (fun x => if low < x then some (.int x) else none)]
    · rw [List.nil_append]
      congr 2
      clear hx hd
      induction xs with
      | nil => rfl
      | cons x xs ih =>
        rw [List.filterMap_cons, List.filter_cons]
        by_cases q : low < x
        · simp [q, ih]
        · simp [q, ih]
    · intro x _
      refine ⟨_, rfl, ?_⟩
      by_cases q : low < x
      · refine .inl ⟨[s0, s1, s2, .val (.int low), s4, s5, s6, .val (.int x)], .dat (.int x), [s0, s1, s2, .val (.int low), s4, s5, s6, .val (.int x)], _, ?_, ?_, rfl, by simp [q], by simp [wipeE]⟩
        · simp [nxF_eq, Cop.run, ltD, q]
        · simp [nxF_eq]
      · refine .inr ⟨[s0, s1, s2, .val (.int low), s4, s5, s6, .val (.int x)], ?_, by simp [q], by simp [wipeE]⟩
        simp [nxF_eq, Cop.run, ltD, q]
  have hz : xs.length ≤ 16777216 := by omega
  simp [hi, hd, hz, wipeE, key, Bf.run, lenDs, lenD, cntI, unwipe]
theorem telling_run (n : Nat) (xs ys : List Int) (hx : xs.length ≤ 30) (hy : ys.length ≤ 30) (x0 : ∀ x ∈ xs, 0 ≤ x) (y0 : ∀ x ∈ ys, 0 ≤ x) (hs : xs.sum ≤ ys.sum) (d e : D) (hd : itemsD d = some (xs.map D.int)) (he : itemsD e = some (ys.map D.int)) :
    ∃ o, (G (n + 2) 273).run [d, e] = .ok (optD o) [] ∧ Tell xs ys o := by
  have e0 : (G (n + 2) 273).run [d, e] = endF [false, false] false (semS (G (n + 1)) kq false f_273 [.val d, .val e, .un, .un, .un, .un, .un, .un]) := Gam_run _ rfl _
  rw [e0, f_273]
  have set_run : ∀ zs : List Int, zs.length < 64 → (G (n + 1) 189).run [.lst (zs.map D.int)] = .ok (.tup ((setI zs).map D.int)) [] := by
    intro zs hz
    have e : (G (n + 1) 189).run [.lst (zs.map D.int)] = endF [false] false (semS (G n) kq false f_189 [.val (.lst (zs.map D.int))]) := Gam_run _ rfl _
    rw [e, f_189]
    simp [setofS, hz, intsOf_map]
  have t189 : (T 189).md = [false] ∧ (T 189).ro = false := ⟨rfl, rfl⟩
  have t272 : (T 272).md = [false, false] ∧ (T 272).ro = false := ⟨rfl, rfl⟩
  generalize hE : setI (0 :: (xs ++ ys)) = E
  have E1 : E.Pairwise (· < ·) := by rw [← hE]; exact setI_lt _
  have E2 : ∀ k, k ∈ E ↔ k = 0 ∨ k ∈ xs ∨ k ∈ ys := by intro k; rw [← hE, mem_setI]; simp
  have sr := set_run (0 :: (xs ++ ys)) (by simp; omega)
  rw [hE] at sr
  have start : semS (G (n + 1)) kq false (.set false 2 (.call 189 (.cons (.lst (.cons (.cI 0) (.star (.var 0) (.star (.var 1) .nil)))) .nil))) [.val d, .val e, .un, .un, .un, .un, .un, .un] = .ok (.nx, [.val d, .val e, .val (.tup (E.map D.int)), .un, .un, .un, .un, .un]) := by
    have hz : xs.length + ys.length + 1 ≤ 16777216 := by omega
    have st : stabs (List.map Ld.dat (xs.map D.int) ++ List.map Ld.dat (ys.map D.int)) = some (xs.map D.int ++ ys.map D.int) := by
      have : ∀ l : List D, stabs (l.map Ld.dat) = some l := fun l => by
        induction l with
        | nil => rfl
        | cons a l ih => simp [ih]
      rw [← List.map_append, this]
    have st2 : stabs (.dat (.int 0) :: (List.map Ld.dat (xs.map D.int) ++ List.map Ld.dat (ys.map D.int))) = some (((0 : Int) :: (xs ++ ys)).map D.int) := by
      rw [stabs_cons, st]; simp
    have hz2 : (((0 : Int) :: (xs ++ ys)).map D.int).length ≤ 16777216 := by simp; omega
    have i0 : varS 0 [.val d, .val e, .un, .un, .un, .un, .un, .un] = .ok (.dat d, [.val d, .val e, .un, .un, .un, .un, .un, .un]) := rfl
    have i1 : varS 1 [.val d, .val e, .un, .un, .un, .un, .un, .un] = .ok (.dat e, [.val d, .val e, .un, .un, .un, .un, .un, .un]) := rfl
    simp only [q_set, FR.v_call, a_cons, FR.v_lst, v_cI, R.bind_ok, kCons_eq, a_star, FR.v_var, i0, i1, kStar_eq, stab_dat, hd, he, a_nil, List.append_nil, kConsB_eq, cont_dat, kLst_eq, st2, FR.sizeLine_eq, hz2, if_true]
    simp only [R.bind_ok, kCons_eq, a_nil, kConsB_eq, cont_frs, kCall_eq, doCall_eq, Gam_md, Gam_ro, t189, argsD_f, stab_frs, argsD_nil, Option.bind_some, Option.map_some, cels_f, cels_nil, sr, setOuts_f, setOuts_nil]
    simp
  have lo : ∀ l, (G (n + 1) 272).run [d, .int l] = .ok (.int (overI xs l)) [] := fun l => over_run n xs l (by omega) d hd
  have lo2 : ∀ l, (G (n + 1) 272).run [e, .int l] = .ok (.int (overI ys l)) [] := fun l => over_run n ys l (by omega) e he
  have go : Ok (semS (G (n + 1)) kq false (.loop (.tp (.cons (.nm 3) (.cons (.nm 4) .nil))) (.iZ (.var 2) (.sli (.var 2) (.cI 1) .nil)) (.cons (.set false 5 (.bin .sub (.call 272 (.cons (.var 0) (.cons (.var 3) .nil))) (.call 272 (.cons (.var 1) (.cons (.var 3) .nil))))) (.cons (.set false 6 (.bin .sub (.bf .len (.cons (.lc [7] (.nm 7) (.var 1) (.cmp .gt (.var 7) (.var 3)) (.var 7)) .nil)) (.bf .len (.cons (.lc [7] (.nm 7) (.var 0) (.cmp .gt (.var 7) (.var 3)) (.var 7)) .nil)))) (.cons (.iff (.cmp .gt (.bin .add (.var 5) (.bin .mul (.var 6) (.bin .sub (.var 4) (.var 3)))) (.cI 0)) (.cons (.ret (.bin .add (.bin .add (.var 3) (.bin .fdiv (.bin .sub (.cI 0) (.var 5)) (.var 6))) (.cI 1))) .nil) .nil) .nil)))) [.val d, .val e, .val (.tup (E.map D.int)), .un, .un, .un, .un, .un])
      fun p => (p.1 = .nx ∧ p.2.length = 8 ∧ Tell xs ys none) ∨ ∃ l, p.1 = .rt (.dat (.int l)) ∧ Tell xs ys (some l) := by
    have hi : (sem (G (n + 1)) kq (.iZ (.var 2) (.sli (.var 2) (.cI 1) .nil))).i [.val d, .val e, .val (.tup (E.map D.int)), .un, .un, .un, .un, .un] = .ok (((E.zip (E.drop 1)).map fun p => D.tup [.int p.1, .int p.2]), [.val d, .val e, .val (.tup (E.map D.int)), .un, .un, .un, .un, .un]) := by
      simp [zipS, consA, FR.E.isNil, sliD, zipD]
      rw [← List.map_tail, List.zip_map, List.map_map]
      rfl
    have h0E : E[0]? = some 0 := by
      have z : (0 : Int) ∈ E := (E2 0).mpr (.inl rfl)
      cases E with
      | nil => simp at z
      | cons a r =>
        rcases List.mem_cons.mp z with z | z
        · simp [z]
        · have := (List.pairwise_cons.mp E1).1 0 z
          rcases (E2 a).mp List.mem_cons_self with q | q | q
          · omega
          · have := x0 a q; omega
          · have := y0 a q; omega
    rw [q_loop, hi, R.bind_ok, kFor_eq]
    refine forL_ok _ (fun i env => (∃ a1 a2 a3 a4, env = [.val d, .val e, .val (.tup (E.map D.int)), a1, a2, a3, a4, .un]) ∧ ∃ a, E[i]? = some a ∧ 0 ≤ a ∧ ∀ k, 0 ≤ k → k ≤ a → overI xs k ≤ overI ys k) _ ⟨⟨_, _, _, _, rfl⟩, 0, h0E, Int.le_refl _, fun k k1 k2 => ?_⟩ ?_ ?_
    · rw [show k = 0 by omega, over_zero x0, over_zero y0]; exact hs
    · rintro i dd env hdd ⟨⟨a1, a2, a3, a4, rfl⟩, a, ha, ha0, hk⟩
      rw [List.getElem?_map, Option.map_eq_some_iff] at hdd
      obtain ⟨⟨a', b⟩, hab, rfl⟩ := hdd
      rw [List.getElem?_zip_eq_some] at hab
      obtain ⟨q1, q2⟩ := hab
      have q9 := Option.some.inj (ha.symm.trans q1)
      subst q9
      rw [List.getElem?_drop, Nat.add_comm] at q2
      have hlt : a < b := by
        have i1 := (List.getElem?_eq_some_iff.mp q1)
        have i2 := (List.getElem?_eq_some_iff.mp q2)
        obtain ⟨i1, rfl⟩ := i1
        obtain ⟨i2, rfl⟩ := i2
        exact List.pairwise_iff_getElem.mp E1 i (i + 1) i1 i2 (by omega)
      have nb : ∀ x ∈ E, x ≤ a ∨ b ≤ x := by
        intro x hx
        obtain ⟨j, hj, rfl⟩ := List.getElem_of_mem hx
        obtain ⟨i1, rfl⟩ := (List.getElem?_eq_some_iff.mp q1)
        obtain ⟨i2, rfl⟩ := (List.getElem?_eq_some_iff.mp q2)
        rcases Nat.lt_trichotomy j i with z | z | z
        · exact .inl (Int.le_of_lt (List.pairwise_iff_getElem.mp E1 j i hj i1 z))
        · subst z; exact .inl (Int.le_refl _)
        · rcases Nat.lt_or_ge (i + 1) j with z2 | z2
          · exact .inr (Int.le_of_lt (List.pairwise_iff_getElem.mp E1 (i + 1) j i2 hj z2))
          · have : j = i + 1 := by omega
            subst this; exact .inr (Int.le_refl _)
      have st := stretch (xs := xs) (ys := ys) hlt (fun x hx => nb x ((E2 x).mpr (.inr (.inl hx)))) (fun x hx => nb x ((E2 x).mpr (.inr (.inr hx)))) (hk a ha0 (Int.le_refl _))
      simp only at st
      generalize hA : overI xs a - overI ys a = ahead at st
      generalize hS : cntI ys a - cntI xs a = steps at st
      have hc1 := cnt_le xs a
      have hc2 := cnt_le ys a
      have m1 : CMul steps (b - a) := .inl ⟨by omega, by omega⟩
      have c1 := cnt_run (Γ := G (n + 1)) ys (by omega) 1 [.val d, .val e, .val (.tup (E.map D.int)), .val (.int a), .val (.int b), .val (.int ahead), a4, .un] e a rfl rfl rfl rfl he
      have c2 := cnt_run (Γ := G (n + 1)) xs (by omega) 0 [.val d, .val e, .val (.tup (E.map D.int)), .val (.int a), .val (.int b), .val (.int ahead), a4, .un] d a rfl rfl rfl rfl hd
      refine ⟨[.val d, .val e, .val (.tup (E.map D.int)), .val (.int a), .val (.int b), a3, a4, .un], rfl, ?_⟩
      rw [q_cons]
      have s1 : semS (G (n + 1)) kq false (.set false 5 (.bin .sub (.call 272 (.cons (.var 0) (.cons (.var 3) .nil))) (.call 272 (.cons (.var 1) (.cons (.var 3) .nil))))) [.val d, .val e, .val (.tup (E.map D.int)), .val (.int a), .val (.int b), a3, a4, .un] = .ok (.nx, [.val d, .val e, .val (.tup (E.map D.int)), .val (.int a), .val (.int b), .val (.int ahead), a4, .un]) := by
        simp [t272, lo, lo2, Bop.run, subD, hA]
      have s2 : semS (G (n + 1)) kq false (.set false 6 (.bin .sub (.bf .len (.cons (.lc [7] (.nm 7) (.var 1) (.cmp .gt (.var 7) (.var 3)) (.var 7)) .nil)) (.bf .len (.cons (.lc [7] (.nm 7) (.var 0) (.cmp .gt (.var 7) (.var 3)) (.var 7)) .nil)))) [.val d, .val e, .val (.tup (E.map D.int)), .val (.int a), .val (.int b), .val (.int ahead), a4, .un] = .ok (.nx, [.val d, .val e, .val (.tup (E.map D.int)), .val (.int a), .val (.int b), .val (.int ahead), .val (.int steps), .un]) := by
        rw [q_set, v_bin, c1, R.bind_ok, kM2_eq, c2]
        simp [Bop.run, subD, hS]
      rw [s1, R.bind_ok, kSeq_nx, q_cons, s2, R.bind_ok, kSeq_nx]
      by_cases q : ahead + steps * (b - a) > 0
      · obtain ⟨r1, r2, r3, r4⟩ := st.1 q
        have m2 : CDivW (0 - ahead) steps := cdiv_ok r1 (by omega)
        refine ⟨(.rt (.dat (.int (a + (0 - ahead) / steps + 1))), [.val d, .val e, .val (.tup (E.map D.int)), .val (.int a), .val (.int b), .val (.int ahead), .val (.int steps), .un]), ?_, .inr ⟨_, rfl, by omega, r3, fun k k1 k2 => ?_⟩⟩
        · have q' : 0 < ahead + steps * (b - a) := q
          have m2' : CDivW (-ahead) steps := by rw [← Int.zero_sub]; exact m2
          simp [Bop.run, subD, addD, mulD, m1, Cop.run, ltD, q', fdivD, m2']
        · by_cases z : k ≤ a
          · exact hk k k1 z
          · exact r4 k (by omega) k2
      · have r := st.2 q
        refine ⟨(.nx, [.val d, .val e, .val (.tup (E.map D.int)), .val (.int a), .val (.int b), .val (.int ahead), .val (.int steps), .un]), ?_, ⟨_, _, _, _, rfl⟩, b, by rw [q2], by omega, fun k k1 k2 => ?_⟩
        · have q' : ¬ 0 < ahead + steps * (b - a) := q
          simp [Bop.run, subD, addD, mulD, m1, Cop.run, ltD, q']
        · by_cases z : k ≤ a
          · exact hk k k1 z
          · exact r k (by omega) k2
    · rintro env ⟨⟨a1, a2, a3, a4, rfl⟩, a, ha, ha0, hk⟩
      refine .inl ⟨rfl, rfl, fun l l0 => ?_⟩
      by_cases z : l ≤ a
      · exact hk l l0 z
      · have last : ∀ x ∈ E, x ≤ a := by
          intro x hx
          obtain ⟨j, hj, rfl⟩ := List.getElem_of_mem hx
          obtain ⟨i1, rfl⟩ := (List.getElem?_eq_some_iff.mp ha)
          simp only [List.length_map, List.length_zip, List.length_drop] at i1 ⊢
          rcases Nat.lt_or_ge j (min E.length (E.length - 1)) with w | w
          · exact Int.le_of_lt (List.pairwise_iff_getElem.mp E1 j _ hj i1 w)
          · have : j = min E.length (E.length - 1) := by omega
            subst this; exact Int.le_refl _
        rw [over_top (fun x hx => last x ((E2 x).mpr (.inr (.inl hx)))) l (by omega), over_top (fun x hx => last x ((E2 x).mpr (.inr (.inr hx)))) l (by omega)]
        exact Int.le_refl _
  rw [q_cons, start, R.bind_ok, kSeq_nx, q_cons]
  obtain ⟨⟨k, e2⟩, g1, g2⟩ := go
  rw [g1, R.bind_ok]
  rcases g2 with ⟨rfl, _, g3⟩ | ⟨l, rfl, g3⟩
  · refine ⟨none, ?_, g3⟩
    simp [optD]
  · refine ⟨some l, ?_, g3⟩
    simp [optD]
end K39
set_option Elab.async false
set_option linter.all false
set_option autoImplicit false
set_option maxRecDepth 100000
set_option maxHeartbeats 0
namespace K39
open PySem PySem.Spec PyProof.Rows L2 FR
theorem byhand (n : Nat) : (G (n + 6) 1023).run [] = .ok (.bl true) [] := by kernel_rfl
theorem lover_run (n : Nat) (xs : List Int) (l : Int) (hx : xs.length ≤ 1000) (hb : ∀ x ∈ xs, 0 ≤ x ∧ x < 2 ^ 60) (hl : 0 ≤ l) (hl2 : l < 2 ^ 60) : (G (n + 1) 1020).run [.tup (xs.map D.int), .int l] = .ok (.int (overI xs l)) [] := by
  have e : (G (n + 1) 1020).run [.tup (xs.map D.int), .int l] = endF [false, false] false (semS (G n) kq false f_1020 [.val (.tup (xs.map D.int)), .val (.int l), .un]) := Gam_run _ rfl _
  rw [e, f_1020]
  have key : lcLoop [2] (.nm 2) (nxF (sem (G n) kq .nil).t) (nxF (sem (G n) kq (.lenR (.var 1) (.var 2))).v) (xs.map D.int) [] [.val (.tup (xs.map D.int)), .val (.int l), .un] = .ok ((xs.map fun x => if x - l > 0 then x - l else 0).map D.int, [.val (.tup (xs.map D.int)), .val (.int l), .un]) := by
    rw [lc_eq D.int (fun x => some (.int (if x - l > 0 then x - l else 0)))]
    · simp [List.map_map, Function.comp_def]
    · intro x hx
      have hb := hb x hx
      have q : lenRD (.int l) (.int x) = some (.dat (.int (if x - l > 0 then x - l else 0))) := by
        unfold lenRD
        simp only
        rw [if_pos (show -(2 ^ 62) ≤ l ∧ l < 2 ^ 62 ∧ -(2 ^ 62) ≤ x ∧ x < 2 ^ 62 by omega)]
        show some (Ld.dat (D.int _)) = _
        congr 3
        split <;> omega
      refine ⟨_, rfl, .inl ⟨_, .dat (.int (if x - l > 0 then x - l else 0)), [.val (.tup (xs.map D.int)), .val (.int l), .val (.int x)], _, rfl, ?_, rfl, rfl, ?_⟩⟩
      · show R.nx (lenRS (sem (G n) kq (.var 1)).v (sem (G n) kq (.var 2)).v [.val (.tup (xs.map D.int)), .val (.int l), .val (.int x)]) = _
        simp [lenRS, consA, q]
      · simp [wipeE]
  have hz : xs.length ≤ 16777216 := by omega
  simp [hz, wipeE, key, Bf.run, sumD_ints, overI, -List.map_map]
theorem rangeD_get {lo : Int} {n i : Nat} {d : D} (h : (rangeD lo n)[i]? = some d) : d = .int (lo + i) ∧ i < n := by
  simp only [rangeD, List.getElem?_map, Option.map_eq_some_iff, List.getElem?_eq_some_iff, List.length_range, List.getElem_range] at h
  obtain ⟨j, ⟨h1, rfl⟩, rfl⟩ := h
  exact ⟨rfl, h1⟩
theorem tells_run (n : Nat) (xs ys : List Int) (hx : xs.length ≤ 30) (hy : ys.length ≤ 30) (bx : ∀ x ∈ xs, 0 ≤ x ∧ x ≤ 30) (by_ : ∀ x ∈ ys, 0 ≤ x ∧ x ≤ 30) : ∃ o, (G (n + 2) 1021).run [.tup (xs.map D.int), .tup (ys.map D.int)] = .ok (optD o) [] ∧ Tell xs ys o := by
  have e0 : (G (n + 2) 1021).run [.tup (xs.map D.int), .tup (ys.map D.int)] = endF [false, false] false (semS (G (n + 1)) kq false f_1021 [.val (.tup (xs.map D.int)), .val (.tup (ys.map D.int)), .un]) := Gam_run _ rfl _
  rw [e0, f_1021]
  have o1 : ∀ l : Int, 0 ≤ l → l < 100 → (G (n + 1) 1020).run [.tup (xs.map D.int), .int l] = .ok (.int (overI xs l)) [] := fun l h1 h2 => lover_run n xs l (by omega) (fun x hx => by have := bx x hx; omega) h1 (by omega)
  have o2 : ∀ l : Int, 0 ≤ l → l < 100 → (G (n + 1) 1020).run [.tup (ys.map D.int), .int l] = .ok (.int (overI ys l)) [] := fun l h1 h2 => lover_run n ys l (by omega) (fun x hx => by have := by_ x hx; omega) h1 (by omega)
  have t : (T 1020).md = [false, false] ∧ (T 1020).ro = false := ⟨rfl, rfl⟩
  have go : Ok (semS (G (n + 1)) kq false (.loop (.nm 2) (.iR (.cI 32)) (.cons (.iff (.cmp .gt (.call 1020 (.cons (.var 0) (.cons (.var 2) .nil))) (.call 1020 (.cons (.var 1) (.cons (.var 2) .nil)))) (.cons (.ret (.var 2)) .nil) .nil) .nil)) [.val (.tup (xs.map D.int)), .val (.tup (ys.map D.int)), .un])
      fun p => (p.1 = .nx ∧ Tell xs ys none) ∨ ∃ l, p.1 = .rt (.dat (.int l)) ∧ Tell xs ys (some l) := by
    have hi : (sem (G (n + 1)) kq (.iR (.cI 32))).i [.val (.tup (xs.map D.int)), .val (.tup (ys.map D.int)), .un] = .ok (rangeD 0 32, [.val (.tup (xs.map D.int)), .val (.tup (ys.map D.int)), .un]) := by
      simp
    rw [q_loop, hi, R.bind_ok, kFor_eq]
    refine forL_ok _ (fun i env => (∃ a, env = [.val (.tup (xs.map D.int)), .val (.tup (ys.map D.int)), a]) ∧ ∀ k : Int, 0 ≤ k → k < i → overI xs k ≤ overI ys k) _ ⟨⟨_, rfl⟩, fun k k1 k2 => by omega⟩ ?_ ?_
    · rintro i d env hd ⟨⟨a, rfl⟩, hk⟩
      obtain ⟨rfl, hi⟩ := rangeD_get hd
      rw [Int.zero_add]
      have r1 := o1 i (by omega) (by omega)
      have r2 := o2 i (by omega) (by omega)
      refine ⟨_, rfl, ?_⟩
      by_cases q : overI ys i < overI xs i
      · refine ⟨(.rt (.dat (.int i)), [.val (.tup (xs.map D.int)), .val (.tup (ys.map D.int)), .val (.int i)]), ?_, .inr ⟨_, rfl, by omega, q, fun k k1 k2 => hk k k1 k2⟩⟩
        simp [t, r1, r2, Cop.run, ltD, q]
      · refine ⟨(.nx, [.val (.tup (xs.map D.int)), .val (.tup (ys.map D.int)), .val (.int i)]), ?_, ⟨_, rfl⟩, fun k k1 k2 => ?_⟩
        · simp [t, r1, r2, Cop.run, ltD, q]
        · by_cases z : k = i
          · subst z; omega
          · exact hk k k1 (by omega)
    · rintro env ⟨⟨a, rfl⟩, hk⟩
      have hl : (rangeD 0 32).length = 32 := by simp [rangeD]
      rw [hl] at hk
      refine .inl ⟨rfl, fun l l0 => ?_⟩
      by_cases z : l < 32
      · exact hk l l0 z
      · rw [over_top (a := 30) (fun x hx => (bx x hx).2) l (by omega), over_top (a := 30) (fun x hx => (by_ x hx).2) l (by omega)]
        exact Int.le_refl _
  rw [q_cons]
  obtain ⟨⟨k, e2⟩, g1, g2⟩ := go
  rw [g1, R.bind_ok]
  rcases g2 with ⟨rfl, g3⟩ | ⟨l, rfl, g3⟩
  · exact ⟨none, by simp [optD], g3⟩
  · exact ⟨some l, by simp [optD], g3⟩
/-! asked -/
theorem lcR {Γ : Nat → Fn} (m : Nat) (e0 e1 e2 e3 e4 : Slot) (f : E) (g : Nat → D) (h : ∀ k : Nat, k < m → (sem Γ kq f).v [e0, e1, e2, e3, e4, .val (.int k)] = .ok (.dat (g k), [e0, e1, e2, e3, e4, .val (.int k)])) (hm : (m : Int) < 1000) :
    (sem Γ kq (.lc [5] (.nm 5) (.iR (.cI m)) .nil f)).v [e0, e1, e2, e3, e4, .un] = .ok (.frs (.lst ((List.range m).map g)), [e0, e1, e2, e3, e4, .un]) := by
  have key : lcLoop [5] (.nm 5) (nxF (sem Γ kq .nil).t) (nxF (sem Γ kq f).v) (rangeD 0 m) [] [e0, e1, e2, e3, e4, .un] = .ok ((List.range m).map g, [e0, e1, e2, e3, e4, .un]) := by
    unfold rangeD
    rw [lc_eq (fun k : Nat => D.int (0 + (k : Int))) (fun k => some (g k))]
    · simp
    · intro k hk
      have := h k (List.mem_range.mp hk)
      refine ⟨_, rfl, .inl ⟨_, .dat (g k), [e0, e1, e2, e3, e4, .val (.int k)], _, rfl, ?_, rfl, rfl, ?_⟩⟩
      · simp [nxF_eq, this]
      · simp [wipeE]
  have hl : (rangeD 0 m).length ≤ 16777216 := by simp [rangeD]; omega
  have h1 : -(2 ^ 62) ≤ (m : Int) ∧ (m : Int) < 2 ^ 62 := by omega
  have h2 : (sem Γ kq (.iR (.cI m))).i [e0, e1, e2, e3, e4, .un] = .ok (rangeD 0 m, [e0, e1, e2, e3, e4, .un]) := by
    rw [i_iR, v_cI, R.bind_ok, kRng_eq (by omega) (by omega), Int.toNat_natCast]
  rw [v_lc, h2, R.bind_ok, kLc_eq, if_pos ⟨by rw [FR.sizeLine_eq]; exact hl, by simp, by simp⟩]
  have hw : wipeE [e0, e1, e2, e3, e4, .un] [5] = [e0, e1, e2, e3, e4, .un] := by simp [wipeE]
  rw [hw, key, R.bind_ok, kLcE_eq]
  simp [unwipe]
theorem asked_run (n : Nat) (xs ys : List Int) (hx : xs.length ≤ 30) (hy : ys.length ≤ 30) (bx : ∀ x ∈ xs, 0 ≤ x ∧ x ≤ 30) (by_ : ∀ x ∈ ys, 0 ≤ x ∧ x ≤ 30) (hs : xs.sum = ys.sum) : (G (n + 4) 1022).run [.tup (xs.map D.int), .tup (ys.map D.int)] = .ok (.bl true) [] := by
  have e0 : (G (n + 4) 1022).run [.tup (xs.map D.int), .tup (ys.map D.int)] = endF [false, false] false (semS (G (n + 3)) kq false f_1022 [.val (.tup (xs.map D.int)), .val (.tup (ys.map D.int)), .un, .un, .un, .un]) := Gam_run _ rfl _
  rw [e0, f_1022]
  obtain ⟨o, r1, w1⟩ := tells_run (n + 1) xs ys hx hy bx by_
  obtain ⟨o', r2, w2⟩ := tells_run (n + 1) ys xs hy hx by_ bx
  have tl : ∀ d e, itemsD d = some (xs.map D.int) → itemsD e = some (ys.map D.int) → (G (n + 3) 273).run [d, e] = .ok (optD o) [] := by
    intro d e h1 h2
    obtain ⟨p, r, w⟩ := telling_run (n + 1) xs ys hx hy (fun x h => (bx x h).1) (fun x h => (by_ x h).1) (by omega) d e h1 h2
    rw [r, w.unique w1]
  have tl' : ∀ d e, itemsD d = some (xs.map D.int) → itemsD e = some (ys.map D.int) → (G (n + 3) 273).run [e, d] = .ok (optD o') [] := by
    intro d e h1 h2
    obtain ⟨p, r, w⟩ := telling_run (n + 1) ys xs hy hx (fun x h => (by_ x h).1) (fun x h => (bx x h).1) (by omega) e d h2 h1
    rw [r, w.unique w2]
  have t3 : (T 1020).md = [false, false] ∧ (T 1020).ro = false := ⟨rfl, rfl⟩
  have t4 : (T 1021).md = [false, false] ∧ (T 1021).ro = false := ⟨rfl, rfl⟩
  have t5 : (T 272).md = [false, false] ∧ (T 272).ro = false := ⟨rfl, rfl⟩
  have t6 : (T 273).md = [false, false] ∧ (T 273).ro = false := ⟨rfl, rfl⟩
  have t7 : (T 1003).md = [false, false] ∧ (T 1003).ro = false := ⟨rfl, rfl⟩
  let g : Nat → D := fun k => .int (overI xs k)
  generalize hX : D.tup (xs.map D.int) = X
  generalize hY : D.tup (ys.map D.int) = Y
  have iX : itemsD X = some (xs.map D.int) := by rw [← hX]; rfl
  have iY : itemsD Y = some (ys.map D.int) := by rw [← hY]; rfl
  rw [hX, hY] at r1 r2
  have c1 := lcR (Γ := G (n + 3)) 11 (.val X) (.val Y) .un .un .un (.call 1020 (.cons (.var 0) (.cons (.var 5) .nil))) g (fun k hk => by
    have r := lover_run (n + 2) xs k (by omega) (fun x hx => by have := bx x hx; omega) (by omega) (by omega)
    rw [hX] at r
    simp [t3, r, g]) (by decide)
  let L : D := .lst ((List.range 11).map g)
  have c2 := fun a => lcR (Γ := G (n + 3)) 11 (.val X) (.val Y) (.val a) .un .un (.call 272 (.cons (.var 0) (.cons (.var 5) .nil))) g (fun k hk => by
    have r := over_run (n + 2) xs k (by omega) X iX
    simp [t5, r, g]) (by decide)
  have lX : listD [X] = some (.frs (.lst (xs.map D.int))) := by rw [← hX]; rfl
  have c3 := fun a b => lcR (Γ := G (n + 3)) 11 (.val X) (.val Y) (.val a) (.val b) .un (.call 272 (.cons (.bf .list (.cons (.var 0) .nil)) (.cons (.var 5) .nil))) g (fun k hk => by
    have r := over_run (n + 2) xs k (by omega) (.lst (xs.map D.int)) rfl
    simp [t5, r, g, Bf.run, lX]) (by decide)
  have s1 : semS (G (n + 3)) kq false (.set false 2 (.lst (.cons (.lc [5] (.nm 5) (.iR (.cI 11)) .nil (.call 1020 (.cons (.var 0) (.cons (.var 5) .nil)))) (.cons (.call 1021 (.cons (.var 0) (.cons (.var 1) .nil))) (.cons (.call 1021 (.cons (.var 1) (.cons (.var 0) .nil))) .nil))))) [.val X, .val Y, .un, .un, .un, .un] = .ok (.nx, [.val X, .val Y, .val (.lst [L, optD o, optD o']), .un, .un, .un]) := by
    rw [q_set, FR.v_lst, a_cons]
    rw [show ((11 : Nat) : Int) = (11 : Int) from rfl] at c1
    rw [c1]
    simp [t4, r1, r2, L]
  have s2 : semS (G (n + 3)) kq false (.set false 3 (.lst (.cons (.lc [5] (.nm 5) (.iR (.cI 11)) .nil (.call 272 (.cons (.var 0) (.cons (.var 5) .nil)))) (.cons (.call 273 (.cons (.var 0) (.cons (.var 1) .nil))) (.cons (.call 273 (.cons (.var 1) (.cons (.var 0) .nil))) .nil))))) [.val X, .val Y, .val (.lst [L, optD o, optD o']), .un, .un, .un] = .ok (.nx, [.val X, .val Y, .val (.lst [L, optD o, optD o']), .val (.lst [L, optD o, optD o']), .un, .un]) := by
    have c := c2 (.lst [L, optD o, optD o'])
    rw [show ((11 : Nat) : Int) = (11 : Int) from rfl] at c
    rw [q_set, FR.v_lst, a_cons, c]
    simp [t6, tl X Y iX iY, tl' X Y iX iY, L]
  have s3 : semS (G (n + 3)) kq false (.set false 4 (.lst (.cons (.lc [5] (.nm 5) (.iR (.cI 11)) .nil (.call 272 (.cons (.bf .list (.cons (.var 0) .nil)) (.cons (.var 5) .nil)))) (.cons (.call 273 (.cons (.bf .list (.cons (.var 0) .nil)) (.cons (.var 1) .nil))) .nil)))) [.val X, .val Y, .val (.lst [L, optD o, optD o']), .val (.lst [L, optD o, optD o']), .un, .un] = .ok (.nx, [.val X, .val Y, .val (.lst [L, optD o, optD o']), .val (.lst [L, optD o, optD o']), .val (.lst [L, optD o]), .un]) := by
    have c := c3 (.lst [L, optD o, optD o']) (.lst [L, optD o, optD o'])
    rw [show ((11 : Nat) : Int) = (11 : Int) from rfl] at c
    rw [q_set, FR.v_lst, a_cons, c]
    simp [t6, tl (.lst (xs.map D.int)) Y rfl iY, L, Bf.run, lX]
  rw [q_cons, s1, R.bind_ok, kSeq_nx, q_cons, s2, R.bind_ok, kSeq_nx, q_cons, s3, R.bind_ok, kSeq_nx]
  have sm' : (G (n + 3) 1003).run [.lst [L, optD o, optD o', L, optD o, optD o'], .lst [L, optD o, optD o', L, optD o, optD o']] = .ok (.bl true) [] := by
    have := same_run (T := T) (kq := kq) rfl (n + 2) (.lst [L, optD o, optD o', L, optD o, optD o']) (by
      have : ∀ p, tame (n + 1) (optD p) = true := fun p => by cases p <;> rfl
      simp [tame, this, L, g])
    exact this
  simp [Bop.run, addD, t6, tl' (.lst (xs.map D.int)) Y rfl iY, Bf.run, lX, t7, sm']
end K39
set_option Elab.async false
set_option linter.all false
set_option autoImplicit false
set_option maxRecDepth 100000
set_option maxHeartbeats 0
namespace K39
open PySem PySem.Spec PyProof.Rows L2 FR
theorem tT : T 1000 = tTake := rfl
/-- the slots of right -/
abbrev en (u : D) (a1 a2 a3 a4 a5 a7 a8 : Slot) : En := [.own u, a1, a2, a3, a4, a5, .un, a7, a8]
theorem one_lc (n k : Nat) (hk : k ≤ 1000) (u : D) (hu : Urn k u) (a1 a2 a3 a4 a5 a7 a8 : Slot) :
    ∃ vs : List Int, ∃ u', (sem (G (n + 1)) kq (.lc [6] (.nm 6) (.iR (.bin .add (.cI 1) (.call 1000 (.cons (.var 0) (.cons (.cI 5) .nil))))) .nil (.call 1000 (.cons (.var 0) (.cons (.cI 7) .nil))))).v (en u a1 a2 a3 a4 a5 a7 a8) = .ok (.frs (.lst (vs.map D.int)), en u' a1 a2 a3 a4 a5 a7 a8) ∧
      1 ≤ vs.length ∧ vs.length ≤ 5 ∧ (∀ v ∈ vs, 0 ≤ v ∧ v < 7) ∧ Urn (k + 6) u' := by
  obtain ⟨m, u1, r1, r2, r3, r4⟩ := draw_v (T := T) (kq := kq) tT (n := n) (i := 0) (e := .cI 5) (env := en u a1 a2 a3 a4 a5 a7 a8) rfl cI_v hu (by omega) (by decide) (by decide)
  have r1 : (sem (G (n + 1)) kq (.call 1000 (.cons (.var 0) (.cons (.cI 5) .nil)))).v (en u a1 a2 a3 a4 a5 a7 a8) = .ok (.dat (.int m), en u1 a1 a2 a3 a4 a5 a7 a8) := r1
  have it : (sem (G (n + 1)) kq (.iR (.bin .add (.cI 1) (.call 1000 (.cons (.var 0) (.cons (.cI 5) .nil)))))).i (en u a1 a2 a3 a4 a5 a7 a8) = .ok (rangeD 0 (1 + m).toNat, en u1 a1 a2 a3 a4 a5 a7 a8) := by
    rw [i_iR, v_bin, v_cI, R.bind_ok, kM2_eq, r1]
    simp only [R.bind_ok, kM2b_eq, cont_dat, Bop.run, addD, Option.map_some, R.of_some]
    rw [kRng_eq (by omega) (by omega)]
  have lp := lcLoop_ok (own := [6]) (t := .nm 6) (c := nxF (sem (G (n + 1)) kq .nil).t) (f := nxF (sem (G (n + 1)) kq (.call 1000 (.cons (.var 0) (.cons (.cI 7) .nil)))).v) (rangeD 0 (1 + m).toNat) []
    (fun i acc env => ∃ vs : List Int, ∃ u', acc = vs.map D.int ∧ vs.length = i ∧ (∀ v ∈ vs, 0 ≤ v ∧ v < 7) ∧ Urn (k + 1 + i) u' ∧ env = en u' a1 a2 a3 a4 a5 a7 a8) (en u1 a1 a2 a3 a4 a5 a7 a8) ⟨[], u1, rfl, rfl, by simp, r4, rfl⟩
    (by
      rintro i d acc env hd ⟨vs, u', rfl, hl, hv, hu', rfl⟩
      obtain ⟨rfl, hi⟩ := rangeD_get hd
      have hi : i < 5 := by omega
      obtain ⟨v, u2, q1, q2, q3, q4⟩ := draw_v (T := T) (kq := kq) tT (n := n) (i := 0) (e := .cI 7) (env := [.own u', a1, a2, a3, a4, a5, .val (.int (0 + i)), a7, a8]) rfl cI_v hu' (by omega) (by decide) (by decide)
      have q1 : (sem (G (n + 1)) kq (.call 1000 (.cons (.var 0) (.cons (.cI 7) .nil)))).v [.own u', a1, a2, a3, a4, a5, .val (.int (0 + i)), a7, a8] = .ok (.dat (.int v), [.own u2, a1, a2, a3, a4, a5, .val (.int (0 + i)), a7, a8]) := q1
      refine ⟨_, rfl, ⟨(true, [.own u', a1, a2, a3, a4, a5, .val (.int (0 + i)), a7, a8]), rfl, ?_⟩⟩
      simp only [if_true]
      refine ⟨(.dat (.int v), [.own u2, a1, a2, a3, a4, a5, .val (.int (0 + i)), a7, a8]), by rw [nxF_eq, q1]; rfl, .int v, rfl, vs ++ [v], u2, by simp, by simp [hl], ?_, q4, by simp [wipeE]⟩
      intro x hx
      rcases List.mem_append.mp hx with hx | hx
      · exact hv x hx
      · rw [List.mem_singleton.mp hx]; exact ⟨q2, q3⟩)
  obtain ⟨⟨ys, e2⟩, l1, vs, u', rfl, l3, l4, l5, rfl⟩ := lp
  have hr : (rangeD 0 (1 + m).toNat).length = (1 + m).toNat := by simp [rangeD]
  rw [hr] at l3 l5
  refine ⟨vs, u', ?_, by omega, by omega, l4, l5.mono (by omega)⟩
  rw [v_lc, it, R.bind_ok, kLc_eq, if_pos ⟨by rw [hr, FR.sizeLine_eq]; omega, by simp, by simp⟩]
  have hw : wipeE (en u1 a1 a2 a3 a4 a5 a7 a8) [6] = en u1 a1 a2 a3 a4 a5 a7 a8 := by simp [wipeE]
  rw [hw, l1, R.bind_ok, kLcE_eq]
  simp [unwipe]
theorem sum_set (l : List Int) (i : Nat) (h : i < l.length) (x : Int) : (l.set i x).sum = l.sum - l[i] + x := by
  induction l generalizing i with
  | nil => simp at h
  | cons a l ih =>
    cases i with
    | zero => simp; omega
    | succ i =>
      simp only [List.set_cons_succ, List.sum_cons, List.getElem_cons_succ]
      rw [ih i (by simpa using h)]; omega
theorem le_sum {l : List Int} (h : ∀ x ∈ l, 0 ≤ x) : ∀ x ∈ l, x ≤ l.sum := by
  induction l with
  | nil => simp
  | cons a l ih =>
    have hs : 0 ≤ l.sum := by
      clear ih
      induction l with
      | nil => simp
      | cons b l ih2 =>
        have := ih2 (fun x hx => h x (by rcases List.mem_cons.mp hx with e | e <;> simp [e]))
        have := h b (by simp)
        simp; omega
    intro x hx
    have h0 := h a (by simp)
    rcases List.mem_cons.mp hx with rfl | hx
    · simp; omega
    · have := ih (fun x hx => h x (List.mem_cons_of_mem _ hx)) x hx
      simp; omega
theorem inner (n k : Nat) (hk : k ≤ 1000) (u : D) (hu : Urn k u) (vs : List Int) (h1 : 1 ≤ vs.length) (h2 : vs.length ≤ 5) (hv : ∀ v ∈ vs, 0 ≤ v) (hs : vs.sum ≤ 100) (a1 a2 a4 a5 a7 a8 : Slot) :
    Ok (semS (G (n + 1)) kq false (.loop (.nm 4) (.iR (.call 1000 (.cons (.var 0) (.cons (.cI 5) .nil)))) (.cons (.par [(false, 7), (false, 8)] (.cons (.call 1000 (.cons (.var 0) (.cons (.bf .len (.cons (.var 3) .nil)) .nil))) (.cons (.call 1000 (.cons (.var 0) (.cons (.bf .len (.cons (.var 3) .nil)) .nil))) .nil))) (.cons (.set false 5 (.call 1000 (.cons (.var 0) (.cons (.bin .add (.ix (.var 3) (.var 7)) (.cI 1)) .nil)))) (.cons (.sti 3 (.var 7) (.bin .sub (.ix (.var 3) (.var 7)) (.var 5))) (.cons (.sti 3 (.var 8) (.bin .add (.ix (.var 3) (.var 8)) (.var 5))) .nil))))) (en u a1 a2 (.own (.lst (vs.map D.int))) a4 a5 a7 a8))
      fun p => p.1 = .nx ∧ ∃ ws : List Int, ∃ u' b4 b5 b7 b8, p.2 = en u' a1 a2 (.own (.lst (ws.map D.int))) b4 b5 b7 b8 ∧ ws.length = vs.length ∧ ws.sum = vs.sum ∧ (∀ v ∈ ws, 0 ≤ v) ∧ Urn (k + 13) u' := by
  obtain ⟨m, u1, r1, r2, r3, r4⟩ := draw_v (T := T) (kq := kq) tT (n := n) (i := 0) (e := .cI 5) (env := en u a1 a2 (.own (.lst (vs.map D.int))) a4 a5 a7 a8) rfl cI_v hu (by omega) (by decide) (by decide)
  have r1 : (sem (G (n + 1)) kq (.call 1000 (.cons (.var 0) (.cons (.cI 5) .nil)))).v (en u a1 a2 (.own (.lst (vs.map D.int))) a4 a5 a7 a8) = .ok (.dat (.int m), en u1 a1 a2 (.own (.lst (vs.map D.int))) a4 a5 a7 a8) := r1
  have it : (sem (G (n + 1)) kq (.iR (.call 1000 (.cons (.var 0) (.cons (.cI 5) .nil))))).i (en u a1 a2 (.own (.lst (vs.map D.int))) a4 a5 a7 a8) = .ok (rangeD 0 m.toNat, en u1 a1 a2 (.own (.lst (vs.map D.int))) a4 a5 a7 a8) := by
    rw [i_iR, r1, R.bind_ok, kRng_eq (by omega) (by omega)]
  have hr : (rangeD 0 m.toNat).length = m.toNat := by simp [rangeD]
  rw [q_loop, it, R.bind_ok, kFor_eq]
  refine forL_ok _ (fun i env => ∃ ws : List Int, ∃ u' b4 b5 b7 b8, env = en u' a1 a2 (.own (.lst (ws.map D.int))) b4 b5 b7 b8 ∧ ws.length = vs.length ∧ ws.sum = vs.sum ∧ (∀ v ∈ ws, 0 ≤ v) ∧ Urn (k + 1 + 3 * i) u') _ ⟨vs, u1, _, _, _, _, rfl, rfl, rfl, hv, r4⟩ ?_ ?_
  · rintro i d env hd ⟨ws, u', b4, b5, b7, b8, rfl, w1, w2, w3, w4⟩
    obtain ⟨rfl, hi⟩ := rangeD_get hd
    have hi5 : i < 4 := by omega
    refine ⟨en u' a1 a2 (.own (.lst (ws.map D.int))) (.val (.int (0 + i))) b5 b7 b8, rfl, ?_⟩
    have ln : ∀ u b4 b5 b7 b8, (sem (G (n + 1)) kq (.bf .len (.cons (.var 3) .nil))).v (en u a1 a2 (.own (.lst (ws.map D.int))) b4 b5 b7 b8) = .ok (.dat (.int ws.length), en u a1 a2 (.own (.lst (ws.map D.int))) b4 b5 b7 b8) := by
      intro u b4 b5 b7 b8
      simp [Bf.run, lenDs, lenD]
    obtain ⟨x, u2, p1, p2, p3, p4⟩ := draw_v (T := T) (kq := kq) tT (n := n) (i := 0) (e := .bf .len (.cons (.var 3) .nil)) rfl (ln u' (.val (.int (0 + i))) b5 b7 b8) w4 (by omega) (by omega) (by omega)
    obtain ⟨y, u3, o1, o2, o3, o4⟩ := draw_v (T := T) (kq := kq) tT (n := n) (i := 0) (e := .bf .len (.cons (.var 3) .nil)) rfl (ln u2 (.val (.int (0 + i))) b5 b7 b8) p4 (by omega) (by omega) (by omega)
    have s1 : semS (G (n + 1)) kq false (.par [(false, 7), (false, 8)] (.cons (.call 1000 (.cons (.var 0) (.cons (.bf .len (.cons (.var 3) .nil)) .nil))) (.cons (.call 1000 (.cons (.var 0) (.cons (.bf .len (.cons (.var 3) .nil)) .nil))) .nil))) (en u' a1 a2 (.own (.lst (ws.map D.int))) (.val (.int (0 + i))) b5 b7 b8) = .ok (.nx, en u3 a1 a2 (.own (.lst (ws.map D.int))) (.val (.int (0 + i))) b5 (.val (.int x)) (.val (.int y))) := by
      rw [q_par, a_cons, p1, R.bind_ok, kCons_eq, a_cons]
      have o1 : (sem (G (n + 1)) kq (.call 1000 (.cons (.var 0) (.cons (.bf .len (.cons (.var 3) .nil)) .nil)))).v ((en u' a1 a2 (.own (.lst (ws.map D.int))) (.val (.int (0 + i))) b5 b7 b8).set 0 (.own u2)) = _ := o1
      rw [o1]
      simp
    have hx : x.toNat < ws.length := by omega
    have hy : y.toNat < ws.length := by omega
    have ax : atI (ws.map D.int) x = some (.int ws[x.toNat]) := atI_in p2 (by simp [hx])
    have x0 := w3 ws[x.toNat] (List.getElem_mem hx)
    have xs' := le_sum w3 ws[x.toNat] (List.getElem_mem hx)
    have ex : (sem (G (n + 1)) kq (.bin .add (.ix (.var 3) (.var 7)) (.cI 1))).v (en u3 a1 a2 (.own (.lst (ws.map D.int))) (.val (.int (0 + i))) b5 (.val (.int x)) (.val (.int y))) = .ok (.dat (.int (ws[x.toNat] + 1)), en u3 a1 a2 (.own (.lst (ws.map D.int))) (.val (.int (0 + i))) b5 (.val (.int x)) (.val (.int y))) := by
      simp [ixD, ax, Bop.run, addD]
    obtain ⟨z, u4, z1, z2, z3, z4⟩ := draw_v (T := T) (kq := kq) tT (n := n) (i := 0) rfl ex o4 (by omega) (by omega) (by omega)
    have s2 : semS (G (n + 1)) kq false (.set false 5 (.call 1000 (.cons (.var 0) (.cons (.bin .add (.ix (.var 3) (.var 7)) (.cI 1)) .nil)))) (en u3 a1 a2 (.own (.lst (ws.map D.int))) (.val (.int (0 + i))) b5 (.val (.int x)) (.val (.int y))) = .ok (.nx, en u4 a1 a2 (.own (.lst (ws.map D.int))) (.val (.int (0 + i))) (.val (.int z)) (.val (.int x)) (.val (.int y))) := by
      rw [q_set, z1]
      simp
    let w' := ws.set x.toNat (ws[x.toNat] - z)
    have hw' : w'.length = ws.length := by simp [w']
    have w'0 : ∀ v ∈ w', 0 ≤ v := by
      intro v hv
      rcases List.mem_or_eq_of_mem_set hv with h | h
      · exact w3 v h
      · omega
    have y0 := w'0 w'[y.toNat] (List.getElem_mem (by omega))
    let w'' := w'.set y.toNat (w'[y.toNat] + z)
    have s3 : semS (G (n + 1)) kq false (.sti 3 (.var 7) (.bin .sub (.ix (.var 3) (.var 7)) (.var 5))) (en u4 a1 a2 (.own (.lst (ws.map D.int))) (.val (.int (0 + i))) (.val (.int z)) (.val (.int x)) (.val (.int y))) = .ok (.nx, en u4 a1 a2 (.own (.lst (w'.map D.int))) (.val (.int (0 + i))) (.val (.int z)) (.val (.int x)) (.val (.int y))) := by
      simp [ixD, ax, Bop.run, subD, ixN_in p2 p3, w', List.map_set]
    have ay : atI (w'.map D.int) y = some (.int w'[y.toNat]) := atI_in o2 (by simp [hw', hy])
    have s4 : semS (G (n + 1)) kq false (.sti 3 (.var 8) (.bin .add (.ix (.var 3) (.var 8)) (.var 5))) (en u4 a1 a2 (.own (.lst (w'.map D.int))) (.val (.int (0 + i))) (.val (.int z)) (.val (.int x)) (.val (.int y))) = .ok (.nx, en u4 a1 a2 (.own (.lst (w''.map D.int))) (.val (.int (0 + i))) (.val (.int z)) (.val (.int x)) (.val (.int y))) := by
      have := ixN_in (n := w'.length) o2 (by omega)
      simp [ixD, ay, Bop.run, addD, this, w'', List.map_set]
    refine ⟨(.nx, en u4 a1 a2 (.own (.lst (w''.map D.int))) (.val (.int (0 + i))) (.val (.int z)) (.val (.int x)) (.val (.int y))), ?_, w'', u4, _, _, _, _, rfl, ?_, ?_, ?_, z4.mono (by omega)⟩
    · rw [q_cons, s1, R.bind_ok, kSeq_nx, q_cons, s2, R.bind_ok, kSeq_nx, q_cons, s3, R.bind_ok, kSeq_nx, q_cons, s4, R.bind_ok, kSeq_nx, q_nil]
    · simp [w'', w', w1]
    · rw [sum_set w' y.toNat (by omega), sum_set ws x.toNat hx]; omega
    · intro v hv
      rcases List.mem_or_eq_of_mem_set hv with h | h
      · exact w'0 v h
      · omega
  · rintro env ⟨ws, u', b4, b5, b7, b8, rfl, w1, w2, w3, w4⟩
    rw [hr] at w4
    exact ⟨rfl, ws, u', b4, b5, b7, b8, rfl, w1, w2, w3, w4.mono (by omega)⟩
theorem right_run (n : Nat) (u : D) (hu : Urn 0 u) : ∃ u', (G (n + 5) 1024).run [u] = .ok (.bl true) [u'] := by
  have e0 : (G (n + 5) 1024).run [u] = endF [true] false (semS (G (n + 4)) kq false f_1024 [.own u, .un, .un, .un, .un, .un, .un, .un, .un]) := Gam_run _ rfl _
  rw [e0, f_1024, q_cons]
  have hi : (sem (G (n + 4)) kq (.iR (.cI 5))).i [.own u, .un, .un, .un, .un, .un, .un, .un, .un] = .ok (rangeD 0 5, [.own u, .un, .un, .un, .un, .un, .un, .un, .un]) := by
    simp
  rw [q_loop, hi, R.bind_ok, kFor_eq]
  have t : (T 1022).md = [false, false] ∧ (T 1022).ro = false := ⟨rfl, rfl⟩
  have go := forL_ok (t := .nm 1) (b := semS (G (n + 4)) kq false (.cons (.set false 2 (.lc [6] (.nm 6) (.iR (.bin .add (.cI 1) (.call 1000 (.cons (.var 0) (.cons (.cI 5) .nil))))) .nil (.call 1000 (.cons (.var 0) (.cons (.cI 7) .nil))))) (.cons (.set true 3 (.bf .list (.cons (.var 2) .nil))) (.cons (.loop (.nm 4) (.iR (.call 1000 (.cons (.var 0) (.cons (.cI 5) .nil)))) (.cons (.par [(false, 7), (false, 8)] (.cons (.call 1000 (.cons (.var 0) (.cons (.bf .len (.cons (.var 3) .nil)) .nil))) (.cons (.call 1000 (.cons (.var 0) (.cons (.bf .len (.cons (.var 3) .nil)) .nil))) .nil))) (.cons (.set false 5 (.call 1000 (.cons (.var 0) (.cons (.bin .add (.ix (.var 3) (.var 7)) (.cI 1)) .nil)))) (.cons (.sti 3 (.var 7) (.bin .sub (.ix (.var 3) (.var 7)) (.var 5))) (.cons (.sti 3 (.var 8) (.bin .add (.ix (.var 3) (.var 8)) (.var 5))) .nil))))) (.cons (.iff (.not (.call 1022 (.cons (.bf .tuple (.cons (.var 2) .nil)) (.cons (.bf .tuple (.cons (.var 3) .nil)) .nil)))) (.cons (.ret (.cB false)) .nil) .nil) .nil)))))
    (Q := fun p => p.1 = .nx ∧ ∃ u' a1 a2 a3 a4 a5 a7 a8, p.2 = en u' a1 a2 a3 a4 a5 a7 a8) (rangeD 0 5)
    (fun i env => ∃ u' a1 a2 a3 a4 a5 a7 a8, env = en u' a1 a2 a3 a4 a5 a7 a8 ∧ Urn (19 * i) u') [.own u, .un, .un, .un, .un, .un, .un, .un, .un] ⟨u, _, _, _, _, _, _, _, rfl, hu⟩ ?_ ?_
  · obtain ⟨⟨k, e⟩, g1, rfl, u', a1, a2, a3, a4, a5, a7, a8, rfl⟩ := go
    refine ⟨u', ?_⟩
    rw [g1]
    simp
  · rintro i d env hd ⟨u1, a1, a2, a3, a4, a5, a7, a8, rfl, h1⟩
    obtain ⟨rfl, hi⟩ := rangeD_get hd
    refine ⟨en u1 (.val (.int (0 + i))) a2 a3 a4 a5 a7 a8, rfl, ?_⟩
    obtain ⟨vs, u2, v1, v2, v3, v4, v5⟩ := one_lc (n + 3) (19 * i) (by omega) u1 h1 (.val (.int (0 + i))) a2 a3 a4 a5 a7 a8
    have s1 : semS (G (n + 4)) kq false (.set false 2 (.lc [6] (.nm 6) (.iR (.bin .add (.cI 1) (.call 1000 (.cons (.var 0) (.cons (.cI 5) .nil))))) .nil (.call 1000 (.cons (.var 0) (.cons (.cI 7) .nil))))) (en u1 (.val (.int (0 + i))) a2 a3 a4 a5 a7 a8) = .ok (.nx, en u2 (.val (.int (0 + i))) (.val (.lst (vs.map D.int))) a3 a4 a5 a7 a8) := by
      rw [q_set, v1]; simp
    have s2 : semS (G (n + 4)) kq false (.set true 3 (.bf .list (.cons (.var 2) .nil))) (en u2 (.val (.int (0 + i))) (.val (.lst (vs.map D.int))) a3 a4 a5 a7 a8) = .ok (.nx, en u2 (.val (.int (0 + i))) (.val (.lst (vs.map D.int))) (.own (.lst (vs.map D.int))) a4 a5 a7 a8) := by
      simp [Bf.run, listD]
    have hsum : vs.sum ≤ 30 := by
      have : ∀ l : List Int, (∀ v ∈ l, 0 ≤ v ∧ v < 7) → l.sum ≤ 6 * l.length := by
        intro l
        induction l with
        | nil => simp
        | cons a l ih =>
          intro h
          have := ih fun v hv => h v (List.mem_cons_of_mem _ hv)
          have := h a (by simp)
          simp; omega
      have := this vs v4
      omega
    obtain ⟨⟨k3, e3⟩, g1, rfl, ws, u3, b4, b5, b7, b8, rfl, w1, w2, w3, w4⟩ := inner (n + 3) (19 * i + 6) (by omega) u2 v5 vs v2 v3 (fun v hv => (v4 v hv).1) (by omega) (.val (.int (0 + i))) (.val (.lst (vs.map D.int))) a4 a5 a7 a8
    have as := asked_run n vs ws (by omega) (by omega) (fun x hx => by have := v4 x hx; omega) (fun x hx => ⟨w3 x hx, by have := le_sum w3 x hx; omega⟩) w2.symm
    refine ⟨(.nx, en u3 (.val (.int (0 + i))) (.val (.lst (vs.map D.int))) (.own (.lst (ws.map D.int))) b4 b5 b7 b8), ?_, u3, _, _, _, _, _, _, _, rfl, w4.mono (by omega)⟩
    rw [q_cons, s1, R.bind_ok, kSeq_nx, q_cons, s2, R.bind_ok, kSeq_nx, q_cons, g1, R.bind_ok, kSeq_nx]
    simp [Bf.run, tupleD, t, as]
  · rintro env ⟨u1, a1, a2, a3, a4, a5, a7, a8, rfl, h1⟩
    exact ⟨rfl, u1, _, _, _, _, _, _, _, rfl⟩
end K39
set_option Elab.async false
set_option linter.all false
set_option autoImplicit false
set_option maxRecDepth 100000
set_option maxHeartbeats 0
namespace K39
open PySem PySem.Spec PyProof.Rows L2 FR
theorem law_run (n : Nat) (ns : List Int) (hn : ns.length ≤ 63) : (G (n + 7) 1008).run [.scr ns] = .ok (.bl true) [] := by
  have e0 : (G (n + 7) 1008).run [.scr ns] = endF [false] false (semS (G (n + 6)) kq false f_1008 [.val (.scr ns), .un, .un]) := Gam_run _ rfl _
  rw [e0, f_1008]
  obtain ⟨ms, c1, c2, c3⟩ := cells_run (Γ := G (n + 5)) (kq := kq) ns hn 3 (by decide) (by decide)
  have c1 : (G (n + 6) 1002).run [.scr ns, .int 3] = .ok (.lst (ms.map D.int)) [] := (Gam_run _ rfl _).trans c1
  have t1 : (T 1002).md = [false, false] ∧ (T 1002).ro = false := ⟨rfl, rfl⟩
  have t2 : (T 1023).md = [] ∧ (T 1023).ro = false := ⟨rfl, rfl⟩
  have t3 : (T 1001).md = [false, false] ∧ (T 1001).ro = true := ⟨rfl, rfl⟩
  have t4 : (T 1024).md = [true] ∧ (T 1024).ro = false := ⟨rfl, rfl⟩
  have hb := byhand n
  have key : lcLoop [2] (.nm 2) (nxF (sem (G (n + 6)) kq .nil).t) (nxF (sem (G (n + 6)) kq (.call 1024 (.cons (.call 1001 (.cons (.var 1) (.cons (.var 2) .nil))) .nil))).v) (rangeD 0 ms.length) [] [.val (.scr ns), .val (.lst (ms.map D.int)), .un] = .ok ((List.replicate ms.length true).map D.bl, [.val (.scr ns), .val (.lst (ms.map D.int)), .un]) := by
    unfold rangeD
    rw [lc_eq (fun k : Nat => D.int (0 + (k : Int))) (fun k => some (.bl true))]
    · simp [List.map_const']
    · intro k hk
      have hk := List.mem_range.mp hk
      obtain ⟨u, b1, b2⟩ := boxA_run (Γ := G (n + 5)) (kq := kq) (c := 93939) (by decide) (by decide) ms k (by omega)
      have b1 : (G (n + 6) 1001).run [.lst (ms.map D.int), .int k] = .ok u [] := (Gam_run _ rfl _).trans b1
      obtain ⟨u', r⟩ := right_run (n + 1) u b2
      refine ⟨_, rfl, .inl ⟨_, .dat (.bl true), [.val (.scr ns), .val (.lst (ms.map D.int)), .val (.int k)], _, rfl, ?_, rfl, rfl, ?_⟩⟩
      · simp [nxF_eq, t3, b1, t4, r]
      · simp [wipeE]
  have hz : ms.length ≤ 16777216 := by omega
  have h1 : (ms.length : Int) < 1099511627776 := by omega
  have hr : (rangeD 0 ms.length).length = ms.length := by simp [rangeD]
  have s1 : semS (G (n + 6)) kq false (.set false 1 (.call 1002 (.cons (.var 0) (.cons (.cI 3) .nil)))) [.val (.scr ns), .un, .un] = .ok (.nx, [.val (.scr ns), .val (.lst (ms.map D.int)), .un]) := by
    simp [t1, c1]
  have s2 : (sem (G (n + 6)) kq (.lc [2] (.nm 2) (.iR (.bf .len (.cons (.var 1) .nil))) .nil (.call 1024 (.cons (.call 1001 (.cons (.var 1) (.cons (.var 2) .nil))) .nil)))).v [.val (.scr ns), .val (.lst (ms.map D.int)), .un] = .ok (.frs (.lst ((List.replicate ms.length true).map D.bl)), [.val (.scr ns), .val (.lst (ms.map D.int)), .un]) := by
    have l1 : (sem (G (n + 6)) kq (.bf .len (.cons (.var 1) .nil))).v [.val (.scr ns), .val (.lst (ms.map D.int)), .un] = .ok (.dat (.int ms.length), [.val (.scr ns), .val (.lst (ms.map D.int)), .un]) := by
      simp [Bf.run, lenDs, lenD]
    exact lc_of (iR_of l1 (by omega) (by omega)) (by rw [rangeD_len]; omega) rfl rfl key
  have s3 : (sem (G (n + 6)) kq (.call 1023 .nil)).v [.val (.scr ns), .val (.lst (ms.map D.int)), .un] = .ok (.dat (.bl true), [.val (.scr ns), .val (.lst (ms.map D.int)), .un]) := by
    simp [t2, hb]
  rw [q_cons, s1, R.bind_ok, kSeq_nx, q_cons, q_ret, FR.v_and, s3, R.bind_ok, kAndV_eq]
  simp only [cont_dat, Option.bind_some, tru_bl, v_one, v_bf, a_cons, s2, R.bind_ok, kCons_eq, a_nil, kConsB_eq, cont_frs, kMa_eq, conts_cons, conts_nil, Option.map_some, Bf.run, allD_true, R.of_some, kRet_dat, kSeq_rt, endF_rt, outsF_f, outsF_nil]
end K39
theorem PySem.Challenge.cw_freightrights_k39_levels_and_what_is_ove_holds : PySem.Challenge.rw_freightrights_k39_levels_and_what_is_ove.Holds :=
  k39_of 11 (by decide) (fun ns hn => K39.law_run 5 ns hn)
