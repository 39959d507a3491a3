import PyProof.Rows.All
import Wide.All
import OpenK.AllK
import Wide.FinOn
import HandS.ForMost
import HandS.Replace
import HandS.TupAny
import HandS.RaiseMore
import PyProof.TupleOfStr
import KE.GoesMore
import HandS.ForDict
import PySem.Challenge.RW_unitlimits_k42_whole_fewest_parts
set_option Elab.async false
set_option linter.all false
set_option maxRecDepth 100000
set_option maxHeartbeats 1000000
namespace MD
open PySem L2

/-! plain data, slots, the deck's state -/
inductive D where
  | non | bl (b : Bool) | int (i : Int) | str (s : Str) | lst (xs : List D) | tup (xs : List D) | deck
structure S where
  cells : List Int
  n : Int
/-- what a name alone holds and may change: a list, a dict with these keys -/
inductive Ow where
  | lst | dic (ks : List Key) | lck (ks : List Key)
def Ow.At (H : Hp) (p : Addr) : Ow → List V → Prop
  | .lst, vs => H p = some (.lst vs)
  | .dic ks, vs => H p = some (.dK (ks.zip vs)) ∧ ks.length = vs.length
  | .lck ks, vs => (∃ od, H p = some (.frz od (.dK (ks.zip vs)))) ∧ ks.length = vs.length
theorem Ow.At.some {H : Hp} {p : Addr} : ∀ {w : Ow} {vs : List V}, w.At H p vs → ∃ o, H p = some o
  | .lst, _, h => ⟨_, h⟩
  | .dic _, _, h => ⟨_, h.1⟩
  | .lck _, _, ⟨⟨_, h⟩, _⟩ => ⟨_, h⟩
theorem Ow.At.keep {H H' : Hp} {p : Addr} (e : ∀ o, H p = Option.some o → H' p = Option.some o) : ∀ {w : Ow} {vs : List V}, w.At H p vs → w.At H' p vs
  | .lst, _, h => e _ h
  | .dic _, _, h => ⟨e _ h.1, h.2⟩
  | .lck _, _, ⟨⟨od, h⟩, h2⟩ => ⟨⟨od, e _ h⟩, h2⟩
abbrev Own := Ow × List D
inductive Sl where
  | un | val (d : D) | own (xs : Own)
abbrev Sg := List Sl
abbrev Dk := Addr × Addr
abbrev Fg := PySem.W.Frag

mutual
inductive Rp (K : Fg) (dk : Dk) (F : Hp) : V → D → Prop
  | non : Rp K dk F .non .non
  | bl (b : Bool) : Rp K dk F (.bl b) (.bl b)
  | int (i : Int) : Rp K dk F (.int i) (.int i)
  | str (x : Str) : Rp K dk F (.str x) (.str x)
  | lst {a : Addr} {vs : List V} {ds : List D} : F a = some (.lst vs) → Rps K dk F vs ds → Rp K dk F (.ref a) (.lst ds)
  | tup {a : Addr} {vs : List V} {ds : List D} : SqT K F a vs → Rps K dk F vs ds → Rp K dk F (.ref a) (.tup ds)
  | deck : Rp K dk F (.ref dk.1) .deck
inductive Rps (K : Fg) (dk : Dk) (F : Hp) : List V → List D → Prop
  | nil : Rps K dk F [] []
  | cons {v : V} {vs : List V} {d : D} {ds : List D} : Rp K dk F v d → Rps K dk F vs ds → Rps K dk F (v :: vs) (d :: ds)
end

def Le (F F' : Hp) : Prop := ∀ a o, F a = some o → F' a = some o
theorem Le.refl (F : Hp) : Le F F := fun _ _ h => h
theorem Le.trans {A B C : Hp} (x : Le A B) (y : Le B C) : Le A C := fun a o h => y a o (x a o h)
theorem Le.rd {F F' : Hp} {a : Addr} {u : HO} (e : Le F F') (h : Rd F a u) : Rd F' a u := by
  rcases h with h | ⟨o, h⟩
  · exact .inl (e _ _ h)
  · exact .inr ⟨o, e _ _ h⟩
theorem Le.sqT {K : Fg} {F F' : Hp} {a : Addr} {xs : List V} (e : Le F F') (h : SqT K F a xs) : SqT K F' a xs := by
  rcases h with h | h
  · exact .inl (e.rd h)
  · exact .inr h
theorem Le.sqL {K : Fg} {F F' : Hp} {a : Addr} {xs : List V} (e : Le F F') (h : SqL K F a xs) : SqL K F' a xs := by
  rcases h with h | h
  · exact .inl (e.rd h)
  · exact .inr h
theorem Le.free {F F' : Hp} {a : Addr} (e : Le F F') (h : F' a = none) : F a = none := by
  cases q : F a with
  | none => rfl
  | some o => rw [e _ _ q] at h; cases h
theorem Le.new {F : Hp} {p : Addr} {o : HO} (h : F p = none) : Le F (upd F p o) := fun a u e => by
  rw [upd_ne (ne_of_none e h)]; exact e

mutual
theorem Rp.mono {K : Fg} {dk : Dk} {F F' : Hp} (e : Le F F') : ∀ {v : V} {d : D}, Rp K dk F v d → Rp K dk F' v d
  | _, _, .non => .non
  | _, _, .bl b => .bl b
  | _, _, .int i => .int i
  | _, _, .str x => .str x
  | _, _, .lst h r => .lst (e _ _ h) (Rps.mono e r)
  | _, _, .tup h r => .tup (e.sqT h) (Rps.mono e r)
  | _, _, .deck => .deck
theorem Rps.mono {K : Fg} {dk : Dk} {F F' : Hp} (e : Le F F') : ∀ {vs : List V} {ds : List D}, Rps K dk F vs ds → Rps K dk F' vs ds
  | _, _, .nil => .nil
  | _, _, .cons a b => .cons (Rp.mono e a) (Rps.mono e b)
end

section
variable {K : Fg} {dk : Dk} {F F' H H' : Hp}
theorem Rps.length : ∀ {vs : List V} {ds : List D}, Rps K dk F vs ds → vs.length = ds.length
  | _, _, .nil => rfl
  | _, _, .cons _ r => by simp [Rps.length r]
theorem Rps.get : ∀ {vs : List V} {ds : List D} {i : Nat} {d : D}, Rps K dk F vs ds → ds[i]? = some d → ∃ v, vs[i]? = some v ∧ Rp K dk F v d
  | _, _, _, _, .nil, e => by simp at e
  | _, _, 0, _, .cons a _, e => by simp at e; subst e; exact ⟨_, rfl, a⟩
  | _, _, i + 1, _, .cons _ r, e => by
    obtain ⟨v, h1, h2⟩ := Rps.get (i := i) r (by simpa using e)
    exact ⟨v, by simpa using h1, h2⟩
theorem Rps.getV : ∀ {vs : List V} {ds : List D} {i : Nat} {v : V}, Rps K dk F vs ds → vs[i]? = some v → ∃ d, ds[i]? = some d ∧ Rp K dk F v d
  | _, _, _, _, .nil, e => by simp at e
  | _, _, 0, _, .cons a _, e => by simp at e; subst e; exact ⟨_, rfl, a⟩
  | _, _, i + 1, _, .cons _ r, e => by
    obtain ⟨v, h1, h2⟩ := Rps.getV (i := i) r (by simpa using e)
    exact ⟨v, by simpa using h1, h2⟩
theorem Rps.append : ∀ {vs us : List V} {ds es : List D}, Rps K dk F vs ds → Rps K dk F us es → Rps K dk F (vs ++ us) (ds ++ es)
  | _, _, _, _, .nil, s => s
  | _, _, _, _, .cons a r, s => .cons a (Rps.append r s)
theorem Rps.take : ∀ {vs : List V} {ds : List D} (n : Nat), Rps K dk F vs ds → Rps K dk F (vs.take n) (ds.take n)
  | _, _, 0, _ => .nil
  | _, _, _ + 1, .nil => .nil
  | _, _, n + 1, .cons a r => .cons a (Rps.take n r)
theorem Rps.drop : ∀ {vs : List V} {ds : List D} (n : Nat), Rps K dk F vs ds → Rps K dk F (vs.drop n) (ds.drop n)
  | _, _, 0, r => r
  | _, _, _ + 1, .nil => .nil
  | _, _, n + 1, .cons _ r => Rps.drop n r
theorem Rps.one {v : V} {d : D} (r : Rp K dk F v d) : Rps K dk F [v] [d] := .cons r .nil

structure Wd (dk : Dk) (F H : Hp) (st : S) : Prop where
  sub : Le F H
  d1 : H dk.1 = some (.lst [.ref dk.2, .int st.n])
  d2 : H dk.2 = some (.lst (st.cells.map V.int))
  f1 : F dk.1 = none
  f2 : F dk.2 = none
  ne : dk.1 ≠ dk.2

structure Ext (dk : Dk) (F H F' H' : Hp) : Prop where
  h : ∀ a o, H a = some o → a ≠ dk.1 → a ≠ dk.2 → H' a = some o
  f : Le F F'
  n : ∀ a, F a = none → H a ≠ none → F' a = none
  m : ∀ a, H a ≠ none → H' a ≠ none
theorem Ext.refl (F H : Hp) : Ext dk F H F H := ⟨fun _ _ h _ _ => h, Le.refl F, fun _ h _ => h, fun _ h => h⟩
theorem Ext.trans {A B F1 H1 F2 H2 : Hp} (x : Ext dk A B F1 H1) (y : Ext dk F1 H1 F2 H2) : Ext dk A B F2 H2 :=
  ⟨fun a o h n1 n2 => y.h a o (x.h a o h n1 n2) n1 n2, x.f.trans y.f, fun a h1 h2 => y.n a (x.n a h1 h2) (x.m a h2), fun a h => y.m a (x.m a h)⟩

/-- an operation that keeps all and only lays new things -/
structure Px (F H F' H' : Hp) : Prop where
  h : Le H H'
  f : Le F F'
  n : ∀ a, F a = none → H a ≠ none → F' a = none
  s : Le F' H'
theorem Px.refl (s : Le F H) : Px F H F H := ⟨Le.refl H, Le.refl F, fun _ h _ => h, s⟩
theorem Px.ext (x : Px F H F' H') : Ext dk F H F' H' := ⟨fun a o e _ _ => x.h a o e, x.f, x.n, fun a h z => h (x.h.free z)⟩
theorem Px.wd {st : S} (x : Px F H F' H') (w : Wd dk F H st) : Wd dk F' H' st :=
  ⟨x.s, x.h _ _ w.d1, x.h _ _ w.d2, x.n _ w.f1 (by rw [w.d1]; exact fun z => nomatch z), x.n _ w.f2 (by rw [w.d2]; exact fun z => nomatch z), w.ne⟩
theorem Px.trans {F2 H2 : Hp} (x : Px F H F' H') (y : Px F' H' F2 H2) : Px F H F2 H2 :=
  ⟨x.h.trans y.h, x.f.trans y.f, fun a h1 h2 => y.n a (x.n a h1 h2) (fun z => h2 (x.h.free z)), y.s⟩
/-- a new frozen thing -/
theorem Px.new {p : Addr} {o : HO} (s : Le F H) (hp : H p = none) : Px F H (upd F p o) (upd H p o) := by
  have fp : F p = none := s.free hp
  refine ⟨Le.new hp, Le.new fp, fun a h1 h2 => ?_, fun a u e => ?_⟩
  · have na : a ≠ p := fun z => h2 (z ▸ hp)
    rw [upd_ne na]; exact h1
  · by_cases na : a = p
    · subst na; rw [upd_same] at e ⊢; exact e
    · rw [upd_ne na] at e ⊢; exact s a u e
/-- a new thing that is not frozen -/
theorem Px.lay {p : Addr} {o : HO} (s : Le F H) (hp : H p = none) : Px F H F (upd H p o) :=
  ⟨Le.new hp, Le.refl F, fun _ h _ => h, s.trans (Le.new hp)⟩

/-- a list that may still be somebody's own -/
def Rw (K : Fg) (dk : Dk) (F H : Hp) (v : V) (d : D) : Prop :=
  Rp K dk F v d ∨ ∃ p vs ds, v = .ref p ∧ d = .lst ds ∧ H p = some (.lst vs) ∧ p ≠ dk.1 ∧ p ≠ dk.2 ∧ Rps K dk F vs ds
theorem Rw.ext {v : V} {d : D} (r : Rw K dk F H v d) (x : Ext dk F H F' H') : Rw K dk F' H' v d := by
  rcases r with r | ⟨p, vs, ds, h1, h2, h3, h4, h5, h6⟩
  · exact .inl (r.mono x.f)
  · exact .inr ⟨p, vs, ds, h1, h2, x.h _ _ h3 h4 h5, h4, h5, h6.mono x.f⟩
inductive Rws (K : Fg) (dk : Dk) (F H : Hp) : List V → List D → Prop
  | nil : Rws K dk F H [] []
  | cons {v : V} {vs : List V} {d : D} {ds : List D} : Rw K dk F H v d → Rws K dk F H vs ds → Rws K dk F H (v :: vs) (d :: ds)
theorem Rws.ext (x : Ext dk F H F' H') : ∀ {vs : List V} {ds : List D}, Rws K dk F H vs ds → Rws K dk F' H' vs ds
  | _, _, .nil => .nil
  | _, _, .cons a b => .cons (a.ext x) (Rws.ext x b)
/-- a list in H, whoever owns it -/
theorem Rw.lst {v : V} {ds : List D} (s : Le F H) (r : Rw K dk F H v (.lst ds)) : ∃ p vs, v = .ref p ∧ H p = some (.lst vs) ∧ Rps K dk F vs ds := by
  rcases r with r | ⟨p, vs, ds', h1, h2, h3, _, _, h6⟩
  · cases r with
    | lst h r => exact ⟨_, _, rfl, s _ _ h, r⟩
  · cases h2; exact ⟨p, vs, h1, h3, h6⟩
theorem Rw.tup {v : V} {ds : List D} (s : Le F H) (r : Rw K dk F H v (.tup ds)) : ∃ p vs, v = .ref p ∧ SqT K H p vs ∧ Rps K dk F vs ds := by
  rcases r with r | ⟨p, vs, ds', h1, h2, _⟩
  · cases r with
    | tup h r => exact ⟨_, _, rfl, s.sqT h, r⟩
  · cases h2
theorem Rw.int {v : V} {i : Int} (r : Rw K dk F H v (.int i)) : v = .int i := by
  rcases r with r | ⟨p, vs, ds', h1, h2, _⟩
  · cases r; rfl
  · cases h2
theorem Rw.str {v : V} {x : Str} (r : Rw K dk F H v (.str x)) : v = .str x := by
  rcases r with r | ⟨p, vs, ds', h1, h2, _⟩
  · cases r; rfl
  · cases h2
theorem Rw.bl {v : V} {b : Bool} (r : Rw K dk F H v (.bl b)) : v = .bl b := by
  rcases r with r | ⟨p, vs, ds', h1, h2, _⟩
  · cases r; rfl
  · cases h2
theorem Rw.non {v : V} (r : Rw K dk F H v .non) : v = .non := by
  rcases r with r | ⟨p, vs, ds', h1, h2, _⟩
  · cases r; rfl
  · cases h2
theorem Rw.isNon {v : V} {d : D} (r : Rw K dk F H v d) : decide (v = .non) = (match d with | .non => true | _ => false) := by
  rcases r with r | ⟨p, vs, ds', h1, h2, _⟩
  · cases r <;> rfl
  · subst h1 h2; rfl

/-! slots -/
def SlOk (K : Fg) (dk : Dk) (F H H0 : Hp) (v : Option V) : Sl → Prop
  | .un => True
  | .val d => ∃ x, v = some x ∧ Rp K dk F x d
  | .own w => ∃ p vs, v = some (.ref p) ∧ w.1.At H p vs ∧ F p = none ∧ H0 p = none ∧ p ≠ dk.1 ∧ p ≠ dk.2 ∧ Rps K dk F vs w.2
structure Good (K : Fg) (dk : Dk) (H0 F0 F : Hp) (σ : L2.St) (H : Hp) (env : Sg) (st : S) : Prop where
  wd : Wd dk F H st
  ext : Ext dk F0 H0 F H
  len : σ.length = env.length
  sl : ∀ (i : Nat) (s : Sl), env[i]? = some s → SlOk K dk F H H0 (σ[i]?).join s
  dis : ∀ (i j : Nat) (ds es : Own) (p : Addr), i ≠ j → env[i]? = some (.own ds) → env[j]? = some (.own es) → σ[i]? = some (some (.ref p)) → σ[j]? ≠ some (some (.ref p))
theorem Good.step {H0 F0 : Hp} {σ : L2.St} {env : Sg} {st st' : S} (g : Good K dk H0 F0 F σ H env st) (x : Ext dk F H F' H') (w : Wd dk F' H' st') : Good K dk H0 F0 F' σ H' env st' := by
  refine ⟨w, g.ext.trans x, g.len, fun i s e => ?_, g.dis⟩
  have q := g.sl i s e
  cases s with
  | un => trivial
  | val d => obtain ⟨v, h1, h2⟩ := q; exact ⟨v, h1, h2.mono x.f⟩
  | own ds =>
    obtain ⟨p, vs, h1, h2, h3, h4, h5, h6, h7⟩ := q
    exact ⟨p, vs, h1, h2.keep fun o e => x.h _ _ e h5 h6, x.n _ h3 (by obtain ⟨o, ho⟩ := h2.some; rw [ho]; exact fun z => nomatch z), h4, h5, h6, h7.mono x.f⟩
theorem Good.px {H0 F0 : Hp} {σ : L2.St} {env : Sg} {st : S} (g : Good K dk H0 F0 F σ H env st) (x : Px F H F' H') : Good K dk H0 F0 F' σ H' env st := g.step x.ext (x.wd g.wd)
end
end MD

set_option Elab.async false
set_option linter.all false
set_option maxRecDepth 100000
set_option maxHeartbeats 1000000
namespace MD
open PySem L2

abbrev ME := Sg → S → Option (D × S)
abbrev MT := Sg → S → Option (Bool × S)
abbrev MA := Sg → S → Option (List D × S)

section
variable (K : Fg)
def Im (te : TE) (f : ME) : Prop := ∀ (dk : Dk) (H0 F0 F : Hp) (σ : L2.St) (H : Hp) (env : Sg) (st : S) (d : D) (st' : S), Good K dk H0 F0 F σ H env st → f env st = some (d, st') →
  ∀ Q : VK, (∀ v F' H', Ext dk F H F' H' → Good K dk H0 F0 F' σ H' env st' → Rp K dk F' v d → Q v H') → te σ H Q
def ImW (te : TE) (f : ME) : Prop := ∀ (dk : Dk) (H0 F0 F : Hp) (σ : L2.St) (H : Hp) (env : Sg) (st : S) (d : D) (st' : S), Good K dk H0 F0 F σ H env st → f env st = some (d, st') →
  ∀ Q : VK, (∀ v F' H', Ext dk F H F' H' → Good K dk H0 F0 F' σ H' env st' → Rw K dk F' H' v d → Q v H') → te σ H Q
def ImF (te : TE) (f : MA) : Prop := ∀ (dk : Dk) (H0 F0 F : Hp) (σ : L2.St) (H : Hp) (env : Sg) (st : S) (ds : List D) (st' : S), Good K dk H0 F0 F σ H env st → f env st = some (ds, st') →
  ∀ Q : VK, (∀ p vs F' H', Ext dk F H F' H' → Good K dk H0 F0 F' σ H' env st' → H p = none → F' p = none → H' p = some (.lst vs) → Rps K dk F' vs ds → Q (.ref p) H') → te σ H Q
def ImT (tt : TT) (f : MT) : Prop := ∀ (dk : Dk) (H0 F0 F : Hp) (σ : L2.St) (H : Hp) (env : Sg) (st : S) (b : Bool) (st' : S), Good K dk H0 F0 F σ H env st → f env st = some (b, st') →
  ∀ Q : Bool → Hp → Prop, (∀ F' H', Ext dk F H F' H' → Good K dk H0 F0 F' σ H' env st' → Q b H') → tt σ H Q
def ImA (ta : TA) (f : MA) : Prop := ∀ (dk : Dk) (H0 F0 F : Hp) (σ : L2.St) (H : Hp) (env : Sg) (st : S) (ds : List D) (st' : S), Good K dk H0 F0 F σ H env st → f env st = some (ds, st') →
  ∀ Q : List V → Hp → Prop, (∀ vs F' H', Ext dk F H F' H' → Good K dk H0 F0 F' σ H' env st' → Rps K dk F' vs ds → Q vs H') → ta σ H Q
def ImAW (ta : TA) (f : MA) : Prop := ∀ (dk : Dk) (H0 F0 F : Hp) (σ : L2.St) (H : Hp) (env : Sg) (st : S) (ds : List D) (st' : S), Good K dk H0 F0 F σ H env st → f env st = some (ds, st') →
  ∀ Q : List V → Hp → Prop, (∀ vs F' H', Ext dk F H F' H' → Good K dk H0 F0 F' σ H' env st' → Rws K dk F' H' vs ds → Q vs H') → ta σ H Q
end

theorem bnd {α β : Type} {o : Option α} {f : α → Option β} {b : β} (h : o.bind f = some b) : ∃ a, o = some a ∧ f a = some b := by
  cases o with
  | none => cases h
  | some a => exact ⟨a, rfl, h⟩
theorem mpd {α β : Type} {o : Option α} {f : α → β} {b : β} (h : o.map f = some b) : ∃ a, o = some a ∧ f a = b := by
  cases o with
  | none => cases h
  | some a => exact ⟨a, rfl, Option.some.inj h⟩

section
variable {K : Fg} {dk : Dk} {F F' H H' H0 F0 : Hp} {σ : L2.St} {env : Sg} {st : S}
theorem Good.fresh0 (g : Good K dk H0 F0 F σ H env st) {p : Addr} (hp : H p = none) : H0 p = none := by
  cases q : H0 p with
  | none => rfl
  | some o => exact absurd hp (g.ext.m p (by rw [q]; exact fun z => nomatch z))
theorem Good.nedk (g : Good K dk H0 F0 F σ H env st) {p : Addr} (hp : H p = none) : p ≠ dk.1 ∧ p ≠ dk.2 :=
  ⟨fun z => (by rw [z, g.wd.d1] at hp; cases hp), fun z => (by rw [z, g.wd.d2] at hp; cases hp)⟩
theorem join_eq {x : Option (Option V)} {v : V} (h : x.join = some v) : x = some (some v) := by
  cases x with
  | none => cases h
  | some y => cases y with
    | none => cases h
    | some z => rw [show z = v from Option.some.inj h]
theorem Good.noown (g : Good K dk H0 F0 F σ H env st) {p : Addr} (hp : H p = none) : ∀ (i : Nat) (ds : Own), env[i]? = some (.own ds) → σ[i]? ≠ some (some (.ref p)) := fun i ds e z => by
  obtain ⟨q, vs, h1, h2, _⟩ := g.sl i _ e
  have h3 := join_eq h1
  rw [z] at h3
  cases h3
  obtain ⟨o, ho⟩ := h2.some
  rw [hp] at ho; cases ho
/-- what is nobody's own may be frozen -/
theorem Good.freeze {p : Addr} {o : HO} (g : Good K dk H0 F0 F σ H env st) (hp : H p = some o) (fp : F p = none) (h0 : H0 p = none) (n1 : p ≠ dk.1) (n2 : p ≠ dk.2)
    (no : ∀ (i : Nat) (ds : Own), env[i]? = some (.own ds) → σ[i]? ≠ some (some (.ref p))) : Good K dk H0 F0 (upd F p o) σ H env st := by
  have le : Le F (upd F p o) := Le.new fp
  refine ⟨⟨fun a u e => ?_, g.wd.d1, g.wd.d2, by rw [upd_ne n1.symm]; exact g.wd.f1, by rw [upd_ne n2.symm]; exact g.wd.f2, g.wd.ne⟩, ⟨g.ext.h, g.ext.f.trans le, fun a h1 h2 => ?_, g.ext.m⟩, g.len, fun i s e => ?_, g.dis⟩
  · by_cases na : a = p
    · subst na; rw [upd_same] at e; rw [← e]; exact hp
    · rw [upd_ne na] at e; exact g.wd.sub a u e
  · have na : a ≠ p := fun z => h2 (z ▸ h0)
    rw [upd_ne na]; exact g.ext.n a h1 h2
  · have q := g.sl i s e
    cases s with
    | un => trivial
    | val d => obtain ⟨v, h1, h2⟩ := q; exact ⟨v, h1, h2.mono le⟩
    | own ds =>
      obtain ⟨r, vs, h1, h2, h3, h4, h5, h6, h7⟩ := q
      have nr : r ≠ p := fun z => no i ds e (by rw [← z]; exact join_eq h1)
      exact ⟨r, vs, h1, h2, by rw [upd_ne nr]; exact h3, h4, h5, h6, h7.mono le⟩
theorem Ext.freeze {p : Addr} {o : HO} (x : Ext dk F H F' H') (hp : H p = none) (fp : F' p = none) : Ext dk F H (upd F' p o) H' :=
  ⟨x.h, x.f.trans (Le.new fp), fun a h1 h2 => by
    have na : a ≠ p := fun z => h2 (z ▸ hp)
    rw [upd_ne na]; exact x.n a h1 h2, x.m⟩

theorem Im.w {te : TE} {f : ME} (h : Im K te f) : ImW K te f := fun dk H0 F0 F σ H env st d st' g e Q q =>
  h dk H0 F0 F σ H env st d st' g e Q fun v F' H' x g' r => q v F' H' x g' (.inl r)
def frz (f : MA) : ME := fun env st => (f env st).map fun p => (.lst p.1, p.2)
theorem ImF.im {te : TE} {f : MA} (h : ImF K te f) : Im K te (frz f) := fun dk H0 F0 F σ H env st d st' g e Q q => by
  obtain ⟨⟨ds, s1⟩, h1, h2⟩ := mpd e
  cases h2
  refine h dk H0 F0 F σ H env st ds s1 g h1 Q fun p vs F' H' x g' hp fp hl r => ?_
  have nd := g.nedk hp
  have le : Le F' (upd F' p (.lst vs)) := Le.new fp
  exact q (.ref p) (upd F' p (.lst vs)) H' (x.freeze hp fp) (g'.freeze hl fp (g.fresh0 hp) nd.1 nd.2 (g.noown hp)) (.lst upd_same (r.mono le))
theorem ImF.w {te : TE} {f : MA} (h : ImF K te f) : ImW K te (frz f) := h.im.w

/-! names, constants -/
def rd (i : Nat) : ME := fun env st => match env[i]? with
  | some (.val d) => some (d, st)
  | _ => none
def rdW (i : Nat) : ME := fun env st => match env[i]? with
  | some (.val d) => some (d, st)
  | some (.own (.lst, ds)) => some (.lst ds, st)
  | _ => none
theorem im_var (i : Nat) : Im K (tVar i) (rd i) := fun dk H0 F0 F σ H env st d st' g e Q q => by
  unfold rd at e
  split at e
  · rename_i d' he
    cases e
    obtain ⟨v, h1, h2⟩ := g.sl i _ he
    exact ⟨v, join_eq h1, q v F H (Ext.refl F H) g h2⟩
  · cases e
theorem im_own (i : Nat) : ImW K (tVar i) (rdW i) := fun dk H0 F0 F σ H env st d st' g e Q q => by
  unfold rdW at e
  split at e
  · rename_i d' he
    cases e
    obtain ⟨v, h1, h2⟩ := g.sl i _ he
    exact ⟨v, join_eq h1, q v F H (Ext.refl F H) g (.inl h2)⟩
  · rename_i ds he
    cases e
    obtain ⟨p, vs, h1, h2, h3, h4, h5, h6, h7⟩ := g.sl i _ he
    exact ⟨.ref p, join_eq h1, q (.ref p) F H (Ext.refl F H) g (.inr ⟨p, vs, ds, rfl, rfl, h2, h5, h6, h7⟩)⟩
  · cases e
def cst (d : D) : ME := fun _ st => some (d, st)
/-- a value that stands for itself in every heap -/
def Rc (K : Fg) (v : V) (d : D) : Prop := ∀ dk F, Rp K dk F v d
theorem im_c {v : V} {d : D} (h : Rc K v d) : Im K (tC v) (cst d) := fun dk H0 F0 F σ H env st d' st' g e Q q => by
  cases e
  exact q v F H (Ext.refl F H) g (h dk F)
theorem im_int {i : Int} : Im K (tC (.int i)) (cst (.int i)) := im_c fun _ _ => .int i
theorem im_str {i : Str} : Im K (tC (.str i)) (cst (.str i)) := im_c fun _ _ => .str i
theorem im_bl {i : Bool} : Im K (tC (.bl i)) (cst (.bl i)) := im_c fun _ _ => .bl i
theorem im_non : Im K (tC .non) (cst .non) := im_c fun _ _ => .non

/-! two-place operations on values -/
def RO (K : Fg) (r : R2) (f : D → D → Option D) : Prop := ∀ (dk : Dk) (F H : Hp) (st : S) (x y : V) (d e z : D), Wd dk F H st → Rw K dk F H x d → Rw K dk F H y e → f d e = some z →
  ∀ Q : VK, (∀ v F' H', Px F H F' H' → Rp K dk F' v z → Q v H') → r x y H Q
def ROF (K : Fg) (r : R2) (f : D → D → Option (List D)) : Prop := ∀ (dk : Dk) (F H : Hp) (st : S) (x y : V) (d e : D) (z : List D), Wd dk F H st → Rw K dk F H x d → Rw K dk F H y e → f d e = some z →
  ∀ Q : VK, (∀ p vs, H p = none → Rps K dk F vs z → Q (.ref p) (upd H p (.lst vs))) → r x y H Q
def opM (f : D → D → Option D) (fa fb : ME) : ME := fun env st => (fa env st).bind fun p => (fb env p.2).bind fun q => (f p.1 q.1).map fun z => (z, q.2)
def opF (f : D → D → Option (List D)) (fa fb : ME) : MA := fun env st => (fa env st).bind fun p => (fb env p.2).bind fun q => (f p.1 q.1).map fun z => (z, q.2)
theorem im_op {r : R2} {f : D → D → Option D} {ta tb : TE} {fa fb : ME} (hr : RO K r f) (ha : ImW K ta fa) (hb : ImW K tb fb) : Im K (tOp r ta tb) (opM f fa fb) := fun dk H0 F0 F σ H env st d st' g e Q q => by
  obtain ⟨⟨x, s1⟩, h1, e⟩ := bnd e
  obtain ⟨⟨y, s2⟩, h2, e⟩ := bnd e
  obtain ⟨z, h3, e⟩ := mpd e
  cases e
  refine ha dk H0 F0 F σ H env st x s1 g h1 _ fun v F1 H1 x1 g1 r1 => ?_
  refine hb dk H0 F0 F1 σ H1 env s1 y s2 g1 h2 _ fun u F2 H2 x2 g2 r2 => ?_
  exact hr dk F2 H2 s2 v u x y d g2.wd (r1.ext x2) r2 h3 Q fun w F3 H3 px r3 => q w F3 H3 ((x1.trans x2).trans px.ext) (g2.px px) r3
theorem im_opF {r : R2} {f : D → D → Option (List D)} {ta tb : TE} {fa fb : ME} (hr : ROF K r f) (ha : ImW K ta fa) (hb : ImW K tb fb) : ImF K (tOp r ta tb) (opF f fa fb) := fun dk H0 F0 F σ H env st d st' g e Q q => by
  obtain ⟨⟨x, s1⟩, h1, e⟩ := bnd e
  obtain ⟨⟨y, s2⟩, h2, e⟩ := bnd e
  obtain ⟨z, h3, e⟩ := mpd e
  cases e
  refine ha dk H0 F0 F σ H env st x s1 g h1 _ fun v F1 H1 x1 g1 r1 => ?_
  refine hb dk H0 F0 F1 σ H1 env s1 y s2 g1 h2 _ fun u F2 H2 x2 g2 r2 => ?_
  refine hr dk F2 H2 s2 v u x y d g2.wd (r1.ext x2) r2 h3 Q fun p vs hp r3 => ?_
  have x12 := x1.trans x2
  have h0 : H p = none := by
    cases w : H p with
    | none => rfl
    | some o => exact absurd hp (x12.m p (by rw [w]; exact fun z => nomatch z))
  have px : Px F2 H2 F2 (upd H2 p (.lst vs)) := Px.lay g2.wd.sub hp
  exact q p vs F2 _ (x12.trans px.ext) (g2.px px) h0 (g2.wd.sub.free hp) upd_same r3
theorem RO.or {r r' : R2} {f f' : D → D → Option D} (h : RO K r f) (h' : RO K r' f') : RO K (fun x y H Q => r x y H Q ∨ r' x y H Q) (fun d e => (f d e).orElse fun _ => f' d e) := by
  intro dk F H st x y d e z w rx ry hz Q q
  replace hz : ((f d e).orElse fun _ => f' d e) = some z := hz
  cases hf : f d e with
  | some y' =>
    rw [hf] at hz
    have : some y' = some z := hz
    cases this
    exact .inl (h dk F H st x y d e z w rx ry hf Q q)
  | none =>
    rw [hf] at hz
    exact .inr (h' dk F H st x y d e z w rx ry hz Q q)
theorem ROF.ro {r : R2} {f : D → D → Option (List D)} (h : ROF K r f) : RO K r (fun d e => (f d e).map D.lst) := by
  intro dk F H st x y d e z w rx ry hz Q q
  obtain ⟨ds, h1, h2⟩ := mpd hz
  subst h2
  refine h dk F H st x y d e ds w rx ry h1 Q fun p vs hp r => ?_
  have px : Px F H (upd F p (.lst vs)) (upd H p (.lst vs)) := Px.new w.sub hp
  exact q (.ref p) _ _ px (.lst upd_same (r.mono px.f))

/-! ints -/
def iI (g : Int → Int → D) : D → D → Option D
  | .int i, .int j => some (g i j)
  | _, _ => none
def iIC (C : Int → Int → Prop) [∀ i j, Decidable (C i j)] (g : Int → Int → D) : D → D → Option D
  | .int i, .int j => if C i j then some (g i j) else none
  | _, _ => none
theorem ro_I0 {g : Int → Int → V} {g' : Int → Int → D} (h : ∀ i j, Rc K (g i j) (g' i j)) : RO K (rI0 g) (iI g') := by
  intro dk F H st x y d e z w rx ry hz Q q
  unfold iI at hz
  split at hz
  · rename_i i j
    cases hz
    cases rx.int
    cases ry.int
    exact ⟨i, j, rfl, rfl, q _ F H (Px.refl w.sub) (h i j dk F)⟩
  · cases hz
theorem ro_I {C : Int → Int → Prop} [∀ i j, Decidable (C i j)] {g : Int → Int → V} {g' : Int → Int → D} (h : ∀ i j, Rc K (g i j) (g' i j)) : RO K (rI C g) (iIC C g') := by
  intro dk F H st x y d e z w rx ry hz Q q
  unfold iIC at hz
  split at hz
  · rename_i i j
    split at hz
    · rename_i hc
      cases hz
      cases rx.int
      cases ry.int
      exact ⟨i, j, rfl, rfl, hc, q _ F H (Px.refl w.sub) (h i j dk F)⟩
    · cases hz
  · cases hz
theorem rc_int (i : Int) : Rc K (.int i) (.int i) := fun _ _ => .int i
theorem rc_bl (i : Bool) : Rc K (.bl i) (.bl i) := fun _ _ => .bl i
theorem rc_str (i : Str) : Rc K (.str i) (.str i) := fun _ _ => .str i
instance : ∀ i j, Decidable (CMul i j) := fun i j => by unfold CMul; exact inferInstance
instance : ∀ i j, Decidable (CDiv i j) := fun i j => by unfold CDiv; exact inferInstance
instance : ∀ i j, Decidable (CPow i j) := fun i j => by unfold CPow; exact inferInstance

/-! + -/
def strCat : D → D → Option D
  | .str i, .str j => if i.length + j.length ≤ sizeLine then some (.str (i ++ j)) else none
  | _, _ => none
def tupCat : D → D → Option D
  | .tup i, .tup j => if i.length + j.length ≤ sizeLine then some (.tup (i ++ j)) else none
  | _, _ => none
def lstCat : D → D → Option (List D)
  | .lst i, .lst j => if i.length + j.length ≤ sizeLine then some (i ++ j) else none
  | _, _ => none
theorem ro_strCat : RO K (fun x y H Q => ∃ i j, x = .str i ∧ y = .str j ∧ i.length + j.length ≤ sizeLine ∧ Q (.str (i ++ j)) H) strCat := by
  intro dk F H st x y d e z w rx ry hz Q q
  unfold strCat at hz
  split at hz
  · rename_i i j
    split at hz
    · rename_i hc
      cases hz
      exact ⟨i, j, rx.str, ry.str, hc, q _ F H (Px.refl w.sub) (.str _)⟩
    · cases hz
  · cases hz
theorem ro_tupCat : RO K (rCatA K) tupCat := by
  intro dk F H st x y d e z w rx ry hz Q q
  unfold tupCat at hz
  split at hz
  · rename_i i j
    split at hz
    · rename_i hc
      cases hz
      obtain ⟨p, vs, e1, h1, r1⟩ := rx.tup w.sub
      obtain ⟨p2, vs2, e2, h2, r2⟩ := ry.tup w.sub
      refine ⟨p, p2, vs, vs2, e1, e2, h1, h2, by rw [r1.length, r2.length]; exact hc, fun z => ?_, fun _ z => ?_, fun _ _ a ha => ?_⟩
      · subst z
        cases r1
        subst e2
        rcases ry with ry | ⟨_, _, _, _, q2, _⟩
        · exact q _ F H (Px.refl w.sub) ry
        · cases q2
      · subst z
        cases r2
        subst e1
        rw [List.append_nil] at q
        rcases rx with rx | ⟨_, _, _, _, q2, _⟩
        · exact q _ F H (Px.refl w.sub) rx
        · cases q2
      · have px : Px F H (upd F a (.tup (vs ++ vs2))) (upd H a (.tup (vs ++ vs2))) := Px.new w.sub ha
        exact q _ _ _ px (.tup (SqT.of upd_same) ((r1.append r2).mono px.f))
    · cases hz
  · cases hz
theorem rof_lstCat : ROF K rCat lstCat := by
  intro dk F H st x y d e z w rx ry hz Q q
  unfold lstCat at hz
  split at hz
  · rename_i i j
    split at hz
    · rename_i hc
      cases hz
      obtain ⟨p, vs, e1, h1, r1⟩ := rx.lst w.sub
      obtain ⟨p2, vs2, e2, h2, r2⟩ := ry.lst w.sub
      exact ⟨p, p2, vs, vs2, e1, e2, h1, h2, by rw [r1.length, r2.length]; exact hc, fun a ha => q a _ ha (r1.append r2)⟩
    · cases hz
  · cases hz
end
end MD

set_option Elab.async false
set_option linter.all false
set_option maxRecDepth 100000
set_option maxHeartbeats 1000000
namespace MD
open PySem L2

/-! ### data as the library's -/
mutual
def D.py : D → PyData
  | .non => .none
  | .bl b => .bool b
  | .int i => .int i
  | .str s => .str s
  | .lst xs => .list (pyAll xs)
  | .tup xs => .tuple (pyAll xs)
  | .deck => .none
def pyAll : List D → List PyData
  | [] => []
  | x :: xs => D.py x :: pyAll xs
end
mutual
def D.pl : D → Bool
  | .lst xs => plAll xs
  | .tup xs => plAll xs
  | .deck => false
  | _ => true
def plAll : List D → Bool
  | [] => true
  | x :: xs => D.pl x && plAll xs
end
mutual
theorem Rp.dp {K : Fg} {dk : Dk} {F H : Hp} (le : Le F H) : ∀ {v : V} {d : D}, Rp K dk F v d → d.pl = true → Dp K H v d.py
  | _, _, .non, _ => .non
  | _, _, .bl b, _ => .bl b
  | _, _, .int i, _ => .int i
  | _, _, .str x, _ => .str x
  | _, _, .lst h r, p => .lst (SqL.of (le _ _ h)) (Rps.dp le r (by simpa [D.pl] using p))
  | _, _, .tup h r, p => .tup (le.sqT h) (Rps.dp le r (by simpa [D.pl] using p))
  | _, _, .deck, p => by simp [D.pl] at p
theorem Rps.dp {K : Fg} {dk : Dk} {F H : Hp} (le : Le F H) : ∀ {vs : List V} {ds : List D}, Rps K dk F vs ds → plAll ds = true → DpAll K H vs (pyAll ds)
  | _, _, .nil, _ => .nil
  | _, _, .cons a b, p => by
    rw [plAll, Bool.and_eq_true] at p
    exact .cons (Rp.dp le a p.1) (Rps.dp le b p.2)
end
section
variable {K : Fg} {dk : Dk} {F F' H H' H0 F0 : Hp} {σ : L2.St} {env : Sg} {st : S}
theorem Rw.dp (le : Le F H) {v : V} {d : D} (r : Rw K dk F H v d) (p : d.pl = true) : Dp K H v d.py := by
  rcases r with r | ⟨a, vs, ds, rfl, rfl, h, _, _, r⟩
  · exact r.dp le p
  · exact .lst (SqL.of h) (r.dp le (by simpa [D.pl] using p))

/-! ### == -/
def sEq : D → D → Option Bool
  | .non, .non => some true
  | .non, .int _ => some false | .int _, .non => some false
  | .non, .str _ => some false | .str _, .non => some false
  | .int i, .int j => some (decide (i = j))
  | .bl i, .bl j => some (decide (i = j))
  | .str i, .str j => some (decide (i = j))
  | _, _ => none
def okD (d : D) : Bool := d.pl && SeqAt.shaped d.py
def eqB (d e : D) : Option Bool := match sEq d e with
  | some b => some b
  | none => if okD d && okD e then some (PyData.eqv d.py e.py) else none
def eqM (d e : D) : Option D := (eqB d e).map D.bl
def neM (d e : D) : Option D := (eqB d e).map fun b => D.bl (!b)
theorem dec_congr {p q : Prop} [Decidable p] [Decidable q] (h : p ↔ q) : decide p = decide q := by
  by_cases hp : p
  · rw [decide_eq_true hp, decide_eq_true (h.mp hp)]
  · rw [decide_eq_false hp, decide_eq_false fun z => hp (h.mpr z)]
theorem sEq_ok {x y : V} {d e : D} {b : Bool} (rx : Rw K dk F H x d) (ry : Rw K dk F H y e) (h : sEq d e = some b) : scal x y = true ∧ decide (x = y) = b := by
  unfold sEq at h
  split at h <;> cases h
  · cases rx.non; cases ry.non; exact ⟨rfl, rfl⟩
  · cases rx.non; cases ry.int; exact ⟨rfl, rfl⟩
  · cases rx.int; cases ry.non; exact ⟨rfl, rfl⟩
  · cases rx.non; cases ry.str; exact ⟨rfl, rfl⟩
  · cases rx.str; cases ry.non; exact ⟨rfl, rfl⟩
  · cases rx.int; cases ry.int; exact ⟨rfl, dec_congr ⟨fun z => V.int.inj z, fun z => by rw [z]⟩⟩
  · cases rx.bl; cases ry.bl; exact ⟨rfl, dec_congr ⟨fun z => V.bl.inj z, fun z => by rw [z]⟩⟩
  · cases rx.str; cases ry.str; exact ⟨rfl, dec_congr ⟨fun z => V.str.inj z, fun z => by rw [z]⟩⟩
def rEqA (K : Fg) : R2 := fun x y H Q => rEq x y H Q ∨ rEqD K x y H Q
def rNeA (K : Fg) : R2 := fun x y H Q => rNe x y H Q ∨ rNeD K x y H Q
theorem OpR.or {X : Cx} {f : Value → Value → Sem Value} {r r' : R2} (h : OpR X f r) (h' : OpR X f r') : OpR X f (fun x y H Q => r x y H Q ∨ r' x y H Q) := by
  intro pins s σ H x y v u Q I rx ry q
  rcases q with q | q
  · exact h pins s σ H x y v u Q I rx ry q
  · exact h' pins s σ H x y v u Q I rx ry q
theorem eqB_ok {x y : V} {d e : D} {b : Bool} (le : Le F H) (rx : Rw K dk F H x d) (ry : Rw K dk F H y e) (h : eqB d e = some b) :
    (scal x y = true ∧ decide (x = y) = b) ∨ ∃ d e, Dp K H x d ∧ Dp K H y e ∧ SeqAt.shaped d = true ∧ SeqAt.shaped e = true ∧ PyData.eqv d e = b := by
  unfold eqB at h
  split at h
  · rename_i b' hb
    cases h
    exact .inl (sEq_ok rx ry hb)
  · split at h
    · rename_i ho
      cases h
      rw [Bool.and_eq_true, okD, okD, Bool.and_eq_true, Bool.and_eq_true] at ho
      exact .inr ⟨d.py, e.py, rx.dp le ho.1.1, ry.dp le ho.2.1, ho.1.2, ho.2.2, rfl⟩
    · cases h
theorem ro_eq : RO K (rEqA K) eqM := by
  intro dk F H st x y d e z w rx ry hz Q q
  obtain ⟨b, hb, rfl⟩ := mpd hz
  have q0 := q (.bl b) F H (Px.refl w.sub) (.bl b)
  rcases eqB_ok w.sub rx ry hb with ⟨h1, h2⟩ | ⟨d', e', h1, h2, h3, h4, h5⟩
  · exact .inl ⟨h1, by rw [h2]; exact q0⟩
  · exact .inr ⟨d', e', h1, h2, h3, h4, by rw [h5]; exact q0⟩
theorem ro_ne : RO K (rNeA K) neM := by
  intro dk F H st x y d e z w rx ry hz Q q
  obtain ⟨b, hb, rfl⟩ := mpd hz
  have q0 := q (.bl (!b)) F H (Px.refl w.sub) (.bl (!b))
  rcases eqB_ok w.sub rx ry hb with ⟨h1, h2⟩ | ⟨d', e', h1, h2, h3, h4, h5⟩
  · exact .inl ⟨h1, by rw [h2]; exact q0⟩
  · exact .inr ⟨d', e', h1, h2, h3, h4, by rw [h5]; exact q0⟩
theorem op_eqA {X : Cx} (hu : X.A.units + 64 < cLine) : OpR X (compareOp .Eq) (rEqA X.K) := OpR.or op_eq (op_eqD hu)
theorem op_neA {X : Cx} (hu : X.A.units + 64 < cLine) : OpR X (compareOp .NotEq) (rNeA X.K) := OpR.or op_ne (op_neD hu)

/-! ### is None -/
def nonD : D → Bool
  | .non => true
  | _ => false
def isM : D → D → Option D
  | d, .non => some (.bl (nonD d))
  | _, _ => none
def isNotM : D → D → Option D
  | d, .non => some (.bl (!nonD d))
  | _, _ => none
theorem Rw.isN {v : V} {d : D} (r : Rw K dk F H v d) : decide (v = .non) = nonD d := by
  rw [r.isNon]; cases d <;> rfl
theorem ro_is : RO K (fun x y H Q => y = .non ∧ Q (.bl (decide (x = .non))) H) isM := by
  intro dk F H st x y d e z w rx ry hz Q q
  unfold isM at hz
  split at hz
  · cases hz
    exact ⟨ry.non, by rw [rx.isN]; exact q _ F H (Px.refl w.sub) (.bl _)⟩
  · cases hz
theorem ro_isNot : RO K (fun x y H Q => y = .non ∧ Q (.bl (!decide (x = .non))) H) isNotM := by
  intro dk F H st x y d e z w rx ry hz Q q
  unfold isNotM at hz
  split at hz
  · cases hz
    exact ⟨ry.non, by rw [rx.isN]; exact q _ F H (Px.refl w.sub) (.bl _)⟩
  · cases hz

/-! ### in -/
def signOf (a : Str) : Option Nat := match a.cps.toList with
  | [c] => some c
  | _ => none
theorem signOf_eq {a : Str} {c : Nat} (h : signOf a = some c) : a = ⟨#[c]⟩ := by
  unfold signOf at h
  split at h
  · rename_i c' hc
    cases h
    obtain ⟨⟨l⟩⟩ := a
    have : l = [c] := hc
    rw [this]
  · cases h
def inSign : D → D → Option D
  | .str a, .str z => (signOf a).map fun c => .bl (decide (c ∈ z.cps.toList))
  | _, _ => none
def notInSign : D → D → Option D
  | .str a, .str z => (signOf a).map fun c => .bl (!decide (c ∈ z.cps.toList))
  | _, _ => none
theorem ro_inSign : RO K (fun x y H Q => ∃ (c : Nat) (z : Str), x = .str ⟨#[c]⟩ ∧ y = .str z ∧ Q (.bl (decide (c ∈ z.cps.toList))) H) inSign := by
  intro dk F H st x y d e z w rx ry hz Q q
  unfold inSign at hz
  split at hz
  · obtain ⟨c, hc, rfl⟩ := mpd hz
    exact ⟨c, _, by rw [rx.str, signOf_eq hc], ry.str, q _ F H (Px.refl w.sub) (.bl _)⟩
  · cases hz
theorem ro_notInSign : RO K (fun x y H Q => ∃ (c : Nat) (z : Str), x = .str ⟨#[c]⟩ ∧ y = .str z ∧ Q (.bl (!decide (c ∈ z.cps.toList))) H) notInSign := by
  intro dk F H st x y d e z w rx ry hz Q q
  unfold notInSign at hz
  split at hz
  · obtain ⟨c, hc, rfl⟩ := mpd hz
    exact ⟨c, _, by rw [rx.str, signOf_eq hc], ry.str, q _ F H (Px.refl w.sub) (.bl _)⟩
  · cases hz
def flatD : D → Bool
  | .non => true | .bl _ => true | .int _ => true | .str _ => true
  | _ => false
def eqFD : D → D → Bool
  | .non, .non => true
  | .bl a, .bl b => a == b
  | .bl a, .int b => (if a then 1 else 0) == b
  | .int a, .bl b => a == (if b then 1 else 0)
  | .int a, .int b => a == b
  | .str a, .str b => a == b
  | _, _ => false
theorem Rp.flat {v : V} {d : D} (r : Rp K dk F v d) (h : flatD d = true) : flatV v = true := by
  cases r <;> first | rfl | cases h
theorem Rp.eqF {v u : V} {d e : D} (r : Rp K dk F v d) (r' : Rp K dk F u e) (h : flatD d = true) (h' : flatD e = true) : eqV v u = eqFD d e := by
  cases r <;> first | (cases r' <;> first | rfl | cases h') | cases h
theorem Rw.flat {v : V} {d : D} (r : Rw K dk F H v d) (h : flatD d = true) : Rp K dk F v d := by
  rcases r with r | ⟨a, vs, ds, rfl, rfl, _⟩
  · exact r
  · cases h
def inB (x : D) (ys : List D) : Bool := ys.any fun y => eqFD y x
theorem Rps.inV {x : V} {d : D} (r : Rp K dk F x d) (h : flatD d = true) : ∀ {vs : List V} {ds : List D}, Rps K dk F vs ds → ds.all flatD = true → vs.all flatV = true ∧ L2.inV x vs = inB d ds
  | _, _, .nil, _ => ⟨rfl, rfl⟩
  | _, _, .cons a b, p => by
    rw [List.all_cons, Bool.and_eq_true] at p
    obtain ⟨h1, h2⟩ := Rps.inV r h b p.2
    refine ⟨by rw [List.all_cons, a.flat p.1, h1]; rfl, ?_⟩
    unfold L2.inV inB at h2 ⊢
    rw [List.any_cons, List.any_cons, h2, a.eqF r p.1 h]
def inSeq (neg : Bool) : D → D → Option D
  | x, .lst ds => if flatD x && ds.all flatD then some (.bl (if neg then !inB x ds else inB x ds)) else none
  | x, .tup ds => if flatD x && ds.all flatD then some (.bl (if neg then !inB x ds else inB x ds)) else none
  | _, _ => none
theorem ro_inSeq (neg : Bool) : RO K (rIn K neg) (inSeq neg) := by
  intro dk F H st x y d e z w rx ry hz Q q
  unfold inSeq at hz
  split at hz
  · split at hz
    · rename_i ho
      cases hz
      rw [Bool.and_eq_true] at ho
      obtain ⟨p, vs, rfl, hl, r⟩ := ry.lst w.sub
      have rx' := rx.flat ho.1
      obtain ⟨h1, h2⟩ := r.inV rx' ho.1 ho.2
      exact ⟨p, vs, rfl, .inl (SqL.of hl), rx'.flat ho.1, h1, by rw [h2]; exact q _ F H (Px.refl w.sub) (.bl _)⟩
    · cases hz
  · split at hz
    · rename_i ho
      cases hz
      rw [Bool.and_eq_true] at ho
      obtain ⟨p, vs, rfl, hl, r⟩ := ry.tup w.sub
      have rx' := rx.flat ho.1
      obtain ⟨h1, h2⟩ := r.inV rx' ho.1 ho.2
      exact ⟨p, vs, rfl, .inr hl, rx'.flat ho.1, h1, by rw [h2]; exact q _ F H (Px.refl w.sub) (.bl _)⟩
    · cases hz
  · cases hz

/-! ### a[i] -/
theorem Rps.atI {vs : List V} {ds : List D} {i : Int} {d : D} (r : Rps K dk F vs ds) (h : L2.atI ds i = some d) : ∃ v, L2.atI vs i = some v ∧ Rp K dk F v d := by
  unfold L2.atI at h ⊢
  obtain ⟨j, h1, h2⟩ := bnd h
  obtain ⟨v, h3, h4⟩ := r.get h2
  exact ⟨v, by rw [r.length, h1]; exact h3, h4⟩
def ixM : D → D → Option D
  | .lst ds, .int i => L2.atI ds i
  | .tup ds, .int i => L2.atI ds i
  | .str z, .int i => if z.length ≤ sizeLine then (L2.atI z.cps.toList i).map fun c => .str ⟨#[c]⟩ else none
  | _, _ => none
theorem ro_ix : RO K (rIx K) ixM := by
  intro dk F H st x y d e z w rx ry hz Q q
  unfold ixM at hz
  split at hz
  · obtain ⟨p, vs, rfl, hl, r⟩ := rx.lst w.sub
    obtain ⟨v, h1, h2⟩ := r.atI hz
    exact .inl ⟨p, vs, _, v, rfl, ry.int, SqL.of hl, h1, q _ F H (Px.refl w.sub) h2⟩
  · obtain ⟨p, vs, rfl, hl, r⟩ := rx.tup w.sub
    obtain ⟨v, h1, h2⟩ := r.atI hz
    exact .inr (.inl ⟨p, vs, _, v, rfl, ry.int, hl, h1, q _ F H (Px.refl w.sub) h2⟩)
  · split at hz
    · rename_i ho
      obtain ⟨c, h1, rfl⟩ := mpd hz
      exact .inr (.inr ⟨_, _, c, rx.str, ry.int, ho, h1, q _ F H (Px.refl w.sub) (.str _)⟩)
    · cases hz
  · cases hz
end
end MD

set_option Elab.async false
set_option linter.all false
set_option maxRecDepth 100000
set_option maxHeartbeats 1000000
namespace MD
open PySem L2

section
variable {K : Fg} {dk : Dk} {F F' H H' H0 F0 : Hp} {σ : L2.St} {env : Sg} {st : S}
/-! ### slices -/
abbrev MO := Sg → S → Option (Option Int × S)
def ImO (K : Fg) (to : TO) (f : MO) : Prop := ∀ (dk : Dk) (H0 F0 F : Hp) (σ : L2.St) (H : Hp) (env : Sg) (st : S) (o : Option Int) (st' : S), Good K dk H0 F0 F σ H env st → f env st = some (o, st') →
  ∀ Q : Option Int → Hp → Prop, (∀ F' H', Ext dk F H F' H' → Good K dk H0 F0 F' σ H' env st' → Q o H') → to σ H Q
def noP : MO := fun _ st => some (none, st)
def intOf : D → Option Int
  | .int i => some i
  | _ => none
def prt (f : ME) : MO := fun env st => (f env st).bind fun p => (intOf p.1).map fun i => (some i, p.2)
theorem io_none : ImO K tNoPart noP := fun dk H0 F0 F σ H env st o st' g e Q q => by
  cases e
  exact q F H (Ext.refl F H) g
theorem io_some {te : TE} {f : ME} (h : ImW K te f) : ImO K (tPart te) (prt f) := fun dk H0 F0 F σ H env st o st' g e Q q => by
  obtain ⟨⟨x, s1⟩, h1, e⟩ := bnd e
  obtain ⟨i, h2, e⟩ := mpd e
  cases e
  refine h dk H0 F0 F σ H env st x s1 g h1 _ fun v F' H' x1 g1 r1 => ?_
  have hx : x = .int i := by
    cases x <;> first | (cases h2; rfl) | cases h2
  subst hx
  exact ⟨i, r1.int, q F' H' x1 g1⟩
def RS (K : Fg) (r : V → Option Int → Option Int → Hp → VK → Prop) (f : D → Option Int → Option Int → Option D) : Prop := ∀ (dk : Dk) (F H : Hp) (st : S) (x : V) (d z : D) (lo hi : Option Int), Wd dk F H st → Rw K dk F H x d → f d lo hi = some z →
  ∀ Q : VK, (∀ v F' H', Px F H F' H' → Rp K dk F' v z → Q v H') → r x lo hi H Q
theorem RS.or {r r' : V → Option Int → Option Int → Hp → VK → Prop} {f f' : D → Option Int → Option Int → Option D} (h : RS K r f) (h' : RS K r' f') :
    RS K (fun x lo hi H Q => r x lo hi H Q ∨ r' x lo hi H Q) (fun d lo hi => (f d lo hi).orElse fun _ => f' d lo hi) := by
  intro dk F H st x d z lo hi w rx hz Q q
  replace hz : ((f d lo hi).orElse fun _ => f' d lo hi) = some z := hz
  cases hf : f d lo hi with
  | some y' =>
    rw [hf] at hz
    have : some y' = some z := hz
    cases this
    exact .inl (h dk F H st x d z lo hi w rx hf Q q)
  | none =>
    rw [hf] at hz
    exact .inr (h' dk F H st x d z lo hi w rx hz Q q)
def slM (f : D → Option Int → Option Int → Option D) (fe : ME) (fl fh : MO) : ME := fun env st => (fe env st).bind fun p => (fl env p.2).bind fun l => (fh env l.2).bind fun u => (f p.1 l.1 u.1).map fun z => (z, u.2)
theorem im_sl {r : V → Option Int → Option Int → Hp → VK → Prop} {f : D → Option Int → Option Int → Option D} {te : TE} {tl th : TO} {fe : ME} {fl fh : MO} (hr : RS K r f) (he : ImW K te fe) (hl : ImO K tl fl) (hh : ImO K th fh) :
    Im K (tSl r te tl th) (slM f fe fl fh) := fun dk H0 F0 F σ H env st d st' g e Q q => by
  obtain ⟨⟨x, s1⟩, h1, e⟩ := bnd e
  obtain ⟨⟨l, s2⟩, h2, e⟩ := bnd e
  obtain ⟨⟨u, s3⟩, h3, e⟩ := bnd e
  obtain ⟨z, h4, e⟩ := mpd e
  cases e
  refine he dk H0 F0 F σ H env st x s1 g h1 _ fun v F1 H1 x1 g1 r1 => ?_
  refine hl dk H0 F0 F1 σ H1 env s1 l s2 g1 h2 _ fun F2 H2 x2 g2 => ?_
  refine hh dk H0 F0 F2 σ H2 env s2 u s3 g2 h3 _ fun F3 H3 x3 g3 => ?_
  exact hr dk F3 H3 s3 v x d l u g3.wd ((r1.ext x2).ext x3) h4 Q fun w F4 H4 px r4 => q w F4 H4 (((x1.trans x2).trans x3).trans px.ext) (g3.px px) r4
def cutD (ds : List D) (lo hi : Option Int) : List D := (ds.drop (HT.sIx ds.length 0 lo)).take (HT.sIx ds.length ds.length hi - HT.sIx ds.length 0 lo)
theorem Rps.cut {vs : List V} {ds : List D} (r : Rps K dk F vs ds) (lo hi : Option Int) : Rps K dk F (cutV vs lo hi) (cutD ds lo hi) := by
  unfold cutV cutD
  rw [r.length]
  exact (r.drop _).take _
def slTup : D → Option Int → Option Int → Option D
  | .tup ds, lo, hi => some (.tup (cutD ds lo hi))
  | _, _, _ => none
def slLst : D → Option Int → Option Int → Option D
  | .lst ds, lo, hi => some (.lst (cutD ds lo hi))
  | _, _, _ => none
def slStr : D → Option Int → Option Int → Option D
  | .str z, lo, hi => if z.length ≤ sizeLine then some (.str (cutS z lo hi)) else none
  | _, _, _ => none
theorem rs_tup : RS K (rSlA K) slTup := by
  intro dk F H st x d z lo hi w rx hz Q q
  unfold slTup at hz
  split at hz
  · cases hz
    obtain ⟨p, vs, rfl, hl, r⟩ := rx.tup w.sub
    refine ⟨p, vs, rfl, hl, fun hw => ?_, fun _ a ha => ?_⟩
    · have e : ∀ ds : List D, vs.length = ds.length → cutD ds lo hi = ds := fun ds hl => by
        unfold cutD
        rw [← hl, hw.1, hw.2]
        simp [hl]
      rw [e _ r.length] at q
      rcases rx with rx | ⟨_, _, _, _, q2, _⟩
      · exact q _ F H (Px.refl w.sub) rx
      · cases q2
    · have px : Px F H (upd F a (.tup (cutV vs lo hi))) (upd H a (.tup (cutV vs lo hi))) := Px.new w.sub ha
      exact q _ _ _ px (.tup (SqT.of upd_same) ((r.cut lo hi).mono px.f))
  · cases hz
theorem rs_lst : RS K (rSlL K) slLst := by
  intro dk F H st x d z lo hi w rx hz Q q
  unfold slLst at hz
  split at hz
  · cases hz
    obtain ⟨p, vs, rfl, hl, r⟩ := rx.lst w.sub
    refine ⟨p, vs, rfl, SqL.of hl, fun a ha => ?_⟩
    have px : Px F H (upd F a (.lst (cutV vs lo hi))) (upd H a (.lst (cutV vs lo hi))) := Px.new w.sub ha
    exact q _ _ _ px (.lst upd_same ((r.cut lo hi).mono px.f))
  · cases hz
theorem rs_str : RS K rSlS slStr := by
  intro dk F H st x d z lo hi w rx hz Q q
  unfold slStr at hz
  split at hz
  · split at hz
    · rename_i ho
      cases hz
      exact ⟨_, rx.str, ho, q _ F H (Px.refl w.sub) (.str _)⟩
    · cases hz
  · cases hz
def slAny : D → Option Int → Option Int → Option D := fun d lo hi => (slTup d lo hi).orElse fun _ => (slStr d lo hi).orElse fun _ => slLst d lo hi
theorem sl_any {X : Cx} : SlR X (fun x lo hi H Q => rSlA X.K x lo hi H Q ∨ rSlS x lo hi H Q ∨ rSlL X.K x lo hi H Q) := sl_tupA.or (sl_str.or sl_list)
theorem rs_any : RS K (fun x lo hi H Q => rSlA K x lo hi H Q ∨ rSlS x lo hi H Q ∨ rSlL K x lo hi H Q) slAny := rs_tup.or (rs_str.or rs_lst)

/-! ### arguments -/
def aNil : MA := fun _ st => some ([], st)
def aCons (f : ME) (r : MA) : MA := fun env st => (f env st).bind fun p => (r env p.2).map fun q => (p.1 :: q.1, q.2)
theorem ia_nil : ImA K tNil aNil := fun dk H0 F0 F σ H env st ds st' g e Q q => by
  cases e
  exact q [] F H (Ext.refl F H) g .nil
theorem ia_cons {te : TE} {ta : TA} {f : ME} {r : MA} (h : Im K te f) (hr : ImA K ta r) : ImA K (tCons te ta) (aCons f r) := fun dk H0 F0 F σ H env st ds st' g e Q q => by
  obtain ⟨⟨x, s1⟩, h1, e⟩ := bnd e
  obtain ⟨⟨xs, s2⟩, h2, e⟩ := mpd e
  cases e
  refine h dk H0 F0 F σ H env st x s1 g h1 _ fun v F1 H1 x1 g1 r1 => ?_
  exact hr dk H0 F0 F1 σ H1 env s1 xs s2 g1 h2 _ fun vs F2 H2 x2 g2 r2 => q (v :: vs) F2 H2 (x1.trans x2) g2 (.cons (r1.mono x2.f) r2)
theorem iaw_nil : ImAW K tNil aNil := fun dk H0 F0 F σ H env st ds st' g e Q q => by
  cases e
  exact q [] F H (Ext.refl F H) g .nil
theorem iaw_cons {te : TE} {ta : TA} {f : ME} {r : MA} (h : ImW K te f) (hr : ImAW K ta r) : ImAW K (tCons te ta) (aCons f r) := fun dk H0 F0 F σ H env st ds st' g e Q q => by
  obtain ⟨⟨x, s1⟩, h1, e⟩ := bnd e
  obtain ⟨⟨xs, s2⟩, h2, e⟩ := mpd e
  cases e
  refine h dk H0 F0 F σ H env st x s1 g h1 _ fun v F1 H1 x1 g1 r1 => ?_
  exact hr dk H0 F0 F1 σ H1 env s1 xs s2 g1 h2 _ fun vs F2 H2 x2 g2 r2 => q (v :: vs) F2 H2 (x1.trans x2) g2 (.cons (r1.ext x2) r2)
/-! displays -/
def tupM (a : MA) : ME := fun env st => (a env st).bind fun p => if p.1.length ≤ sizeLine then some (.tup p.1, p.2) else none
def lstM (a : MA) : MA := fun env st => (a env st).bind fun p => if p.1.length ≤ sizeLine then some p else none
theorem im_tup {ta : TA} {a : MA} (h : ImA K ta a) : Im K (tTup ta) (tupM a) := fun dk H0 F0 F σ H env st d st' g e Q q => by
  obtain ⟨⟨xs, s1⟩, h1, e⟩ := bnd e
  split at e
  · rename_i hz
    cases e
    refine h dk H0 F0 F σ H env st xs s1 g h1 _ fun vs F1 H1 x1 g1 r1 => ⟨by rw [r1.length]; exact hz, fun p hp => ?_⟩
    have px : Px F1 H1 (upd F1 p (.tup vs)) (upd H1 p (.tup vs)) := Px.new g1.wd.sub hp
    exact q _ _ _ (x1.trans px.ext) (g1.px px) (.tup (SqT.of upd_same) (r1.mono px.f))
  · cases e
theorem if_lst {ta : TA} {a : MA} (h : ImA K ta a) : ImF K (tLst ta) (lstM a) := fun dk H0 F0 F σ H env st d st' g e Q q => by
  obtain ⟨⟨xs, s1⟩, h1, e⟩ := bnd e
  split at e
  · rename_i hz
    cases e
    refine h dk H0 F0 F σ H env st d st' g h1 _ fun vs F1 H1 x1 g1 r1 => ⟨by rw [r1.length]; exact hz, fun p hp => ?_⟩
    have px : Px F1 H1 F1 (upd H1 p (.lst vs)) := Px.lay g1.wd.sub hp
    have h0 : H p = none := by
      cases w : H p with
      | none => rfl
      | some o => exact absurd hp (x1.m p (by rw [w]; exact fun z => nomatch z))
    exact q p vs F1 _ (x1.trans px.ext) (g1.px px) h0 (g1.wd.sub.free hp) upd_same r1
  · cases e

/-! ### calls of built-ins -/
def RC (K : Fg) (r : List V → Hp → VK → Prop) (f : List D → Option D) : Prop := ∀ (dk : Dk) (F H : Hp) (st : S) (vs : List V) (ds : List D) (z : D), Wd dk F H st → Rws K dk F H vs ds → f ds = some z →
  ∀ Q : VK, (∀ v F' H', Px F H F' H' → Rp K dk F' v z → Q v H') → r vs H Q
def cbM (f : List D → Option D) (a : MA) : ME := fun env st => (a env st).bind fun p => (f p.1).map fun z => (z, p.2)
theorem im_cb {r : List V → Hp → VK → Prop} {f : List D → Option D} {ta : TA} {a : MA} (hr : RC K r f) (ha : ImAW K ta a) : Im K (tCB r ta) (cbM f a) := fun dk H0 F0 F σ H env st d st' g e Q q => by
  obtain ⟨⟨xs, s1⟩, h1, e⟩ := bnd e
  obtain ⟨z, h2, e⟩ := mpd e
  cases e
  refine ha dk H0 F0 F σ H env st xs s1 g h1 _ fun vs F1 H1 x1 g1 r1 => ?_
  exact hr dk F1 H1 s1 vs xs d g1.wd r1 h2 Q fun w F2 H2 px r2 => q w F2 H2 (x1.trans px.ext) (g1.px px) r2
theorem CallR.or {X : Cx} {f : Value} {r r' : List V → Hp → VK → Prop} (h : CallR X f r) (h' : CallR X f r') : CallR X f (fun xs H Q => r xs H Q ∨ r' xs H Q) := by
  intro pins s σ H xs us Q I rs q
  rcases q with q | q
  · exact h pins s σ H xs us Q I rs q
  · exact h' pins s σ H xs us Q I rs q
theorem RC.or {r r' : List V → Hp → VK → Prop} {f f' : List D → Option D} (h : RC K r f) (h' : RC K r' f') : RC K (fun xs H Q => r xs H Q ∨ r' xs H Q) (fun ds => (f ds).orElse fun _ => f' ds) := by
  intro dk F H st vs ds z w rx hz Q q
  replace hz : ((f ds).orElse fun _ => f' ds) = some z := hz
  cases hf : f ds with
  | some y' =>
    rw [hf] at hz
    have : some y' = some z := hz
    cases this
    exact .inl (h dk F H st vs ds z w rx hf Q q)
  | none =>
    rw [hf] at hz
    exact .inr (h' dk F H st vs ds z w rx hz Q q)
theorem Rws.one {vs : List V} {d : D} (r : Rws K dk F H vs [d]) : ∃ v, vs = [v] ∧ Rw K dk F H v d := by
  cases r with
  | cons a b => cases b; exact ⟨_, rfl, a⟩
theorem Rws.two {vs : List V} {d e : D} (r : Rws K dk F H vs [d, e]) : ∃ v u, vs = [v, u] ∧ Rw K dk F H v d ∧ Rw K dk F H u e := by
  cases r with
  | cons a b => cases b with
    | cons b c => cases c; exact ⟨_, _, rfl, a, b⟩
def lenM : List D → Option D
  | [.str z] => if z.length ≤ sizeLine then some (.int z.length) else none
  | [.lst ds] => some (.int ds.length)
  | [.tup ds] => some (.int ds.length)
  | _ => none
theorem rc_len : RC K (fun xs H Q => ∃ x n, xs = [x] ∧ LenV K x H n ∧ Q (.int n) H) lenM := by
  intro dk F H st vs ds z w rx hz Q q
  unfold lenM at hz
  split at hz
  · split at hz
    · rename_i ho
      cases hz
      obtain ⟨v, rfl, r⟩ := rx.one
      cases r.str
      exact ⟨_, _, rfl, ⟨ho, rfl⟩, q _ F H (Px.refl w.sub) (.int _)⟩
    · cases hz
  · cases hz
    obtain ⟨v, rfl, r⟩ := rx.one
    obtain ⟨p, vs, rfl, hl, r⟩ := r.lst w.sub
    exact ⟨_, vs.length, rfl, .inl ⟨vs, SqL.of hl, rfl⟩, by rw [r.length]; exact q _ F H (Px.refl w.sub) (.int _)⟩
  · cases hz
    obtain ⟨v, rfl, r⟩ := rx.one
    obtain ⟨p, vs, rfl, hl, r⟩ := r.tup w.sub
    exact ⟨_, vs.length, rfl, .inr ⟨vs, hl, rfl⟩, by rw [r.length]; exact q _ F H (Px.refl w.sub) (.int _)⟩
  · cases hz
def int1M : List D → Option D
  | [.int i] => some (.int i)
  | [.bl k] => some (.int (if k then 1 else 0))
  | _ => none
theorem rc_int1 : RC K (fun xs H Q => (∃ i, xs = [.int i] ∧ Q (.int i) H) ∨ ∃ k, xs = [.bl k] ∧ Q (.int (if k then 1 else 0)) H) int1M := by
  intro dk F H st vs ds z w rx hz Q q
  unfold int1M at hz
  split at hz
  · cases hz
    obtain ⟨v, rfl, r⟩ := rx.one
    cases r.int
    exact .inl ⟨_, rfl, q _ F H (Px.refl w.sub) (.int _)⟩
  · cases hz
    obtain ⟨v, rfl, r⟩ := rx.one
    cases r.bl
    exact .inr ⟨_, rfl, q _ F H (Px.refl w.sub) (.int _)⟩
  · cases hz
def absM : List D → Option D
  | [.int i] => some (.int (if i < 0 then -i else i))
  | _ => none
theorem rc_abs : RC K (fun xs H Q => ∃ i, xs = [.int i] ∧ Q (.int (if i < 0 then -i else i)) H) absM := by
  intro dk F H st vs ds z w rx hz Q q
  unfold absM at hz
  split at hz
  · cases hz
    obtain ⟨v, rfl, r⟩ := rx.one
    cases r.int
    exact ⟨_, rfl, q _ F H (Px.refl w.sub) (.int _)⟩
  · cases hz
/-! lists of ints, of texts -/
def intsOf : List D → Option (List Int)
  | [] => some []
  | .int i :: r => (intsOf r).map (i :: ·)
  | _ => none
def strsOf : List D → Option (List Str)
  | [] => some []
  | .str i :: r => (strsOf r).map (i :: ·)
  | _ => none
theorem Rps.ints : ∀ {vs : List V} {ds : List D} {ns : List Int}, Rps K dk F vs ds → intsOf ds = some ns → vs = ns.map V.int
  | _, _, _, .nil, h => by cases h; rfl
  | _, _, _, .cons a b, h => by
    rename_i d ds
    cases d with
    | int i =>
      obtain ⟨ms, h1, h2⟩ := mpd (f := (i :: ·)) h
      cases h2
      cases a
      rw [Rps.ints b h1]
      rfl
    | _ => cases h
theorem Rps.strs : ∀ {vs : List V} {ds : List D} {ns : List Str}, Rps K dk F vs ds → strsOf ds = some ns → vs = ns.map V.str
  | _, _, _, .nil, h => by cases h; rfl
  | _, _, _, .cons a b, h => by
    rename_i d ds
    cases d with
    | str i =>
      obtain ⟨ms, h1, h2⟩ := mpd (f := (i :: ·)) h
      cases h2
      cases a
      rw [Rps.strs b h1]
      rfl
    | _ => cases h
def sumM : List D → Option D
  | [.lst ds] => (intsOf ds).map fun ns => .int ns.sum
  | _ => none
theorem rc_sum : RC K (rSum K) sumM := by
  intro dk F H st vs ds z w rx hz Q q
  unfold sumM at hz
  split at hz
  · obtain ⟨ns, h1, rfl⟩ := mpd hz
    obtain ⟨v, rfl, r⟩ := rx.one
    obtain ⟨p, vs, rfl, hl, r⟩ := r.lst w.sub
    cases r.ints h1
    exact ⟨p, ns, rfl, SqL.of hl, q _ F H (Px.refl w.sub) (.int _)⟩
  · cases hz
def topI : List Int → Int
  | [] => 0
  | [x] => x
  | x :: y :: r => if topI (y :: r) > x then topI (y :: r) else x
def botI : List Int → Int
  | [] => 0
  | [x] => x
  | x :: y :: r => if botI (y :: r) < x then botI (y :: r) else x
theorem topI_spec : ∀ (l : List Int), l ≠ [] → topI l ∈ l ∧ ∀ y ∈ l, y ≤ topI l
  | [], h => absurd rfl h
  | [x], _ => ⟨by simp [topI], fun y hy => by simp at hy; simp [topI, hy]⟩
  | x :: y :: r, _ => by
    obtain ⟨h1, h2⟩ := topI_spec (y :: r) (by simp)
    unfold topI
    split
    · rename_i hc
      refine ⟨List.mem_cons_of_mem _ h1, fun z hz => ?_⟩
      rcases List.mem_cons.mp hz with e | e
      · subst e; omega
      · exact h2 z e
    · rename_i hc
      refine ⟨List.mem_cons_self, fun z hz => ?_⟩
      rcases List.mem_cons.mp hz with e | e
      · subst e; omega
      · have := h2 z e; omega
theorem botI_spec : ∀ (l : List Int), l ≠ [] → botI l ∈ l ∧ ∀ y ∈ l, botI l ≤ y
  | [], h => absurd rfl h
  | [x], _ => ⟨by simp [botI], fun y hy => by simp at hy; simp [botI, hy]⟩
  | x :: y :: r, _ => by
    obtain ⟨h1, h2⟩ := botI_spec (y :: r) (by simp)
    unfold botI
    split
    · rename_i hc
      refine ⟨List.mem_cons_of_mem _ h1, fun z hz => ?_⟩
      rcases List.mem_cons.mp hz with e | e
      · subst e; omega
      · exact h2 z e
    · rename_i hc
      refine ⟨List.mem_cons_self, fun z hz => ?_⟩
      rcases List.mem_cons.mp hz with e | e
      · subst e; omega
      · have := h2 z e; omega
def maxM : List D → Option D
  | [.lst (d :: ds)] => (intsOf (d :: ds)).map fun ns => .int (topI ns)
  | _ => none
def minM : List D → Option D
  | [.lst (d :: ds)] => (intsOf (d :: ds)).map fun ns => .int (botI ns)
  | _ => none
theorem intsOf_len : ∀ {ds : List D} {ns : List Int}, intsOf ds = some ns → ns.length = ds.length
  | [], _, h => by cases h; rfl
  | d :: ds, ns, h => by
    cases d with
    | int i =>
      obtain ⟨ms, h1, h2⟩ := mpd (f := (i :: ·)) h
      cases h2
      simp [intsOf_len h1]
    | _ => cases h
theorem rc_max : RC K (rMax K) maxM := by
  intro dk F H st vs ds z w rx hz Q q
  unfold maxM at hz
  split at hz
  · obtain ⟨ns, h1, rfl⟩ := mpd hz
    obtain ⟨v, rfl, r⟩ := rx.one
    obtain ⟨p, vs, rfl, hl, r⟩ := r.lst w.sub
    cases r.ints h1
    have hn := intsOf_len h1
    simp at hn
    obtain ⟨t1, t2⟩ := topI_spec ns (fun z => by rw [z] at hn; cases hn)
    refine ⟨p, ns, rfl, SqL.of hl, by omega, fun m hm hy => ?_⟩
    have e : m = topI ns := by have := t2 m hm; have := hy _ t1; omega
    rw [e]
    exact q _ F H (Px.refl w.sub) (.int _)
  · cases hz
theorem rc_min : RC K (rMin K) minM := by
  intro dk F H st vs ds z w rx hz Q q
  unfold minM at hz
  split at hz
  · obtain ⟨ns, h1, rfl⟩ := mpd hz
    obtain ⟨v, rfl, r⟩ := rx.one
    obtain ⟨p, vs, rfl, hl, r⟩ := r.lst w.sub
    cases r.ints h1
    have hn := intsOf_len h1
    simp at hn
    obtain ⟨t1, t2⟩ := botI_spec ns (fun z => by rw [z] at hn; cases hn)
    refine ⟨p, ns, rfl, SqL.of hl, by omega, fun m hm hy => ?_⟩
    have e : m = botI ns := by have := t2 m hm; have := hy _ t1; omega
    rw [e]
    exact q _ F H (Px.refl w.sub) (.int _)
  · cases hz
/-! tuple(..) -/
def tupOfM : List D → Option D
  | [.lst ds] => some (.tup ds)
  | [.tup ds] => some (.tup ds)
  | _ => none
theorem rc_tupOf : RC K (fun xs H Q => ∃ p ys, xs = [.ref p] ∧ ((SqL K H p ys ∧ ∀ l, H l = none → Q (.ref l) (upd H l (.tup ys))) ∨ (SqT K H p ys ∧ Q (.ref p) H))) tupOfM := by
  intro dk F H st vs ds z w rx hz Q q
  unfold tupOfM at hz
  split at hz
  · cases hz
    obtain ⟨v, rfl, r⟩ := rx.one
    obtain ⟨p, vs, rfl, hl, r⟩ := r.lst w.sub
    refine ⟨p, vs, rfl, .inl ⟨SqL.of hl, fun a ha => ?_⟩⟩
    have px : Px F H (upd F a (.tup vs)) (upd H a (.tup vs)) := Px.new w.sub ha
    exact q _ _ _ px (.tup (SqT.of upd_same) (r.mono px.f))
  · cases hz
    obtain ⟨v, rfl, r⟩ := rx.one
    obtain ⟨p, vs, rfl, hl, r'⟩ := r.tup w.sub
    refine ⟨p, vs, rfl, .inr ⟨hl, ?_⟩⟩
    rcases r with r | ⟨_, _, _, _, q2, _⟩
    · exact q _ F H (Px.refl w.sub) r
    · cases q2
  · cases hz
/-- the signs of a text -/
def signs (x : Str) : List Str := x.cps.toList.map fun c => ⟨#[c]⟩
def tupStrM : List D → Option D
  | [.str x] => if x.cps.size ≤ sizeLine then some (.tup ((signs x).map D.str)) else none
  | _ => none
theorem Rps.ofStrs : ∀ (xs : List Str), Rps K dk F (xs.map V.str) (xs.map D.str)
  | [] => .nil
  | x :: xs => .cons (.str x) (Rps.ofStrs xs)
theorem Rps.ofInts : ∀ (xs : List Int), Rps K dk F (xs.map V.int) (xs.map D.int)
  | [] => .nil
  | x :: xs => .cons (.int x) (Rps.ofInts xs)
theorem call_tupStr {X : Cx} (hc : X.calm = true) : CallR X (.type "tuple") (fun xs H Q => ∃ x, xs = [.str x] ∧ x.cps.size ≤ sizeLine ∧ ∀ p, H p = none → Q (.ref p) (upd H p (.tup ((signs x).map V.str)))) := by
  intro pins s σ H xs us Q I rs h
  obtain ⟨x, rfl, hz, q⟩ := h
  obtain ⟨u, rfl, rx⟩ := vals1 rs
  obtain ⟨t, rfl⟩ := rx
  refine call_tuple_str (I.ok.hd hc) x t (fun h' tk acc hk hi => ?_) hz
  have I' : Inv X pins σ H { s with heap := h', toks := tk } := I.kept (t' := tk) hk
  have lenA : acc.toList.length = (signs x).length := by
    unfold signs
    rw [List.length_map, Array.length_toList, Array.length_toList]
    exact hi.1
  have vals : Vals ((signs x).map V.str) acc.toList := by
    have key : ∀ (l : List Value) (m : List Nat), l.length = m.length → (∀ (j : Nat) (v : Value), l[j]? = some v → ∃ c u, m[j]? = some c ∧ v = .str ⟨#[c]⟩ u) → Vals ((m.map fun c => (⟨#[c]⟩ : Str)).map V.str) l := by
      intro l
      induction l with
      | nil => intro m hm _; cases m with
        | nil => exact .nil
        | cons _ _ => cases hm
      | cons a l ih => intro m hm hj; cases m with
        | nil => cases hm
        | cons c m =>
          obtain ⟨c', u, e1, e2⟩ := hj 0 a rfl
          have e1' : c = c' := Option.some.inj e1
          subst e1' e2
          exact .cons ⟨u, rfl⟩ (ih m (by simpa using hm) fun j v hv => hj (j + 1) v hv)
    refine key acc.toList x.cps.toList (by simpa [signs] using lenA) fun j v hv => ?_
    obtain ⟨c, u, h1, h2⟩ := hi.2 j v (by simpa using hv)
    exact ⟨c, u, by simpa using h1, h2⟩
  have hf : H h'.objs.size = none := I'.hok.fresh (Nat.le_refl _)
  refine ⟨.ref h'.objs.size, upd H h'.objs.size (.tup ((signs x).map V.str)), I'.laid (t' := tk) (fun b o e => Heap.get?_push_of_some _ e) (Nat.le_refl _) ?_, rfl, q _ hf⟩
  refine ⟨?_, acc.toList, vals, ⟨_, Heap.get?_push_size _ rfl, rfl, _, rfl⟩⟩
  rw [List.length_map]
  unfold signs
  rw [List.length_map, Array.length_toList]
  exact hz
theorem rc_tupStr : RC K (fun xs H Q => ∃ x, xs = [.str x] ∧ x.cps.size ≤ sizeLine ∧ ∀ p, H p = none → Q (.ref p) (upd H p (.tup ((signs x).map V.str)))) tupStrM := by
  intro dk F H st vs ds z w rx hz Q q
  unfold tupStrM at hz
  split at hz
  · rename_i y
    split at hz
    · rename_i ho
      cases hz
      obtain ⟨v, rfl, r⟩ := rx.one
      cases r.str
      refine ⟨_, rfl, ho, fun a ha => ?_⟩
      have px : Px F H (upd F a (.tup ((signs y).map V.str))) (upd H a (.tup ((signs y).map V.str))) := Px.new w.sub ha
      exact q _ _ _ px (.tup (SqT.of upd_same) (Rps.ofStrs _))
    · cases hz
  · cases hz
end
end MD

set_option Elab.async false
set_option linter.all false
set_option maxRecDepth 100000
set_option maxHeartbeats 1000000
namespace MD
open PySem L2

section
variable {K : Fg} {dk : Dk} {F F' H H' H0 F0 : Hp} {σ : L2.St} {env : Sg} {st : S}
/-! ### methods of built-in kinds -/
def RM (K : Fg) (r : V → List V → Hp → VK → Prop) (f : D → List D → Option D) : Prop := ∀ (dk : Dk) (F H : Hp) (st : S) (x : V) (d : D) (vs : List V) (ds : List D) (z : D), Wd dk F H st → Rw K dk F H x d → Rws K dk F H vs ds → f d ds = some z →
  ∀ Q : VK, (∀ v F' H', Px F H F' H' → Rp K dk F' v z → Q v H') → r x vs H Q
def isStrD : D → Bool
  | .str _ => true
  | _ => false
def isLstD : D → Bool
  | .lst _ => true
  | _ => false
def m1M (f : D → List D → Option D) (fo fe : ME) : ME := fun env st => (fo env st).bind fun p => if isStrD p.1 then (fe env p.2).bind fun q => (f p.1 [q.1]).map fun z => (z, q.2) else none
theorem im_m1 {r : V → List V → Hp → VK → Prop} {f : D → List D → Option D} {to te : TE} {fo fe : ME} (hr : RM K r f) (ho : ImW K to fo) (he : ImW K te fe) : Im K (tM1 r to te) (m1M f fo fe) := fun dk H0 F0 F σ H env st d st' g e Q q => by
  obtain ⟨⟨x, s1⟩, h1, e⟩ := bnd e
  split at e
  · rename_i hs
    obtain ⟨⟨y, s2⟩, h2, e⟩ := bnd e
    obtain ⟨z, h3, e⟩ := mpd e
    cases e
    refine ho dk H0 F0 F σ H env st x s1 g h1 _ fun v F1 H1 x1 g1 r1 => ⟨?_, ?_⟩
    · have hs' : isStrD x = true := hs
      cases x <;> first | exact ⟨_, r1.str⟩ | cases hs'
    · refine he dk H0 F0 F1 σ H1 env s1 y s2 g1 h2 _ fun u F2 H2 x2 g2 r2 => ?_
      exact hr dk F2 H2 s2 v x [u] [y] d g2.wd (r1.ext x2) (.cons r2 .nil) h3 Q fun w F3 H3 px r3 => q w F3 H3 ((x1.trans x2).trans px.ext) (g2.px px) r3
  · cases e
def bmL (f : D → List D → Option D) (fo : ME) (fa : MA) : ME := fun env st => (fo env st).bind fun p => if isLstD p.1 then (fa env p.2).bind fun q => (f p.1 q.1).map fun z => (z, q.2) else none
theorem im_bmL {r : V → List V → Hp → VK → Prop} {f : D → List D → Option D} {to : TE} {ta : TA} {fo : ME} {fa : MA} (hr : RM K r f) (ho : ImW K to fo) (ha : ImAW K ta fa) : Im K (tBM K "list" r to ta) (bmL f fo fa) := fun dk H0 F0 F σ H env st d st' g e Q q => by
  obtain ⟨⟨x, s1⟩, h1, e⟩ := bnd e
  split at e
  · rename_i hs
    obtain ⟨⟨y, s2⟩, h2, e⟩ := bnd e
    obtain ⟨z, h3, e⟩ := mpd e
    cases e
    refine ho dk H0 F0 F σ H env st x s1 g h1 _ fun v F1 H1 x1 g1 r1 => ⟨?_, ?_⟩
    · have hs' : isLstD x = true := hs
      cases x with
      | lst ds =>
        obtain ⟨p, vs, rfl, hl, r⟩ := r1.lst g1.wd.sub
        exact .inl ⟨rfl, vs, SqL.of hl⟩
      | _ => cases hs'
    · refine ha dk H0 F0 F1 σ H1 env s1 y s2 g1 h2 _ fun us F2 H2 x2 g2 r2 => ?_
      exact hr dk F2 H2 s2 v x us y d g2.wd (r1.ext x2) r2 h3 Q fun w F3 H3 px r3 => q w F3 H3 ((x1.trans x2).trans px.ext) (g2.px px) r3
  · cases e
/-- text.index(text) -/
def sindexM : D → List D → Option D
  | .str a, [.str b] => match Builtin.Str.occurrences a b 0 a.length 1 with
    | i :: _ => some (.int (i : Nat))
    | [] => none
  | _, _ => none
theorem rm_sindex : RM K (fun x xs H Q => ∃ a b i rest, x = .str a ∧ xs = [.str b] ∧ Builtin.Str.occurrences a b 0 a.length 1 = i :: rest ∧ Q (.int (i : Nat)) H) sindexM := by
  intro dk F H st x d vs ds z w rx rs hz Q q
  unfold sindexM at hz
  split at hz
  · split at hz
    · rename_i i rest ho
      cases hz
      obtain ⟨v, rfl, r⟩ := rs.one
      cases r.str
      exact ⟨_, _, i, rest, rx.str, rfl, ho, q _ F H (Px.refl w.sub) (.int _)⟩
    · cases hz
  · cases hz
/-- list.index(flat) -/
def lindexM : D → List D → Option D
  | .lst ys, [y] => if flatD y && ys.all flatD then (ys.findIdx? fun z => eqFD z y).map fun j => .int (j : Nat) else none
  | _, _ => none
theorem Rps.allFlat : ∀ {vs : List V} {ds : List D}, Rps K dk F vs ds → ds.all flatD = true → vs.all flatV = true
  | _, _, .nil, _ => rfl
  | _, _, .cons a b, p => by
    rw [List.all_cons, Bool.and_eq_true] at p
    rw [List.all_cons, a.flat p.1, Rps.allFlat b p.2]; rfl
theorem rm_lindex : RM K (rIndex K) lindexM := by
  intro dk F H st x d vs ds z w rx rs hz Q q
  unfold lindexM at hz
  split at hz
  · rename_i ys y
    split at hz
    · rename_i ho
      rw [Bool.and_eq_true] at ho
      obtain ⟨j, hj, rfl⟩ := mpd hz
      obtain ⟨v, rfl, r⟩ := rs.one
      obtain ⟨p, us, rfl, hl, r2⟩ := rx.lst w.sub
      have rv := r.flat ho.1
      obtain ⟨hlt, hp, hm⟩ := List.findIdx?_eq_some_iff_getElem.mp hj
      have hat : ∀ (m : Nat) (z' : V), us[m]? = some z' → ∃ d', ys[m]? = some d' ∧ eqV z' v = eqFD d' y := fun m z' e => by
        obtain ⟨d', h1, h2⟩ := r2.getV e
        exact ⟨d', h1, h2.eqF rv (List.all_eq_true.mp ho.2 d' (List.mem_of_getElem? h1)) ho.1⟩
      obtain ⟨z', h1, h2⟩ := r2.get (i := j) (List.getElem?_eq_getElem hlt)
      refine ⟨p, us, v, j, z', rfl, rfl, SqL.of hl, rv.flat ho.1, r2.allFlat ho.2, h1, ?_, fun m z'' hlt' e => ?_, q _ F H (Px.refl w.sub) (.int _)⟩
      · obtain ⟨d', h3, h4⟩ := hat j z' h1
        rw [List.getElem?_eq_getElem hlt] at h3
        cases h3
        rw [h4]; exact hp
      · obtain ⟨d', h3, h4⟩ := hat m z'' e
        rw [h4]
        have hml : m < ys.length := Nat.lt_trans hlt' hlt
        rw [List.getElem?_eq_getElem hml] at h3
        cases h3
        have := hm m hlt'
        simpa using this
    · cases hz
  · cases hz
/-- text.join(list or tuple of texts) -/
def joinM : D → List D → Option D
  | .str a, [.lst ds] => (strsOf ds).bind fun ys => if (ys.map (·.length)).sum + ys.length * a.length ≤ 16777216 then some (.str (Txt.join a ys)) else none
  | .str a, [.tup ds] => (strsOf ds).bind fun ys => if (ys.map (·.length)).sum + ys.length * a.length ≤ 16777216 then some (.str (Txt.join a ys)) else none
  | _, _ => none
theorem rm_join : RM K (fun x xs H Q => ∃ a p, ∃ ys : List Str, x = .str a ∧ xs = [.ref p] ∧ (SqL K H p (ys.map V.str) ∨ SqT K H p (ys.map V.str)) ∧
    (ys.map (·.length)).sum + ys.length * a.length ≤ 16777216 ∧ Q (.str (Txt.join a ys)) H) joinM := by
  intro dk F H st x d vs ds z w rx rs hz Q q
  unfold joinM at hz
  split at hz
  · obtain ⟨ys, h1, hz⟩ := bnd hz
    split at hz
    · rename_i ho
      cases hz
      obtain ⟨v, rfl, r⟩ := rs.one
      obtain ⟨p, us, rfl, hl, r2⟩ := r.lst w.sub
      cases r2.strs h1
      exact ⟨_, p, ys, rx.str, rfl, .inl (SqL.of hl), ho, q _ F H (Px.refl w.sub) (.str _)⟩
    · cases hz
  · obtain ⟨ys, h1, hz⟩ := bnd hz
    split at hz
    · rename_i ho
      cases hz
      obtain ⟨v, rfl, r⟩ := rs.one
      obtain ⟨p, us, rfl, hl, r2⟩ := r.tup w.sub
      cases r2.strs h1
      exact ⟨_, p, ys, rx.str, rfl, .inr hl, ho, q _ F H (Px.refl w.sub) (.str _)⟩
    · cases hz
  · cases hz

/-! ### repr -/
mutual
theorem Dp.noDict : ∀ {v : V} {d : PyData}, Dp K H v d → d.hasDict = false
  | _, _, .non => rfl
  | _, _, .bl _ => rfl
  | _, _, .int _ => rfl
  | _, _, .str _ => rfl
  | _, _, .lst _ r => by rw [PyData.hasDict]; exact Dp.noDictAll r
  | _, _, .tup _ r => by rw [PyData.hasDict]; exact Dp.noDictAll r
theorem Dp.noDictAll : ∀ {vs : List V} {ds : List PyData}, DpAll K H vs ds → PyData.hasDictAll ds = false
  | _, _, .nil => rfl
  | _, _, .cons a b => by rw [PyData.hasDictAll, Dp.noDict a, Dp.noDictAll b]; rfl
end
def rRepr (K : Fg) : List V → Hp → VK → Prop := fun xs H Q => ∃ x d, xs = [x] ∧ Dp K H x d ∧ d.showable = true ∧ d.depth ≤ 60 ∧ d.shown.length ≤ sizeLine ∧ Q (.str d.shown) H
theorem call_reprD {X : Cx} (hg : X.A.guards = some []) (hu : X.A.units + 64 < cLine) : CallR X (.builtin "repr") (rRepr X.K) := by
  intro pins s σ H xs us Q I rs h
  obtain ⟨x, d, rfl, hd, hs, hdp, hz, q⟩ := h
  obtain ⟨u, rfl, rx⟩ := vals1 rs
  cases id hd with
  | non => cases rx; exact PySem.P.repr_of_none ⟨.str _, H, I.tok _, ⟨_, rfl⟩, q⟩
  | bl b => cases rx; exact PySem.P.repr_of_bool ⟨.str _, H, I.tok _, ⟨_, rfl⟩, q⟩
  | int i =>
    obtain ⟨t, rfl⟩ := rx
    exact PySem.P.repr_of_int (by simpa [PyData.showable] using hs) ⟨.str _, H, I.tok _, ⟨_, rfl⟩, q⟩
  | str y =>
    obtain ⟨t, rfl⟩ := rx
    exact PySem.P.repr_of_str ⟨.str _, H, I.tok _, ⟨_, rfl⟩, q⟩ hz
  | lst h1 h2 =>
    cases rx
    obtain ⟨as, hr⟩ := Dp.reads I _ _ _ hd rfl
    exact repr_of_reads' hr hs (fun z => by rw [Dp.noDict hd] at z; cases z) hg (by omega) (fun _ _ e => e) (fun h' u tk hk => ⟨.str _, H, I.kept hk, ⟨_, rfl⟩, q⟩) hz
  | tup h1 h2 =>
    cases rx
    obtain ⟨as, hr⟩ := Dp.reads I _ _ _ hd rfl
    exact repr_of_reads' hr hs (fun z => by rw [Dp.noDict hd] at z; cases z) hg (by omega) (fun _ _ e => e) (fun h' u tk hk => ⟨.str _, H, I.kept hk, ⟨_, rfl⟩, q⟩) hz
def reprM : List D → Option D
  | [d] => if d.pl && d.py.showable && decide (d.py.depth ≤ 60) && decide (d.py.shown.length ≤ sizeLine) then some (.str d.py.shown) else none
  | _ => none
theorem rc_repr : RC K (rRepr K) reprM := by
  intro dk F H st vs ds z w rx hz Q q
  unfold reprM at hz
  split at hz
  · split at hz
    · rename_i ho
      cases hz
      simp only [Bool.and_eq_true, decide_eq_true_eq] at ho
      obtain ⟨v, rfl, r⟩ := rx.one
      exact ⟨v, _, rfl, r.dp w.sub ho.1.1.1, ho.1.1.2, ho.1.2, ho.2, q _ F H (Px.refl w.sub) (.str _)⟩
    · cases hz
  · cases hz
def strIntM : List D → Option D
  | [.int i] => if i.natAbs.log2 < 1920 then some (.str (toString i)) else none
  | _ => none
theorem rc_strInt : RC K (fun xs H Q => ∃ i, xs = [.int i] ∧ i.natAbs.log2 < 1920 ∧ Q (.str (toString i)) H) strIntM := by
  intro dk F H st vs ds z w rx hz Q q
  unfold strIntM at hz
  split at hz
  · split at hz
    · rename_i ho
      cases hz
      obtain ⟨v, rfl, r⟩ := rx.one
      cases r.int
      exact ⟨_, rfl, ho, q _ F H (Px.refl w.sub) (.str _)⟩
    · cases hz
  · cases hz

/-! ### one-place operations -/
def unI (g : Int → D) : D → Option D
  | .int i => some (g i)
  | _ => none
def unM (f : D → Option D) (fa : ME) : ME := fun env st => (fa env st).bind fun p => (f p.1).map fun z => (z, p.2)
theorem im_neg {ta : TE} {fa : ME} (h : ImW K ta fa) : Im K (tUn (rU fun i => .int (-i)) ta) (unM (unI fun i => .int (-i)) fa) := fun dk H0 F0 F σ H env st d st' g e Q q => by
  obtain ⟨⟨x, s1⟩, h1, e⟩ := bnd e
  obtain ⟨z, h2, e⟩ := mpd e
  cases e
  refine h dk H0 F0 F σ H env st x s1 g h1 _ fun v F1 H1 x1 g1 r1 => ?_
  replace h2 : unI (fun i => .int (-i)) x = some d := h2
  unfold unI at h2
  split at h2
  · cases h2
    cases r1.int
    exact ⟨_, rfl, q _ F1 H1 x1 g1 (.int _)⟩
  · cases h2

/-! ### tests -/
def blOf : D → Option Bool
  | .bl b => some b
  | _ => none
def tstM (f : ME) : MT := fun env st => (f env st).bind fun p => (blOf p.1).map fun b => (b, p.2)
theorem blOf_eq {d : D} {b : Bool} (h : blOf d = some b) : d = .bl b := by
  cases d <;> first | (cases h; rfl) | cases h
theorem it_test {te : TE} {f : ME} (h : Im K te f) : ImT K (tTest te) (tstM f) := fun dk H0 F0 F σ H env st b st' g e Q q => by
  obtain ⟨⟨x, s1⟩, h1, e⟩ := bnd e
  obtain ⟨z, h2, e⟩ := mpd e
  cases e
  refine h dk H0 F0 F σ H env st x s1 g h1 _ fun v F1 H1 x1 g1 r1 => ?_
  cases blOf_eq h2
  cases r1
  exact ⟨_, rfl, q F1 H1 x1 g1⟩
/-- truth of any value -/
def truD : D → Option Bool
  | .non => some false
  | .bl b => some b
  | .int i => some (i != 0)
  | .str y => if y.length ≤ sizeLine then some ((y.length : Int) != 0) else none
  | .lst ds => some (!ds.isEmpty)
  | .tup ds => some (!ds.isEmpty)
  | .deck => none
def truM (f : ME) : MT := fun env st => (f env st).bind fun p => (truD p.1).map fun b => (b, p.2)
theorem Rps.empty {vs : List V} {ds : List D} (r : Rps K dk F vs ds) : vs.isEmpty = ds.isEmpty := by cases r <;> rfl
theorem it_truth {te : TE} {f : ME} (h : ImW K te f) : ImT K (fun σ H Q => te σ H fun x H' => ∃ k, TruV K x H' k ∧ Q k H') (truM f) := fun dk H0 F0 F σ H env st b st' g e Q q => by
  obtain ⟨⟨x, s1⟩, h1, e⟩ := bnd e
  obtain ⟨z, h2, e⟩ := mpd e
  cases e
  refine h dk H0 F0 F σ H env st x s1 g h1 _ fun v F1 H1 x1 g1 r1 => ⟨b, ?_, q F1 H1 x1 g1⟩
  replace h2 : truD x = some b := h2
  unfold truD at h2
  split at h2
  · cases h2; cases r1.non; rfl
  · cases h2; cases r1.bl; rfl
  · cases h2; cases r1.int; rfl
  · split at h2
    · rename_i ho
      cases h2; cases r1.str; exact ⟨ho, rfl⟩
    · cases h2
  · cases h2
    obtain ⟨p, vs, rfl, hl, r⟩ := r1.lst g1.wd.sub
    exact .inl ⟨vs, SqL.of hl, by rw [r.empty]⟩
  · cases h2
    obtain ⟨p, vs, rfl, hl, r⟩ := r1.tup g1.wd.sub
    exact .inr (.inl ⟨vs, hl, by rw [r.empty]⟩)
  · cases h2
def andM (f h : MT) : MT := fun env st => (f env st).bind fun p => if p.1 then h env p.2 else some (false, p.2)
def orM (f h : MT) : MT := fun env st => (f env st).bind fun p => if p.1 then some (true, p.2) else h env p.2
def notM (f : MT) : MT := fun env st => (f env st).map fun p => (!p.1, p.2)
theorem it_and {t u : TT} {f h : MT} (h1 : ImT K t f) (h2 : ImT K u h) : ImT K (tAnd t u) (andM f h) := fun dk H0 F0 F σ H env st b st' g e Q q => by
  obtain ⟨⟨x, s1⟩, e1, e⟩ := bnd e
  refine h1 dk H0 F0 F σ H env st x s1 g e1 _ fun F1 H1 x1 g1 => ?_
  cases x with
  | true => exact h2 dk H0 F0 F1 σ H1 env s1 b st' g1 e Q fun F2 H2 x2 g2 => q F2 H2 (x1.trans x2) g2
  | false => cases e; exact q F1 H1 x1 g1
theorem it_or {t u : TT} {f h : MT} (h1 : ImT K t f) (h2 : ImT K u h) : ImT K (tOr t u) (orM f h) := fun dk H0 F0 F σ H env st b st' g e Q q => by
  obtain ⟨⟨x, s1⟩, e1, e⟩ := bnd e
  refine h1 dk H0 F0 F σ H env st x s1 g e1 _ fun F1 H1 x1 g1 => ?_
  cases x with
  | false => exact h2 dk H0 F0 F1 σ H1 env s1 b st' g1 e Q fun F2 H2 x2 g2 => q F2 H2 (x1.trans x2) g2
  | true => cases e; exact q F1 H1 x1 g1
theorem it_not {t : TT} {f : MT} (h1 : ImT K t f) : ImT K (tNot t) (notM f) := fun dk H0 F0 F σ H env st b st' g e Q q => by
  obtain ⟨⟨x, s1⟩, e1, e⟩ := mpd e
  cases e
  exact h1 dk H0 F0 F σ H env st x s1 g e1 _ fun F1 H1 x1 g1 => q F1 H1 x1 g1
/-! as values -/
def andV (f h : ME) : ME := fun env st => (f env st).bind fun p => (blOf p.1).bind fun b => if b then h env p.2 else some (.bl false, p.2)
def orV (f h : ME) : ME := fun env st => (f env st).bind fun p => (blOf p.1).bind fun b => if b then some (.bl true, p.2) else h env p.2
def notV (f : ME) : ME := fun env st => (f env st).bind fun p => (blOf p.1).map fun b => (.bl (!b), p.2)
theorem im_andV {t u : TE} {f h : ME} (h1 : Im K t f) (h2 : Im K u h) : Im K (tAndV t u) (andV f h) := fun dk H0 F0 F σ H env st d st' g e Q q => by
  obtain ⟨⟨x, s1⟩, e1, e⟩ := bnd e
  obtain ⟨b, e2, e⟩ := bnd e
  refine h1 dk H0 F0 F σ H env st x s1 g e1 _ fun v F1 H1 x1 g1 r1 => ?_
  cases blOf_eq e2
  cases r1
  refine ⟨b, rfl, ?_⟩
  cases b with
  | true => exact h2 dk H0 F0 F1 σ H1 env s1 d st' g1 e Q fun v F2 H2 x2 g2 r2 => q v F2 H2 (x1.trans x2) g2 r2
  | false => cases e; exact q _ F1 H1 x1 g1 (.bl false)
theorem im_orV {t u : TE} {f h : ME} (h1 : Im K t f) (h2 : Im K u h) : Im K (tOrV t u) (orV f h) := fun dk H0 F0 F σ H env st d st' g e Q q => by
  obtain ⟨⟨x, s1⟩, e1, e⟩ := bnd e
  obtain ⟨b, e2, e⟩ := bnd e
  refine h1 dk H0 F0 F σ H env st x s1 g e1 _ fun v F1 H1 x1 g1 r1 => ?_
  cases blOf_eq e2
  cases r1
  refine ⟨b, rfl, ?_⟩
  cases b with
  | false => exact h2 dk H0 F0 F1 σ H1 env s1 d st' g1 e Q fun v F2 H2 x2 g2 r2 => q v F2 H2 (x1.trans x2) g2 r2
  | true => cases e; exact q _ F1 H1 x1 g1 (.bl true)
theorem im_notV {t : TE} {f : ME} (h1 : Im K t f) : Im K (tNotV t) (notV f) := fun dk H0 F0 F σ H env st d st' g e Q q => by
  obtain ⟨⟨x, s1⟩, e1, e⟩ := bnd e
  obtain ⟨b, e2, e⟩ := mpd e
  cases e
  refine h1 dk H0 F0 F σ H env st x s1 g e1 _ fun v F1 H1 x1 g1 r1 => ?_
  cases blOf_eq e2
  cases r1
  exact ⟨b, rfl, q _ F1 H1 x1 g1 (.bl _)⟩
def ifM (c : MT) (f h : ME) : ME := fun env st => (c env st).bind fun p => if p.1 then f env p.2 else h env p.2
theorem im_if {t : TT} {ta tb : TE} {c : MT} {f h : ME} (h0 : ImT K t c) (h1 : Im K ta f) (h2 : Im K tb h) : Im K (tIf t ta tb) (ifM c f h) := fun dk H0 F0 F σ H env st d st' g e Q q => by
  obtain ⟨⟨x, s1⟩, e1, e⟩ := bnd e
  refine h0 dk H0 F0 F σ H env st x s1 g e1 _ fun F1 H1 x1 g1 => ?_
  cases x with
  | true => exact h1 dk H0 F0 F1 σ H1 env s1 d st' g1 e Q fun v F2 H2 x2 g2 r2 => q v F2 H2 (x1.trans x2) g2 r2
  | false => exact h2 dk H0 F0 F1 σ H1 env s1 d st' g1 e Q fun v F2 H2 x2 g2 r2 => q v F2 H2 (x1.trans x2) g2 r2
/-- a op b op' c -/
def chM (f f' : D → D → Option D) (fa fb fc : ME) : ME := fun env st => (fa env st).bind fun p => (fb env p.2).bind fun q => (f p.1 q.1).bind fun z => (blOf z).bind fun b =>
  if b then (fc env q.2).bind fun r => (f' q.1 r.1).map fun z => (z, r.2) else some (.bl false, q.2)
theorem im_chain {r r' : R2} {f f' : D → D → Option D} {ta tb tc : TE} {fa fb fc : ME} (hr : RO K r f) (hr' : RO K r' f') (ha : ImW K ta fa) (hb : ImW K tb fb) (hc : ImW K tc fc) : Im K (tChain r r' ta tb tc) (chM f f' fa fb fc) := fun dk H0 F0 F σ H env st d st' g e Q q => by
  obtain ⟨⟨x, s1⟩, h1, e⟩ := bnd e
  obtain ⟨⟨y, s2⟩, h2, e⟩ := bnd e
  obtain ⟨z, h3, e⟩ := bnd e
  obtain ⟨b, h4, e⟩ := bnd e
  refine ha dk H0 F0 F σ H env st x s1 g h1 _ fun v F1 H1 x1 g1 r1 => ?_
  refine hb dk H0 F0 F1 σ H1 env s1 y s2 g1 h2 _ fun u F2 H2 x2 g2 r2 => ?_
  refine hr dk F2 H2 s2 v u x y z g2.wd (r1.ext x2) r2 h3 _ fun w F3 H3 px r3 => ?_
  cases blOf_eq h4
  cases r3
  refine ⟨b, rfl, ?_⟩
  have g3 := g2.px px
  have x3 := (x1.trans x2).trans px.ext
  cases b with
  | false => cases e; exact q _ F3 H3 x3 g3 (.bl false)
  | true =>
    replace e : ((fc env s2).bind fun r => (f' y r.1).map fun z => (z, r.2)) = some (d, st') := e
    obtain ⟨⟨t, s4⟩, h5, e⟩ := bnd e
    obtain ⟨z', h6, e⟩ := mpd e
    cases e
    refine hc dk H0 F0 F3 σ H3 env s2 t s4 g3 h5 _ fun w' F4 H4 x4 g4 r4 => ?_
    exact hr' dk F4 H4 s4 u w' y t d g4.wd ((r2.ext px.ext).ext x4) r4 h6 Q fun v5 F5 H5 px5 r5 => q v5 F5 H5 ((x3.trans x4).trans px5.ext) (g4.px px5) r5
end
end MD

set_option Elab.async false
set_option linter.all false
set_option maxRecDepth 100000
set_option maxHeartbeats 1000000
namespace MD
open PySem L2

inductive Fl where
  | nx (env : Sg) | rt (d : D) | bk (env : Sg) | ct (env : Sg)
abbrev MS := Sg → S → Option (Fl × S)
def Dn (K : Fg) (dk : Dk) (H0 F0 F : Hp) (E : Ends) (st : S) : Fl → Prop
  | .nx env => ∀ F' σ H, Le F F' → Good K dk H0 F0 F' σ H env st → E.nx σ H
  | .bk env => ∀ F' σ H, Le F F' → Good K dk H0 F0 F' σ H env st → E.bk σ H
  | .ct env => ∀ F' σ H, Le F F' → Good K dk H0 F0 F' σ H env st → E.ct σ H
  | .rt d => ∀ v F' H, Ext dk F0 H0 F' H → Wd dk F' H st → Rp K dk F' v d → E.rt v H
def ImS (K : Fg) (ts : TS) (f : MS) : Prop := ∀ (dk : Dk) (H0 F0 F : Hp) (σ : L2.St) (H : Hp) (env : Sg) (st : S) (fl : Fl) (st' : S), Good K dk H0 F0 F σ H env st → f env st = some (fl, st') → ∀ E : Ends, Dn K dk H0 F0 F E st' fl → ts E σ H
theorem Dn.mono {K : Fg} {dk : Dk} {H0 F0 F F' : Hp} {E : Ends} {st : S} {fl : Fl} (le : Le F F') (h : Dn K dk H0 F0 F E st fl) : Dn K dk H0 F0 F' E st fl := by
  cases fl with
  | nx e => exact fun F2 σ H l => h F2 σ H (le.trans l)
  | bk e => exact fun F2 σ H l => h F2 σ H (le.trans l)
  | ct e => exact fun F2 σ H l => h F2 σ H (le.trans l)
  | rt d => exact h

section
variable {K : Fg} {dk : Dk} {F F' H H' H0 F0 : Hp} {σ : L2.St} {env : Sg} {st : S}
/-! ### slots stored -/
theorem Good.set {i : Nat} {x : V} {d : D} (g : Good K dk H0 F0 F σ H env st) (r : Rp K dk F x d) : Good K dk H0 F0 F (σ.set i (some x)) H (env.set i (.val d)) st := by
  refine ⟨g.wd, g.ext, by rw [List.length_set, List.length_set]; exact g.len, fun j s e => ?_, fun j k ds es p hne e1 e2 e3 => ?_⟩
  · by_cases hj : i = j
    · subst hj
      by_cases hl : i < env.length
      · rw [List.getElem?_set_self hl] at e
        cases e
        rw [List.getElem?_set_self (by rw [g.len]; exact hl)]
        exact ⟨x, rfl, r⟩
      · rw [List.getElem?_eq_none (by rw [List.length_set]; omega)] at e
        cases e
    · rw [List.getElem?_set_ne hj] at e
      rw [List.getElem?_set_ne hj]
      exact g.sl j s e
  · have nj : i ≠ j := fun z => by
      subst z
      by_cases hl : i < env.length
      · rw [List.getElem?_set_self hl] at e1; cases e1
      · rw [List.getElem?_eq_none (by rw [List.length_set]; omega)] at e1; cases e1
    have nk : i ≠ k := fun z => by
      subst z
      by_cases hl : i < env.length
      · rw [List.getElem?_set_self hl] at e2; cases e2
      · rw [List.getElem?_eq_none (by rw [List.length_set]; omega)] at e2; cases e2
    rw [List.getElem?_set_ne nj] at e1 e3
    rw [List.getElem?_set_ne nk] at e2 ⊢
    exact g.dis j k ds es p hne e1 e2 e3
theorem Good.setO {i : Nat} {p : Addr} {vs : List V} {ds : Own} (g : Good K dk H0 F0 F σ H env st) (hp : ds.1.At H p vs) (fp : F p = none) (h0 : H0 p = none) (n1 : p ≠ dk.1) (n2 : p ≠ dk.2)
    (no : ∀ (j : Nat) (es : Own), env[j]? = some (.own es) → σ[j]? ≠ some (some (.ref p))) (r : Rps K dk F vs ds.2) : Good K dk H0 F0 F (σ.set i (some (.ref p))) H (env.set i (.own ds)) st := by
  refine ⟨g.wd, g.ext, by rw [List.length_set, List.length_set]; exact g.len, fun j s e => ?_, fun j k es es' q hne e1 e2 e3 => ?_⟩
  · by_cases hj : i = j
    · subst hj
      by_cases hl : i < env.length
      · rw [List.getElem?_set_self hl] at e
        cases e
        rw [List.getElem?_set_self (by rw [g.len]; exact hl)]
        exact ⟨p, vs, rfl, hp, fp, h0, n1, n2, r⟩
      · rw [List.getElem?_eq_none (by rw [List.length_set]; omega)] at e
        cases e
    · rw [List.getElem?_set_ne hj] at e
      rw [List.getElem?_set_ne hj]
      exact g.sl j s e
  · by_cases hj : i = j
    · subst hj
      have nk : i ≠ k := hne
      rw [List.getElem?_set_ne nk] at e2 ⊢
      by_cases hl : i < env.length
      · rw [List.getElem?_set_self (by rw [g.len]; exact hl)] at e3
        cases e3
        exact no k es' e2
      · rw [List.getElem?_eq_none (by rw [List.length_set]; omega)] at e1; cases e1
    · rw [List.getElem?_set_ne hj] at e1 e3
      by_cases hk : i = k
      · subst hk
        by_cases hl : i < env.length
        · rw [List.getElem?_set_self (by rw [g.len]; exact hl)]
          intro z
          cases z
          exact no j es e1 e3
        · rw [List.getElem?_eq_none (by rw [List.length_set]; omega)] at e2; cases e2
      · rw [List.getElem?_set_ne hk] at e2 ⊢
        exact g.dis j k es es' q hne e1 e2 e3
/-- an own list is changed -/
theorem Good.mut {i : Nat} {p : Addr} {vs' : List V} {o' : HO} {ds ds' : Own} (g : Good K dk H0 F0 F σ H env st) (he : env[i]? = some (.own ds)) (hs : σ[i]? = some (some (.ref p))) (hw : ds'.1.At (upd H p o') p vs') (r : Rps K dk F vs' ds'.2) :
    Good K dk H0 F0 F σ (upd H p o') (env.set i (.own ds')) st := by
  obtain ⟨p', vs, h1, h2, h3, h4, h5, h6, h7⟩ := g.sl i _ he
  rw [hs] at h1
  have : p = p' := V.ref.inj (Option.some.inj h1)
  subst this
  have hil : i < env.length := by
    by_cases hl : i < env.length
    · exact hl
    · rw [List.getElem?_eq_none (by omega)] at he; cases he
  refine ⟨⟨fun a o e => ?_, ?_, ?_, g.wd.f1, g.wd.f2, g.wd.ne⟩, ⟨fun a o e n1 n2 => ?_, g.ext.f, g.ext.n, fun a e z => ?_⟩, by rw [List.length_set]; exact g.len, fun j s e => ?_, fun j k es es' q hne e1 e2 e3 => ?_⟩
  · rw [upd_ne (ne_of_none e h3)]; exact g.wd.sub a o e
  · rw [upd_ne h5.symm]; exact g.wd.d1
  · rw [upd_ne h6.symm]; exact g.wd.d2
  · rw [upd_ne (ne_of_none e h4)]; exact g.ext.h a o e n1 n2
  · by_cases na : a = p
    · subst na; rw [upd_same] at z; cases z
    · rw [upd_ne na] at z; exact g.ext.m a e z
  · by_cases hj : i = j
    · subst hj
      rw [List.getElem?_set_self hil] at e
      cases e
      rw [hs]
      exact ⟨p, vs', rfl, hw, h3, h4, h5, h6, r⟩
    · rw [List.getElem?_set_ne hj] at e
      have q := g.sl j s e
      cases s with
      | un => trivial
      | val d => exact q
      | own es =>
        obtain ⟨p2, us, k1, k2, k3⟩ := q
        have np : p2 ≠ p := fun z => by
          subst z
          exact g.dis i j ds es p2 hj he e hs (join_eq k1)
        exact ⟨p2, us, k1, k2.keep fun o e => by rw [upd_ne np]; exact e, k3⟩
  · have back : ∀ (m : Nat) (zs : Own), (env.set i (.own ds'))[m]? = some (.own zs) → ∃ zs', env[m]? = some (.own zs') := fun m zs e => by
      by_cases hm : i = m
      · subst hm; exact ⟨ds, he⟩
      · rw [List.getElem?_set_ne hm] at e; exact ⟨zs, e⟩
    obtain ⟨z1, b1⟩ := back j es e1
    obtain ⟨z2, b2⟩ := back k es' e2
    exact g.dis j k z1 z2 q hne b1 b2 e3
/-- a thing that nobody knows of is changed -/
theorem Good.mutT {p : Addr} {o o' : HO} (g : Good K dk H0 F0 F σ H env st) (hp : H p = some o) (fp : F p = none) (h0 : H0 p = none) (n1 : p ≠ dk.1) (n2 : p ≠ dk.2)
    (no : ∀ (j : Nat) (es : Own), env[j]? = some (.own es) → σ[j]? ≠ some (some (.ref p))) : Good K dk H0 F0 F σ (upd H p o') env st := by
  refine ⟨⟨fun a u e => ?_, ?_, ?_, g.wd.f1, g.wd.f2, g.wd.ne⟩, ⟨fun a u e m1 m2 => ?_, g.ext.f, g.ext.n, fun a e z => ?_⟩, g.len, fun j s e => ?_, g.dis⟩
  · rw [upd_ne (ne_of_none e fp)]; exact g.wd.sub a u e
  · rw [upd_ne n1.symm]; exact g.wd.d1
  · rw [upd_ne n2.symm]; exact g.wd.d2
  · rw [upd_ne (ne_of_none e h0)]; exact g.ext.h a u e m1 m2
  · by_cases na : a = p
    · subst na; rw [upd_same] at z; cases z
    · rw [upd_ne na] at z; exact g.ext.m a e z
  · have q := g.sl j s e
    cases s with
    | un => trivial
    | val d => exact q
    | own es =>
      obtain ⟨p2, us, k1, k2, k3⟩ := q
      have np : p2 ≠ p := fun z => by
        subst z
        exact no j es e (join_eq k1)
      exact ⟨p2, us, k1, k2.keep fun o e => by rw [upd_ne np]; exact e, k3⟩
/-- other slots, no more known -/
theorem Good.reslot {σ' : L2.St} {env' : Sg} (g : Good K dk H0 F0 F σ H env st) (hl : σ'.length = env'.length) (h : ∀ (i : Nat) (s : Sl), env'[i]? = some s → s = .un ∨ (env[i]? = some s ∧ σ'[i]? = σ[i]?)) : Good K dk H0 F0 F σ' H env' st := by
  refine ⟨g.wd, g.ext, hl, fun i s e => ?_, fun i j ds es p hne e1 e2 e3 => ?_⟩
  · rcases h i s e with z | ⟨z1, z2⟩
    · subst z; trivial
    · rw [z2]; exact g.sl i s z1
  · rcases h i _ e1 with z | ⟨z1, z2⟩
    · cases z
    · rcases h j _ e2 with z | ⟨y1, y2⟩
      · cases z
      · rw [z2] at e3; rw [y2]; exact g.dis i j ds es p hne z1 y1 e3

/-! ### small statements -/
def nxM : MS := fun env st => some (.nx env, st)
theorem is_next : ImS K tNext nxM := fun dk H0 F0 F σ H env st fl st' g e E h => by
  cases e
  exact h F σ H (Le.refl F) g
def seqM (f h : MS) : MS := fun env st => (f env st).bind fun p => match p.1 with
  | .nx e => h e p.2
  | fl => some (fl, p.2)
theorem is_seq {t u : TS} {f h : MS} (h1 : ImS K t f) (h2 : ImS K u h) : ImS K (tSeq t u) (seqM f h) := fun dk H0 F0 F σ H env st fl st' g e E hd => by
  obtain ⟨⟨fl1, s1⟩, e1, e⟩ := bnd e
  cases fl1 with
  | nx env1 => exact h1 dk H0 F0 F σ H env st _ s1 g e1 _ fun F1 σ1 H1 le1 g1 => h2 dk H0 F0 F1 σ1 H1 env1 s1 fl st' g1 e E (hd.mono le1)
  | rt d => cases e; exact h1 dk H0 F0 F σ H env st _ s1 g e1 _ hd
  | bk d => cases e; exact h1 dk H0 F0 F σ H env st _ s1 g e1 _ hd
  | ct d => cases e; exact h1 dk H0 F0 F σ H env st _ s1 g e1 _ hd
def retM (f : ME) : MS := fun env st => (f env st).map fun p => (.rt p.1, p.2)
theorem is_ret {te : TE} {f : ME} (h : Im K te f) : ImS K (tRet te) (retM f) := fun dk H0 F0 F σ H env st fl st' g e E hd => by
  obtain ⟨⟨d, s1⟩, e1, e⟩ := mpd e
  cases e
  exact h dk H0 F0 F σ H env st d s1 g e1 _ fun v F1 H1 x1 g1 r1 => hd v F1 H1 g1.ext g1.wd r1
def retN : MS := fun env st => some (.rt .non, st)
theorem is_retN : ImS K tRetN retN := fun dk H0 F0 F σ H env st fl st' g e E hd => by
  cases e
  exact hd .non F H g.ext g.wd .non
def ifS (c : MT) (f h : MS) : MS := fun env st => (c env st).bind fun p => if p.1 then f env p.2 else h env p.2
theorem is_if {c : TT} {t u : TS} {fc : MT} {f h : MS} (h0 : ImT K c fc) (h1 : ImS K t f) (h2 : ImS K u h) : ImS K (tIfS c t u) (ifS fc f h) := fun dk H0 F0 F σ H env st fl st' g e E hd => by
  obtain ⟨⟨b, s1⟩, e1, e⟩ := bnd e
  refine h0 dk H0 F0 F σ H env st b s1 g e1 _ fun F1 H1 x1 g1 => ?_
  cases b with
  | true => exact h1 dk H0 F0 F1 σ H1 env s1 fl st' g1 e E (hd.mono x1.f)
  | false => exact h2 dk H0 F0 F1 σ H1 env s1 fl st' g1 e E (hd.mono x1.f)
def dropM (f : ME) : MS := fun env st => (f env st).map fun p => (.nx env, p.2)
theorem is_drop {te : TE} {f : ME} (h : Im K te f) : ImS K (tDrop te) (dropM f) := fun dk H0 F0 F σ H env st fl st' g e E hd => by
  obtain ⟨⟨d, s1⟩, e1, e⟩ := mpd e
  cases e
  exact h dk H0 F0 F σ H env st d s1 g e1 _ fun v F1 H1 x1 g1 r1 => hd F1 σ H1 x1.f g1
def bkM : MS := fun env st => some (.bk env, st)
def ctM : MS := fun env st => some (.ct env, st)
theorem is_break : ImS K tBreak bkM := fun dk H0 F0 F σ H env st fl st' g e E h => by
  cases e
  exact h F σ H (Le.refl F) g
theorem is_cont : ImS K tCont ctM := fun dk H0 F0 F σ H env st fl st' g e E h => by
  cases e
  exact h F σ H (Le.refl F) g

/-! ### targets -/
abbrev MG := D → Sg → Option Sg
structure Tg (is : List Nat) (σ σ' : L2.St) (env env' : Sg) : Prop where
  len : σ'.length = σ.length
  elen : env'.length = env.length
  same : ∀ (i : Nat), i ∉ is → σ'[i]? = σ[i]? ∧ env'[i]? = env[i]?
def ImG (K : Fg) (g : TG) (t : MG) (is : List Nat) : Prop := ∀ (dk : Dk) (H0 F0 F : Hp) (σ : L2.St) (H : Hp) (env : Sg) (st : S) (v : V) (d : D) (env' : Sg), Good K dk H0 F0 F σ H env st → Rp K dk F v d → t d env = some env' →
  ∀ Q : L2.St → Hp → Prop, (∀ σ', Good K dk H0 F0 F σ' H env' st → Tg is σ σ' env env' → Q σ' H) → g v σ H Q
def ImGs (K : Fg) (g : TGs) (t : List D → Sg → Option Sg) (is : List Nat) : Prop := ∀ (dk : Dk) (H0 F0 F : Hp) (σ : L2.St) (H : Hp) (env : Sg) (st : S) (vs : List V) (ds : List D) (env' : Sg), Good K dk H0 F0 F σ H env st → Rps K dk F vs ds → t ds env = some env' →
  ∀ Q : L2.St → Hp → Prop, (∀ σ', Good K dk H0 F0 F σ' H env' st → Tg is σ σ' env env' → Q σ' H) → g vs σ H Q
def nameT (i : Nat) : MG := fun d env => some (env.set i (.val d))
theorem ig_name (i : Nat) : ImG K (gName i) (nameT i) [i] := fun dk H0 F0 F σ H env st v d env' g r e Q q => by
  cases e
  refine q _ (g.set r) ⟨List.length_set, List.length_set, fun j hj => ?_⟩
  have hj' : i ≠ j := fun z => hj (by simp [z])
  exact ⟨List.getElem?_set_ne hj', List.getElem?_set_ne hj'⟩
def nilT : List D → Sg → Option Sg
  | [], env => some env
  | _, _ => none
def consT (t : MG) (u : List D → Sg → Option Sg) : List D → Sg → Option Sg
  | d :: ds, env => (t d env).bind fun e => u ds e
  | _, _ => none
theorem igs_nil : ImGs K gNil nilT [] := fun dk H0 F0 F σ H env st vs ds env' g r e Q q => by
  unfold nilT at e
  split at e
  · cases e
    cases r
    exact ⟨rfl, q σ g ⟨rfl, rfl, fun _ _ => ⟨rfl, rfl⟩⟩⟩
  · cases e
theorem igs_cons {g : TG} {gs : TGs} {t : MG} {u : List D → Sg → Option Sg} {is js : List Nat} (h1 : ImG K g t is) (h2 : ImGs K gs u js) : ImGs K (gCons g gs) (consT t u) (is ++ js) := fun dk H0 F0 F σ H env st vs ds env' gd r e Q q => by
  unfold consT at e
  split at e
  · obtain ⟨e1, h3, h4⟩ := bnd e
    cases r with
    | cons a b =>
      refine ⟨_, _, rfl, h1 dk H0 F0 F σ H env st _ _ e1 gd a h3 _ fun σ1 g1 t1 => ?_⟩
      refine h2 dk H0 F0 F σ1 H e1 st _ _ env' g1 b h4 _ fun σ2 g2 t2 => q σ2 g2 ⟨t2.len.trans t1.len, t2.elen.trans t1.elen, fun i hi => ?_⟩
      have a1 := t1.same i fun z => hi (List.mem_append_left _ z)
      have a2 := t2.same i fun z => hi (List.mem_append_right _ z)
      exact ⟨a2.1.trans a1.1, a2.2.trans a1.2⟩
  · cases e
def tupT (n : Nat) (u : List D → Sg → Option Sg) : MG := fun d env => match d with
  | .tup ds => if ds.length = n then u ds env else none
  | _ => none
theorem ig_tup {gs : TGs} {u : List D → Sg → Option Sg} {js : List Nat} {n : Nat} (h : ImGs K gs u js) : ImG K (gTup K n gs) (tupT n u) js := fun dk H0 F0 F σ H env st v d env' g r e Q q => by
  unfold tupT at e
  split at e
  · split at e
    · rename_i hn
      cases r with
      | tup h1 h2 =>
        exact ⟨_, _, rfl, g.wd.sub.sqT h1, by rw [h2.length]; exact hn, h dk H0 F0 F σ H env st _ _ env' g h2 e Q q⟩
    · cases e
  · cases e
def asgM (t : MG) (f : ME) : MS := fun env st => (f env st).bind fun p => (t p.1 env).map fun e => (.nx e, p.2)
theorem is_asg {te : TE} {g : TG} {t : MG} {f : ME} {is : List Nat} (h : Im K te f) (hg : ImG K g t is) : ImS K (tAsg te g) (asgM t f) := fun dk H0 F0 F σ H env st fl st' gd e E hd => by
  obtain ⟨⟨d, s1⟩, e1, e⟩ := bnd e
  obtain ⟨en, e2, e⟩ := mpd e
  cases e
  refine h dk H0 F0 F σ H env st d s1 gd e1 _ fun v F1 H1 x1 g1 r1 => ?_
  exact hg dk H0 F0 F1 σ H1 env s1 v d en g1 r1 e2 _ fun σ' g2 _ => hd F1 σ' H1 x1.f g2
/-- a new list for a name that will change it -/
def ownM (i : Nat) (f : MA) : MS := fun env st => (f env st).map fun p => (.nx (env.set i (.own (.lst, p.1))), p.2)
theorem is_own {te : TE} {f : MA} (i : Nat) (h : ImF K te f) : ImS K (tAsg te (gName i)) (ownM i f) := fun dk H0 F0 F σ H env st fl st' g e E hd => by
  obtain ⟨⟨ds, s1⟩, e1, e⟩ := mpd e
  cases e
  refine h dk H0 F0 F σ H env st ds s1 g e1 _ fun p vs F1 H1 x1 g1 hp fp hl r => ?_
  have nd := g.nedk hp
  exact hd F1 _ H1 x1.f (g1.setO (ds := (.lst, ds)) hl fp (g.fresh0 hp) nd.1 nd.2 (g.noown hp) r)
/-- a, b = e1, e2 -/
def two (i j : Nat) (env : Sg) : List D → Option Sg
  | [d, e] => some ((env.set i (.val d)).set j (.val e))
  | _ => none
def parM (i j : Nat) (fa : MA) : MS := fun env st => (fa env st).bind fun p => (two i j env p.1).map fun e => (.nx e, p.2)
theorem is_par {ta : TA} {fa : MA} (i j : Nat) (h : ImA K ta fa) : ImS K (tPar i j ta) (parM i j fa) := fun dk H0 F0 F σ H env st fl st' g e E hd => by
  obtain ⟨⟨ds, s1⟩, e1, e⟩ := bnd e
  obtain ⟨en, e2, e⟩ := mpd e
  cases e
  refine h dk H0 F0 F σ H env st ds s1 g e1 _ fun vs F1 H1 x1 g1 r1 => ?_
  replace e2 : two i j env ds = some en := e2
  unfold two at e2
  split at e2
  · cases e2
    cases r1 with
    | cons a b => cases b with
      | cons b c =>
        cases c
        exact ⟨_, _, rfl, hd F1 _ H1 x1.f ((g1.set a).set b)⟩
  · cases e2
/-- x op= e -/
def augM (i : Nat) (op : D → D → Option D) (f : ME) : MS := fun env st => match env[i]? with
  | some (.val x) => (f env st).bind fun p => (op x p.1).map fun z => (.nx (env.set i (.val z)), p.2)
  | _ => none
theorem is_aug {te : TE} {ti : TIp} {op : D → D → Option D} {f : ME} (i : Nat) (hr : RO K ti op) (h : ImW K te f) : ImS K (tAug i te ti) (augM i op f) := fun dk H0 F0 F σ H env st fl st' g e E hd => by
  unfold augM at e
  split at e
  · rename_i x hx
    obtain ⟨⟨d, s1⟩, e1, e⟩ := bnd e
    obtain ⟨z, e2, e⟩ := mpd e
    cases e
    obtain ⟨v, h1, h2⟩ := g.sl i _ hx
    refine ⟨v, join_eq h1, h dk H0 F0 F σ H env st d s1 g e1 _ fun u F1 H1 x1 g1 r1 => ?_⟩
    exact hr dk F1 H1 s1 v u x d z g1.wd (.inl (h2.mono x1.f)) r1 e2 _ fun w F2 H2 px r2 => hd F2 _ H2 (x1.f.trans px.f) ((g1.px px).set r2)
  · cases e
/-- a name's own list is changed no more -/
def frzE (i : Nat) (env : Sg) : Sg := match env[i]? with
  | some (.own (.lst, ds)) => env.set i (.val (.lst ds))
  | _ => env
theorem Good.frzE (i : Nat) (g : Good K dk H0 F0 F σ H env st) : ∃ F', Le F F' ∧ Good K dk H0 F0 F' σ H (frzE i env) st := by
  unfold MD.frzE
  split
  · rename_i ds he
    obtain ⟨p, vs, h1, h2, h3, h4, h5, h6, h7⟩ := g.sl i _ he
    have hs := join_eq h1
    have le : Le F (upd F p (.lst vs)) := Le.new h3
    have hil : i < env.length := by
      by_cases hl : i < env.length
      · exact hl
      · rw [List.getElem?_eq_none (by omega)] at he; cases he
    -- first forget the slot, then freeze, then store it again
    have g1 : Good K dk H0 F0 F σ H (env.set i .un) st := g.reslot (by rw [List.length_set]; exact g.len) fun j s e => by
      by_cases hj : i = j
      · subst hj
        rw [List.getElem?_set_self hil] at e
        cases e; exact .inl rfl
      · rw [List.getElem?_set_ne hj] at e; exact .inr ⟨e, rfl⟩
    have g2 := g1.freeze (p := p) h2 h3 h4 h5 h6 fun j es e => by
      by_cases hj : i = j
      · subst hj
        rw [List.getElem?_set_self hil] at e; cases e
      · rw [List.getElem?_set_ne hj] at e
        exact g.dis i j _ es p hj he e hs
    have g3 := g2.set (i := i) (x := .ref p) (d := .lst ds) (.lst upd_same (h7.mono le))
    rw [List.set_set] at g3
    have es : σ.set i (some (.ref p)) = σ := by
      apply List.ext_getElem?
      intro j
      by_cases hj : i = j
      · subst hj
        rw [List.getElem?_set_self (by rw [g.len]; exact hil), hs]
      · rw [List.getElem?_set_ne hj]
    rw [es] at g3
    exact ⟨_, le, g3⟩
  · exact ⟨F, Le.refl F, g⟩
def frzM (i : Nat) (f : MS) : MS := fun env st => f (frzE i env) st
theorem is_frz {t : TS} {f : MS} (i : Nat) (h : ImS K t f) : ImS K t (frzM i f) := fun dk H0 F0 F σ H env st fl st' g e E hd => by
  obtain ⟨F1, le, g1⟩ := g.frzE i
  exact h dk H0 F0 F1 σ H (frzE i env) st fl st' g1 e E (hd.mono le)
/-- x.append(e), x.extend(e) of a name's own list -/
def appM (i : Nat) (f : ME) : MS := fun env st => match env[i]? with
  | some (.own (.lst, ds)) => if ds.length < sizeLine then (f env st).map fun p => (.nx (env.set i (.own (.lst, ds ++ [p.1]))), p.2) else none
  | _ => none
theorem is_app {te : TE} {f : ME} (i : Nat) (h : Im K te f) : ImS K (tDrop (tBM K "list" rAppend (tVar i) (tCons te tNil))) (appM i f) := fun dk H0 F0 F σ H env st fl st' g e E hd => by
  unfold appM at e
  split at e
  · rename_i ds he
    split at e
    · rename_i hz
      obtain ⟨⟨d, s1⟩, e1, e⟩ := mpd e
      cases e
      obtain ⟨p, vs, h1, h2, h3, h4, h5, h6, h7⟩ := g.sl i _ he
      refine ⟨.ref p, join_eq h1, .inl ⟨rfl, vs, SqL.of h2⟩, ?_⟩
      refine h dk H0 F0 F σ H env st d s1 g e1 _ fun v F1 H1 x1 g1 r1 => ?_
      refine ⟨p, vs, v, rfl, rfl, x1.h _ _ h2 h5 h6, by rw [h7.length]; exact hz, ?_⟩
      exact hd F1 σ _ x1.f (g1.mut (ds' := (.lst, _)) he (join_eq h1) upd_same ((h7.mono x1.f).append (Rps.one r1)))
    · cases e
  · cases e
def lstOf : D → Option (List D)
  | .lst ds => some ds
  | _ => none
theorem lstOf_eq {d : D} {ds : List D} (h : lstOf d = some ds) : d = .lst ds := by
  cases d <;> first | (cases h; rfl) | cases h
def extM (i : Nat) (f : ME) : MS := fun env st => match env[i]? with
  | some (.own (.lst, ds)) => (f env st).bind fun p => (lstOf p.1).bind fun es => if ds.length + es.length ≤ sizeLine then some (.nx (env.set i (.own (.lst, ds ++ es))), p.2) else none
  | _ => none
theorem is_ext {te : TE} {f : ME} (i : Nat) (h : Im K te f) : ImS K (tDrop (tBM K "list" rExtend (tVar i) (tCons te tNil))) (extM i f) := fun dk H0 F0 F σ H env st fl st' g e E hd => by
  unfold extM at e
  split at e
  · rename_i ds he
    obtain ⟨⟨d, s1⟩, e1, e⟩ := bnd e
    obtain ⟨es, e2, e⟩ := bnd e
    cases lstOf_eq e2
    split at e
    · rename_i hz
      cases e
      obtain ⟨p, vs, h1, h2, h3, h4, h5, h6, h7⟩ := g.sl i _ he
      refine ⟨.ref p, join_eq h1, .inl ⟨rfl, vs, SqL.of h2⟩, ?_⟩
      refine h dk H0 F0 F σ H env st _ s1 g e1 _ fun v F1 H1 x1 g1 r1 => ?_
      cases r1 with
      | lst k1 k2 =>
        refine ⟨p, _, vs, _, rfl, rfl, x1.h _ _ h2 h5 h6, g1.wd.sub _ _ k1, by rw [h7.length, k2.length]; exact hz, ?_⟩
        exact hd F1 σ _ x1.f (g1.mut (ds' := (.lst, _)) he (join_eq h1) upd_same ((h7.mono x1.f).append k2))
    · cases e
  · cases e
end
end MD

set_option Elab.async false
set_option linter.all false
set_option maxRecDepth 100000
set_option maxHeartbeats 1000000
namespace MD
open PySem L2

abbrev MI := Sg → S → Option (List D × S)
/-- the walk goes through these data, whatever is laid meanwhile -/
def Stdy (K : Fg) (dk : Dk) (F : Hp) (J : It) (ds : List D) : Prop := ∀ (F1 H1 : Hp) (st : S), Le F F1 → Wd dk F1 H1 st → ∀ i : Nat,
  (∀ d, ds[i]? = some d → J.go i H1 ∧ ∀ x H2, J.yld i H1 x H2 → ∃ F2, Px F1 H1 F2 H2 ∧ Rp K dk F2 x d) ∧ (ds.length ≤ i → J.stop i H1)
def ImI (K : Fg) (wi : TI) (f : MI) : Prop := ∀ (dk : Dk) (H0 F0 F : Hp) (σ : L2.St) (H : Hp) (env : Sg) (st : S) (ds : List D) (st' : S), Good K dk H0 F0 F σ H env st → f env st = some (ds, st') →
  ∀ R : It → Hp → Prop, (∀ J F' H', Ext dk F H F' H' → Good K dk H0 F0 F' σ H' env st' → Stdy K dk F' J ds → R J H') → wi σ H R

section
variable {K : Fg} {dk : Dk} {F F' H H' H0 F0 : Hp} {σ : L2.St} {env : Sg} {st : S}
theorem Stdy.mono {J : It} {ds : List D} (le : Le F F') (h : Stdy K dk F J ds) : Stdy K dk F' J ds := fun F1 H1 st l w => h F1 H1 st (le.trans l) w
theorem getD_none {α : Type} {l : List α} {i : Nat} (h : l.length ≤ i) : l[i]? = none := List.getElem?_eq_none h

/-! ### for -/
def forL (t : MG) (b : MS) : List D → MS
  | [], env, st => some (.nx env, st)
  | d :: ds, env, st => (t d env).bind fun env1 => (b env1 st).bind fun p => match p.1 with
    | .nx e => forL t b ds e p.2
    | .ct e => forL t b ds e p.2
    | .bk e => some (.nx e, p.2)
    | .rt r => some (.rt r, p.2)
def forM (it : MI) (t : MG) (b : MS) : MS := fun env st => (it env st).bind fun p => forL t b p.1 env p.2
theorem is_for {wi : TI} {g : TG} {tb : TS} {it : MI} {t : MG} {b : MS} {is : List Nat} (hi : ImI K wi it) (hg : ImG K g t is) (hb : ImS K tb b) : ImS K (tFor wi g tb) (forM it t b) := fun dk H0 F0 F σ H env st fl st' gd e E hd => by
  obtain ⟨⟨ds, s1⟩, e1, e⟩ := bnd e
  refine hi dk H0 F0 F σ H env st ds s1 gd e1 _ fun J F1 H1 x1 g1 sd => ?_
  have hd1 := hd.mono x1.f
  let P : Nat → L2.St → Hp → Prop := fun i σ H => ∃ F2 env st, Le F1 F2 ∧ Good K dk H0 F0 F2 σ H env st ∧ forL t b (ds.drop i) env st = some (fl, st')
  refine ⟨fun i m σ H => m = ds.length - i ∧ i ≤ ds.length ∧ P i σ H, ⟨_, rfl, Nat.zero_le _, F1, env, s1, Le.refl F1, g1, e⟩, ?_⟩
  rintro i m σ2 H2 ⟨rfl, hle, F2, env2, s2, le2, g2, e2⟩
  by_cases hlt : i < ds.length
  · have hdi : ds[i]? = some ds[i] := List.getElem?_eq_getElem hlt
    obtain ⟨hgo, hy⟩ := (sd F2 H2 s2 le2 g2.wd i).1 _ hdi
    refine .inr ⟨hgo, P (i + 1), fun σ' H' hp => ⟨_, by omega, rfl, hlt, hp⟩, fun x H3 hx => ?_⟩
    obtain ⟨F3, px, rx⟩ := hy x H3 hx
    have g3 := g2.px px
    rw [List.drop_eq_getElem_cons hlt] at e2
    obtain ⟨env3, e3, e2⟩ := bnd e2
    obtain ⟨⟨fl3, s3⟩, e4, e2⟩ := bnd e2
    refine hg dk H0 F0 F3 σ2 H3 env2 s2 x _ env3 g3 rx e3 _ fun σ4 g4 _ => ?_
    refine hb dk H0 F0 F3 σ4 H3 env3 s2 fl3 s3 g4 e4 _ ?_
    cases fl3 with
    | nx e5 => exact fun F5 σ5 H5 l5 g5 => ⟨F5, e5, s3, (le2.trans px.f).trans l5, g5, e2⟩
    | ct e5 => exact fun F5 σ5 H5 l5 g5 => ⟨F5, e5, s3, (le2.trans px.f).trans l5, g5, e2⟩
    | bk e5 =>
      cases e2
      exact fun F5 σ5 H5 l5 g5 => hd1 F5 σ5 H5 ((le2.trans px.f).trans l5) g5
    | rt r =>
      cases e2
      exact hd1
  · have ei : i = ds.length := by omega
    subst ei
    rw [List.drop_length] at e2
    cases e2
    exact .inl ⟨(sd F2 H2 _ le2 g2.wd ds.length).2 (Nat.le_refl _), hd1 F2 σ2 H2 le2 g2⟩

/-! ### while -/
def whF (c : MT) (b : MS) : Nat → MS
  | 0, _, _ => none
  | n + 1, env, st => (c env st).bind fun q => if q.1 then (b env q.2).bind fun p => match p.1 with
      | .nx e => whF c b n e p.2
      | .ct e => whF c b n e p.2
      | .bk e => some (.nx e, p.2)
      | .rt r => some (.rt r, p.2)
    else some (.nx env, q.2)
theorem whF_mono {c : MT} {b : MS} {r : Fl × S} : ∀ (n : Nat) {env : Sg} {st : S}, whF c b n env st = some r → whF c b (n + 1) env st = some r
  | 0, _, _, h => by cases h
  | n + 1, env, st, h => by
    obtain ⟨⟨k, s1⟩, e1, h⟩ := bnd h
    show ((c env st).bind _) = _
    rw [e1]
    cases k with
    | false => exact h
    | true =>
      replace h : ((b env s1).bind fun p => match p.1 with
        | .nx e => whF c b n e p.2
        | .ct e => whF c b n e p.2
        | .bk e => some (.nx e, p.2)
        | .rt r => some (.rt r, p.2)) = some r := h
      obtain ⟨⟨fl, s2⟩, e2, h⟩ := bnd h
      show ((b env s1).bind _) = _
      rw [e2]
      cases fl with
      | nx e => exact whF_mono n h
      | ct e => exact whF_mono n h
      | bk e => exact h
      | rt e => exact h
theorem whF_le {c : MT} {b : MS} {r : Fl × S} {env : Sg} {st : S} {n m : Nat} (h : n ≤ m) (e : whF c b n env st = some r) : whF c b m env st = some r := by
  induction h with
  | refl => exact e
  | step _ ih => exact whF_mono _ ih
open Classical in
noncomputable def whM (c : MT) (b : MS) : MS := fun env st => if h : ∃ n r, whF c b n env st = some r then whF c b h.choose env st else none
theorem whM_of {c : MT} {b : MS} {r : Fl × S} {env : Sg} {st : S} {n : Nat} (e : whF c b n env st = some r) : whM c b env st = some r := by
  unfold whM
  have h : ∃ n r, whF c b n env st = some r := ⟨n, r, e⟩
  rw [dif_pos h]
  obtain ⟨r', hr⟩ := h.choose_spec
  rw [hr]
  rcases Nat.le_total n h.choose with l | l
  · rw [whF_le l e] at hr; exact hr.symm
  · rw [whF_le l hr] at e; exact e
theorem of_whM {c : MT} {b : MS} {r : Fl × S} {env : Sg} {st : S} (e : whM c b env st = some r) : ∃ n, whF c b n env st = some r := by
  unfold whM at e
  split at e
  · exact ⟨_, e⟩
  · cases e
theorem is_while {c : TT} {tb : TS} {fc : MT} {b : MS} (hc : ImT K c fc) (hb : ImS K tb b) : ImS K (tWhile c tb) (whM fc b) := fun dk H0 F0 F σ H env st fl st' gd e E hd => by
  obtain ⟨n, e⟩ := of_whM e
  refine ⟨fun m σ H => ∃ F2 env st, Le F F2 ∧ Good K dk H0 F0 F2 σ H env st ∧ whF fc b m env st = some (fl, st'), ⟨n, F, env, st, Le.refl F, gd, e⟩, ?_⟩
  rintro m σ2 H2 ⟨F2, env2, s2, le2, g2, e2⟩
  cases m with
  | zero => cases e2
  | succ m =>
    obtain ⟨⟨k, s3⟩, e3, e2⟩ := bnd e2
    refine hc dk H0 F0 F2 σ2 H2 env2 s2 k s3 g2 e3 _ fun F3 H3 x3 g3 => ?_
    have le3 := le2.trans x3.f
    cases k with
    | false => cases e2; exact hd F3 σ2 H3 le3 g3
    | true =>
      replace e2 : ((b env2 s3).bind fun p => match p.1 with
        | .nx e => whF fc b m e p.2
        | .ct e => whF fc b m e p.2
        | .bk e => some (.nx e, p.2)
        | .rt r => some (.rt r, p.2)) = some (fl, st') := e2
      obtain ⟨⟨fl4, s4⟩, e4, e2⟩ := bnd e2
      refine ⟨fun σ H => ∃ F2 env st, Le F F2 ∧ Good K dk H0 F0 F2 σ H env st ∧ whF fc b m env st = some (fl, st'), fun σ' H' h => ⟨m, Nat.lt_succ_self m, h⟩, ?_⟩
      refine hb dk H0 F0 F3 σ2 H3 env2 s3 fl4 s4 g3 e4 _ ?_
      cases fl4 with
      | nx e5 => exact fun F5 σ5 H5 l5 g5 => ⟨F5, e5, s4, le3.trans l5, g5, e2⟩
      | ct e5 => exact fun F5 σ5 H5 l5 g5 => ⟨F5, e5, s4, le3.trans l5, g5, e2⟩
      | bk e5 =>
        cases e2
        exact fun F5 σ5 H5 l5 g5 => hd F5 σ5 H5 (le3.trans l5) g5
      | rt r =>
        cases e2
        exact hd

/-! ### comprehensions -/
def wipeE (env : Sg) : List Nat → Sg
  | [] => env
  | v :: vs => (wipeE env vs).set v .un
theorem wipeE_length (env : Sg) : ∀ vs : List Nat, (wipeE env vs).length = env.length
  | [] => rfl
  | v :: vs => by unfold wipeE; rw [List.length_set, wipeE_length env vs]
theorem wipeE_get {env : Sg} {i : Nat} {s : Sl} : ∀ {vs : List Nat}, (wipeE env vs)[i]? = some s → s = .un ∨ (env[i]? = some s ∧ i ∉ vs)
  | [], h => .inr ⟨h, by simp⟩
  | v :: vs, h => by
    unfold wipeE at h
    by_cases hi : v = i
    · subst hi
      by_cases hv : v < (wipeE env vs).length
      · rw [List.getElem?_set_self hv] at h; cases h; exact .inl rfl
      · rw [List.getElem?_eq_none (by rw [List.length_set]; omega)] at h; cases h
    · rw [List.getElem?_set_ne hi] at h
      rcases wipeE_get h with z | ⟨z1, z2⟩
      · exact .inl z
      · exact .inr ⟨z1, by simp only [List.mem_cons, not_or]; exact ⟨fun e => hi e.symm, z2⟩⟩
theorem wipe_off {σ : L2.St} {i : Nat} : ∀ {vs : List Nat}, i ∉ vs → (wipe σ vs)[i]? = σ[i]?
  | [], _ => rfl
  | v :: vs, h => by
    unfold wipe
    have hi : v ≠ i := fun e => h (by simp [e])
    rw [List.getElem?_set_ne hi]
    exact wipe_off fun z => h (List.mem_cons_of_mem _ z)
theorem wipe_in {σ : L2.St} {i : Nat} : ∀ {vs : List Nat}, i ∈ vs → (wipe σ vs)[i]? = if i < σ.length then some none else none
  | [], h => by cases h
  | v :: vs, h => by
    unfold wipe
    by_cases hi : v = i
    · subst hi
      by_cases hv : v < σ.length
      · rw [List.getElem?_set_self (by rw [wipe_length]; exact hv), if_pos hv]
      · rw [List.getElem?_eq_none (by rw [List.length_set, wipe_length]; omega), if_neg hv]
    · rw [List.getElem?_set_ne hi]
      rcases List.mem_cons.mp h with e | e
      · exact absurd e.symm hi
      · exact wipe_in e
theorem wipe_eq {σ σ' : L2.St} {vs : List Nat} (hl : σ'.length = σ.length) (h : ∀ i : Nat, i ∉ vs → σ'[i]? = σ[i]?) : wipe σ' vs = wipe σ vs := by
  apply List.ext_getElem?
  intro i
  by_cases hi : i ∈ vs
  · rw [wipe_in hi, wipe_in hi, hl]
  · rw [wipe_off hi, wipe_off hi]; exact h i hi
theorem wipe_wipe {σ : L2.St} {vs : List Nat} : wipe (wipe σ vs) vs = wipe σ vs := wipe_eq (wipe_length σ vs) fun i hi => wipe_off hi
theorem Good.wiped {vs : List Nat} (g : Good K dk H0 F0 F σ H env st) : Good K dk H0 F0 F (wipe σ vs) H (wipeE env vs) st :=
  g.reslot (by rw [wipe_length, wipeE_length]; exact g.len) fun i s e => by
    rcases wipeE_get e with z | ⟨z1, z2⟩
    · exact .inl z
    · exact .inr ⟨z1, wipe_off z2⟩
def compL (t : MG) (c : MT) (f : ME) (env : Sg) : List D → S → Option (List D × S)
  | [], st => some ([], st)
  | d :: ds, st => (t d env).bind fun e => (c e st).bind fun p => if p.1 then (f e p.2).bind fun q => (compL t c f env ds q.2).map fun r => (q.1 :: r.1, r.2) else compL t c f env ds p.2
def compM (it : MI) (t : MG) (c : MT) (f : ME) (vs : List Nat) : MA := fun env st => (it env st).bind fun p => if p.1.length ≤ sizeLine then compL t c f (wipeE env vs) p.1 p.2 else none
def yesM : MT := fun _ st => some (true, st)
theorem it_yes : ImT K tYes yesM := fun dk H0 F0 F σ H env st b st' g e Q q => by
  cases e
  exact q F H (Ext.refl F H) g
theorem if_comp {wi : TI} {g : TG} {tt : TT} {te : TE} {vs : List Nat} {it : MI} {t : MG} {c : MT} {f : ME} {is : List Nat} (hi : ImI K wi it) (hg : ImG K g t is) (ht : ImT K tt c) (he : Im K te f) (hv : ∀ i ∈ is, i ∈ vs) :
    ImF K (tLc wi g tt te vs) (compM it t c f vs) := fun dk H0 F0 F σ H env st out st' gd e Q q => by
  obtain ⟨⟨ds, s1⟩, e1, e⟩ := bnd e
  replace e : (if ds.length ≤ sizeLine then compL t c f (wipeE env vs) ds s1 else none) = some (out, st') := e
  split at e
  · rename_i hz
    refine hi dk H0 F0 F σ H env st ds s1 gd e1 _ fun J F1 H1 x1 g1 sd Dn hD => ?_
    have hDH : H Dn = none := by
      cases w : H Dn with
      | none => rfl
      | some o => exact absurd hD (x1.m Dn (by rw [w]; exact fun z => nomatch z))
    have nd := g1.nedk hD
    have h0D := g1.fresh0 hD
    have noD := g1.noown hD
    have noW : ∀ (j : Nat) (es : Own), (wipeE env vs)[j]? = some (.own es) → (wipe σ vs)[j]? ≠ some (some (.ref Dn)) := fun j es e => by
      rcases wipeE_get e with z | ⟨z1, z2⟩
      · cases z
      · rw [wipe_off z2]; exact noD j es z1
    let P : Nat → Hp → Prop := fun i H => ∃ F2 st2 acc done rest, Le F1 F2 ∧ Ext dk F1 H1 F2 H ∧ Good K dk H0 F0 F2 (wipe σ vs) H (wipeE env vs) st2 ∧ H Dn = some (.lst acc) ∧ F2 Dn = none ∧ acc.length ≤ i ∧ Rps K dk F2 acc done ∧
      compL t c f (wipeE env vs) (ds.drop i) st2 = some (rest, st') ∧ done ++ rest = out
    have px0 : Px F1 H1 F1 (upd H1 Dn (.lst [])) := Px.lay g1.wd.sub hD
    refine ⟨fun i m H => m = ds.length - i ∧ i ≤ ds.length ∧ P i H, ⟨_, rfl, Nat.zero_le _, F1, s1, [], [], out, Le.refl F1, px0.ext, (g1.wiped).px px0, upd_same, g1.wd.sub.free hD, Nat.zero_le _, .nil, e, rfl⟩, ?_⟩
    rintro i m H2 ⟨rfl, hle, F2, s2, acc, done, rest, le2, x2, g2, hacc, f2, hal, racc, e2, eo⟩
    by_cases hlt : i < ds.length
    · have hdi : ds[i]? = some ds[i] := List.getElem?_eq_getElem hlt
      obtain ⟨hgo, hy⟩ := (sd F2 H2 s2 le2 g2.wd i).1 _ hdi
      refine .inr ⟨hgo, P (i + 1), fun H' hp => ⟨_, by omega, rfl, hlt, hp⟩, fun x H3 hx => ?_⟩
      obtain ⟨F3, px, rx⟩ := hy x H3 hx
      have g3 := g2.px px
      rw [List.drop_eq_getElem_cons hlt] at e2
      obtain ⟨env3, e3, e2⟩ := bnd e2
      obtain ⟨⟨b, s4⟩, e4, e2⟩ := bnd e2
      refine hg dk H0 F0 F3 (wipe σ vs) H3 (wipeE env vs) s2 x _ env3 g3 rx e3 _ fun σ4 g4 tg => ?_
      have same : ∀ j : Nat, j ∉ vs → σ4[j]? = (wipe σ vs)[j]? ∧ env3[j]? = (wipeE env vs)[j]? := fun j hj => tg.same j fun z => hj (hv j z)
      have weq : wipe σ4 vs = wipe σ vs := by
        rw [wipe_eq tg.len fun j hj => (same j hj).1, wipe_wipe]
      have nD3 : H2 Dn ≠ none := by rw [hacc]; exact fun z => nomatch z
      have back : ∀ {F5 H5 : Hp} {st5 : S}, Good K dk H0 F0 F5 σ4 H5 env3 st5 → Good K dk H0 F0 F5 (wipe σ vs) H5 (wipeE env vs) st5 := fun {F5 H5 st5} g5 =>
        g5.reslot (by rw [wipe_length, wipeE_length]; exact gd.len) fun j s es => by
          rcases wipeE_get es with z | ⟨z1, z2⟩
          · exact .inl z
          · exact .inr ⟨(same j z2).2.trans es, (same j z2).1.symm⟩
      refine ⟨weq, ?_⟩
      refine ht dk H0 F0 F3 σ4 H3 env3 s2 b s4 g4 e4 _ fun F5 H5 x5 g5 => ?_
      have x25 : Ext dk F2 H2 F5 H5 := px.ext.trans x5
      have a5 : H5 Dn = some (.lst acc) := x25.h _ _ hacc nd.1 nd.2
      have f5 : F5 Dn = none := x25.n _ f2 nD3
      cases b with
      | false =>
        exact ⟨F5, s4, acc, done, rest, le2.trans x25.f, x2.trans x25, back g5, a5, f5, by omega, racc.mono x25.f, e2, eo⟩
      | true =>
        replace e2 : ((f env3 s4).bind fun q => (compL t c f (wipeE env vs) (ds.drop (i + 1)) q.2).map fun r => (q.1 :: r.1, r.2)) = some (rest, st') := e2
        obtain ⟨⟨y, s6⟩, e6, e2⟩ := bnd e2
        obtain ⟨⟨rest', s7⟩, e7, e2⟩ := mpd e2
        cases e2
        refine he dk H0 F0 F5 σ4 H5 env3 s4 y s6 g5 e6 _ fun v F6 H6 x6 g6 r6 => ?_
        have x26 := x25.trans x6
        have a6 : H6 Dn = some (.lst acc) := x26.h _ _ hacc nd.1 nd.2
        have f6 : F6 Dn = none := x26.n _ f2 nD3
        refine ⟨acc, a6, by omega, F6, s6, acc ++ [v], done ++ [y], rest', le2.trans x26.f, ?_, (back g6).mutT a6 f6 h0D nd.1 nd.2 noW, upd_same, f6, by simp; omega, (racc.mono x26.f).append (Rps.one r6), e7, by rw [← eo]; simp⟩
        have x16 := x2.trans x26
        refine ⟨fun a o ha n1 n2 => ?_, x16.f, x16.n, fun a ha z => ?_⟩
        · rw [upd_ne (ne_of_none ha hD)]; exact x16.h a o ha n1 n2
        · by_cases na : a = Dn
          · subst na; rw [upd_same] at z; cases z
          · rw [upd_ne na] at z; exact x16.m a ha z
    · have ei : i = ds.length := by omega
      subst ei
      rw [List.drop_length] at e2
      cases e2
      refine .inl ⟨(sd F2 H2 _ le2 g2.wd ds.length).2 (Nat.le_refl _), ?_⟩
      rw [List.append_nil] at eo
      subst eo
      have g9 : Good K dk H0 F0 F2 σ H2 env st' := by
        have gx := g1.step x2 g2.wd
        exact gx
      exact q Dn acc F2 H2 (x1.trans x2) g9 hDH f2 hacc racc
  · cases e
end
end MD

set_option Elab.async false
set_option linter.all false
set_option maxRecDepth 100000
set_option maxHeartbeats 2000000
namespace MD
open PySem L2

section
variable {K : Fg} {dk : Dk} {F F' H H' H0 F0 : Hp} {σ : L2.St} {env : Sg} {st : S}
/-! ### what a for or a comprehension walks -/
def rngD (lo : Int) (n : Nat) : List D := (List.range n).map fun k => .int (lo + (k : Nat))
theorem rngD_get {lo : Int} {n i : Nat} {d : D} (h : (rngD lo n)[i]? = some d) : i < n ∧ d = .int (lo + (i : Nat)) := by
  unfold rngD at h
  rw [List.getElem?_map] at h
  obtain ⟨k, h1, h2⟩ := mpd h
  have hi : i < n := by
    by_cases hl : i < n
    · exact hl
    · rw [List.getElem?_eq_none (by rw [List.length_range]; omega)] at h1; cases h1
  rw [List.getElem?_range hi] at h1
  cases h1
  exact ⟨hi, h2.symm⟩
theorem stdy_rng (lo : Int) (n : Nat) : Stdy K dk F (Itr lo n) (rngD lo n) := fun F1 H1 st le w i => by
  refine ⟨fun d hd => ?_, fun hl => ?_⟩
  · obtain ⟨h1, rfl⟩ := rngD_get hd
    refine ⟨h1, fun x H2 hy => ?_⟩
    obtain ⟨e1, e2⟩ := hy
    subst e1 e2
    exact ⟨F1, Px.refl w.sub, .int _⟩
  · show n ≤ i
    unfold rngD at hl
    simpa using hl
def r1M (a : MA) : MI := fun env st => (a env st).bind fun p => match p.1 with
  | [.int j] => if -(2 ^ 62) ≤ j ∧ j < 2 ^ 62 then some (rngD 0 j.toNat, p.2) else none
  | _ => none
theorem ii_range1 {ta : TA} {a : MA} (h : ImAW K ta a) : ImI K (iRng1 ta) (r1M a) := fun dk H0 F0 F σ H env st ds st' g e R q => by
  obtain ⟨⟨xs, s1⟩, h1, e⟩ := bnd e
  refine h dk H0 F0 F σ H env st xs s1 g h1 _ fun vs F1 H1 x1 g1 r1 => ?_
  dsimp only at e
  split at e
  · split at e
    · rename_i j hj
      cases e
      obtain ⟨v, rfl, r⟩ := r1.one
      cases r.int
      exact ⟨j, rfl, hj.1, hj.2, q _ F1 H1 x1 g1 (stdy_rng 0 j.toNat)⟩
    · cases e
  · cases e
def r2M (a : MA) : MI := fun env st => (a env st).bind fun p => match p.1 with
  | [.int i, .int j] => if -(2 ^ 62) ≤ i ∧ i < 2 ^ 62 ∧ -(2 ^ 62) ≤ j ∧ j < 2 ^ 62 then some (rngD i (j - i).toNat, p.2) else none
  | _ => none
theorem ii_range2 {ta : TA} {a : MA} (h : ImAW K ta a) : ImI K (iRng2 ta) (r2M a) := fun dk H0 F0 F σ H env st ds st' g e R q => by
  obtain ⟨⟨xs, s1⟩, h1, e⟩ := bnd e
  refine h dk H0 F0 F σ H env st xs s1 g h1 _ fun vs F1 H1 x1 g1 r1 => ?_
  dsimp only at e
  split at e
  · split at e
    · rename_i i j hj
      cases e
      obtain ⟨v, u, rfl, r, r'⟩ := r1.two
      cases r.int
      cases r'.int
      exact ⟨i, j, rfl, hj, q _ F1 H1 x1 g1 (stdy_rng i (j - i).toNat)⟩
    · cases e
  · cases e

/-! a list, a tuple or a text -/
theorem stdy_list {a : Addr} {vs : List V} {ds : List D} (h : F a = some (.lst vs)) (r : Rps K dk F vs ds) : Stdy K dk F (Itl K a) ds := fun F1 H1 st le w i => by
  have hq : SqL K H1 a vs := SqL.of (w.sub _ _ (le _ _ h))
  refine ⟨fun d hd => ?_, fun hl => ⟨vs, hq, by rw [r.length]; exact hl⟩⟩
  obtain ⟨v, h1, h2⟩ := r.get hd
  refine ⟨⟨vs, v, hq, h1⟩, fun x H2 hy => ?_⟩
  obtain ⟨e1, e2⟩ := hy
  subst e1
  have ev := e2 vs hq
  rw [h1] at ev
  cases ev
  exact ⟨F1, Px.refl w.sub, h2.mono le⟩
theorem stdy_tup {a : Addr} {vs : List V} {ds : List D} (h : SqT K F a vs) (r : Rps K dk F vs ds) : Stdy K dk F (Itt K a) ds := fun F1 H1 st le w i => by
  have hq : SqT K H1 a vs := w.sub.sqT (le.sqT h)
  refine ⟨fun d hd => ?_, fun hl => ⟨vs, hq, by rw [r.length]; exact hl⟩⟩
  obtain ⟨v, h1, h2⟩ := r.get hd
  refine ⟨⟨vs, v, hq, h1⟩, fun x H2 hy => ?_⟩
  obtain ⟨e1, e2⟩ := hy
  subst e1
  have ev := e2 vs hq
  rw [h1] at ev
  cases ev
  exact ⟨F1, Px.refl w.sub, h2.mono le⟩
theorem signs_get {x : Str} {i : Nat} {d : D} (h : ((signs x).map D.str)[i]? = some d) : ∃ c, x.cps[i]? = some c ∧ d = .str ⟨#[c]⟩ := by
  unfold signs at h
  rw [List.map_map, List.getElem?_map] at h
  obtain ⟨c, h1, h2⟩ := mpd h
  exact ⟨c, by simpa using h1, h2.symm⟩
theorem signs_len (x : Str) : ((signs x).map D.str).length = x.cps.size := by
  unfold signs
  simp
theorem stdy_str (x : Str) : Stdy K dk F (Its x) ((signs x).map D.str) := fun F1 H1 st le w i => by
  refine ⟨fun d hd => ?_, fun hl => by rw [signs_len] at hl; exact hl⟩
  obtain ⟨c, h1, rfl⟩ := signs_get hd
  refine ⟨?_, fun y H2 hy => ?_⟩
  · show i < x.cps.size
    by_cases hl : i < x.cps.size
    · exact hl
    · rw [Array.getElem?_eq_none (by omega)] at h1; cases h1
  · obtain ⟨e1, c', h2, e2⟩ := hy
    subst e1 e2
    rw [h1] at h2
    cases h2
    exact ⟨F1, Px.refl w.sub, .str _⟩
def iSeq (K : Fg) (te : TE) : TI := fun σ H R => te σ H fun x H1 =>
  (∃ a, x = .ref a ∧ (∃ xs, SqL K H1 a xs) ∧ R (Itl K a) H1) ∨ (∃ a, x = .ref a ∧ (∃ xs, SqT K H1 a xs) ∧ R (Itt K a) H1) ∨ ∃ y, x = .str y ∧ R (Its y) H1
theorem pi_seq {X : Cx} {tg e : Expr} {te : TE} (he : PE X e te) : PI X tg e (iSeq X.K te) := by
  constructor
  intro pins s σ H R I h
  refine thn (he.run pins s σ H _ I h) fun v s1 h1 => ?_
  obtain ⟨x, H1, I1, r1, q1⟩ := h1
  rcases q1 with ⟨a, rfl, ⟨xs, hq⟩, q⟩ | ⟨a, rfl, ⟨xs, hq⟩, q⟩ | ⟨y, rfl, q⟩
  · cases r1
    obtain ⟨its, _, pl, _⟩ := I1.list hq
    exact wpAny_pyIter_list pl.isList (pi_one (tk := s1.toks) I1 _ (turn_list a _) ⟨_, Heap.get?_push_size _ rfl, rfl, rfl⟩ q)
  · cases r1
    obtain ⟨its, _, pl, _⟩ := I1.tuple hq
    exact wpAny_pyIter_tuple (show s1.heap.IsTuple a its.toArray from pl) (pi_one (tk := s1.toks) I1 _ (turn_tuple a _) ⟨_, Heap.get?_push_size _ rfl, rfl, rfl⟩ q)
  · obtain ⟨t, rfl⟩ := r1
    cases ha : y.cps.all (· < 128)
    · exact wpAny_pyIter_wide ha (pi_one (tk := s1.toks) I1 _ (turn_str _ y t "str_iterator" (.inr rfl)) ⟨_, Heap.get?_push_size _ rfl, rfl, rfl⟩ q)
    · exact wpAny_pyIter_ascii ha (pi_one (tk := s1.toks) I1 _ (turn_str _ y t "str_ascii_iterator" (.inl rfl)) ⟨_, Heap.get?_push_size _ rfl, rfl, rfl⟩ q)
def seqOf : D → Option (List D)
  | .lst ds => some ds
  | .tup ds => some ds
  | .str x => some ((signs x).map D.str)
  | _ => none
def seqI (f : ME) : MI := fun env st => (f env st).bind fun p => (seqOf p.1).map fun ds => (ds, p.2)
theorem ii_seq {te : TE} {f : ME} (h : Im K te f) : ImI K (iSeq K te) (seqI f) := fun dk H0 F0 F σ H env st ds st' g e R q => by
  obtain ⟨⟨d, s1⟩, h1, e⟩ := bnd e
  obtain ⟨es, h2, e⟩ := mpd e
  cases e
  refine h dk H0 F0 F σ H env st d s1 g h1 _ fun v F1 H1 x1 g1 r1 => ?_
  replace h2 : seqOf d = some ds := h2
  cases d with
  | lst xs =>
    cases h2
    cases r1 with
    | lst a1 a2 => exact .inl ⟨_, rfl, ⟨_, SqL.of (g1.wd.sub _ _ a1)⟩, q _ F1 H1 x1 g1 (stdy_list a1 a2)⟩
  | tup xs =>
    cases h2
    cases r1 with
    | tup a1 a2 => exact .inr (.inl ⟨_, rfl, ⟨_, g1.wd.sub.sqT a1⟩, q _ F1 H1 x1 g1 (stdy_tup a1 a2)⟩)
  | str x =>
    cases h2
    cases r1
    exact .inr (.inr ⟨_, rfl, q _ F1 H1 x1 g1 (stdy_str x)⟩)
  | _ => cases h2

/-! ### enumerate -/
def enumD (ds : List D) : List D := ds.zipIdx.map fun p => .tup [.int ((p.2 : Nat) : Int), p.1]
theorem enumD_get {ds : List D} {i : Nat} {d : D} (h : (enumD ds)[i]? = some d) : ∃ x, ds[i]? = some x ∧ d = .tup [.int ((i : Nat) : Int), x] := by
  unfold enumD at h
  rw [List.getElem?_map, List.getElem?_zipIdx] at h
  obtain ⟨p, h1, h2⟩ := mpd h
  obtain ⟨x, h3, h4⟩ := mpd h1
  subst h4
  exact ⟨x, h3, by rw [← h2]; simp⟩
theorem enumD_len (ds : List D) : (enumD ds).length = ds.length := by unfold enumD; simp
/-- items that stand fast, each in a new pair with its number -/
def ItE (C : Hp → Prop) (xs : List V) : It := ⟨fun i H => i < xs.length ∧ C H, fun i H v H' => ∃ T x, v = .ref T ∧ H T = none ∧ H' = upd H T (.tup [.int ((i : Nat) : Int), x]) ∧ xs[i]? = some x, fun i H => xs.length ≤ i ∧ C H⟩
theorem pair_new {T : Addr} {i : Int} {x : V} {d : D} {F1 H1 : Hp} {st : S} (w : Wd dk F1 H1 st) (hT : H1 T = none) (r : Rp K dk F1 x d) :
    ∃ F2, Px F1 H1 F2 (upd H1 T (.tup [.int i, x])) ∧ Rp K dk F2 (.ref T) (.tup [.int i, d]) := by
  have px : Px F1 H1 (upd F1 T (.tup [.int i, x])) (upd H1 T (.tup [.int i, x])) := Px.new w.sub hT
  exact ⟨_, px, .tup (SqT.of upd_same) (.cons (.int i) (.cons (r.mono px.f) .nil))⟩
theorem stdy_enumE {C : Hp → Prop} {vs : List V} {ds : List D} (hC : ∀ H1, Le F H1 → C H1) (r : Rps K dk F vs ds) : Stdy K dk F (ItE C vs) (enumD ds) := fun F1 H1 st le w i => by
  have hc : C H1 := hC H1 (le.trans w.sub)
  refine ⟨fun d hd => ?_, fun hl => ⟨by rw [enumD_len, ← r.length] at hl; exact hl, hc⟩⟩
  obtain ⟨x, h1, rfl⟩ := enumD_get hd
  obtain ⟨v, h2, h3⟩ := r.get h1
  refine ⟨⟨?_, hc⟩, fun y H2 hy => ?_⟩
  · show i < vs.length
    by_cases hl : i < vs.length
    · exact hl
    · rw [List.getElem?_eq_none (by omega)] at h2; cases h2
  · obtain ⟨T, v', rfl, hT, rfl, e⟩ := hy
    rw [h2] at e
    cases e
    exact pair_new w hT (h3.mono le)
theorem stdy_enumL {a : Addr} {vs : List V} {ds : List D} (h : F a = some (.lst vs)) (r : Rps K dk F vs ds) : Stdy K dk F (Ite K a) (enumD ds) := fun F1 H1 st le w i => by
  have hq : SqL K H1 a vs := SqL.of (w.sub _ _ (le _ _ h))
  refine ⟨fun d hd => ?_, fun hl => ⟨vs, hq, by rw [enumD_len, ← r.length] at hl; exact hl⟩⟩
  obtain ⟨x, h1, rfl⟩ := enumD_get hd
  obtain ⟨v, h2, h3⟩ := r.get h1
  refine ⟨⟨vs, v, hq, h2⟩, fun y H2 hy => ?_⟩
  obtain ⟨T, v', rfl, hT, rfl, e⟩ := hy
  have e' := e vs hq
  rw [h2] at e'
  cases e'
  exact pair_new w hT (h3.mono le)
/-- a turn of enumerate over what draws from it -/
theorem turnE {P : Program} {w : World} {K : Fg} {elts : List Expr} {kk : Nat} {tpos : Pos} (C : Hp → Prop) (xs : List V) (e it : Addr) (St1 : Nat → Heap → Prop)
    (fr : ∀ i h h', St1 i h → (∀ o, h.get? it = some o → h'.get? it = some o) → St1 i h')
    (ob : ∀ i h, St1 i h → ∃ o, h.get? it = some o ∧ ∀ v, o.data ≠ .cell v)
    (dr : ∀ (X : Cx), X.prog = P → X.w = w → X.K = K → X.calm = true → ∀ (i : Nat) (pins : List (Addr × Obj)) (s : Shared) (σ : L2.St) (H : Hp), Inv X pins σ H s → C H → H it = none → St1 i s.heap →
      ∃ (fp : List Addr) (St2 : Nat → Heap → Prop) (Pv : Nat → Value → Prop), Draws P w X.A.in1 it fp xs.length Pv St2 ∧ St2 i s.heap ∧ (∀ j h, St2 j h → St1 j h) ∧ (∀ b ∈ fp, b = it ∨ (∃ o, H b = some o) ∨ ∃ o, X.base.get? b = some o) ∧ ∀ j u, Pv j u → ∃ x, xs[j]? = some x ∧ RelV x u) :
    Turn P w K (.Tuple elts kk tpos) (ItE C xs) [e, it] e (fun i h => (∃ old, IsEnum h e it ((i : Nat) : Int) old) ∧ St1 i h ∧ e ≠ it ∧ i ≤ xs.length) where
  mem := List.mem_cons_self
  obj := fun i h tn b hb => by
    obtain ⟨⟨old, he⟩, hs, _⟩ := tn
    rcases List.mem_cons.mp hb with z | z
    · rw [z]; exact ⟨_, he, fun v q => nomatch q⟩
    · rw [List.mem_singleton.mp z]; exact ob i h hs
  keep := fun i h h' tn k => by
    obtain ⟨⟨old, he⟩, hs, hne, hl⟩ := tn
    exact ⟨⟨old, k e List.mem_cons_self _ he⟩, fr i h h' hs fun o q => k it (by simp) o q, hne, hl⟩
  item := by
    intro X hP hw hK hc i pins s σ H Er I hf tn hgo
    obtain ⟨hg, hC⟩ : i < xs.length ∧ C H := hgo
    obtain ⟨⟨old, he⟩, hs, hne, _⟩ := tn
    obtain ⟨fp, St2, Pv, Dw, h2, h21, hfp, hpv⟩ := dr X hP hw hK hc i pins s σ H I hC (hf it (by simp)).1 hs
    subst hP hw hK
    have hel : e < s.heap.objs.size := Heap.lt_size he
    have hil : it < s.heap.objs.size := by obtain ⟨o, q, _⟩ := ob i _ hs; exact Heap.lt_size q
    have hef : e ∉ fp := fun z => by
      rcases hfp e z with q | ⟨o, q⟩ | ⟨o, q⟩
      · exact hne q
      · rw [(hf e (by simp)).1] at q; cases q
      · have hx := (I.bs e o q).1
        obtain ⟨f0, f1, f2, f3, _⟩ := hf e (by simp)
        rcases f3 with f3 | f3
        · exact I.ok.noex e o q f3
        · exact absurd (Nat.lt_of_lt_of_le (Heap.lt_size (I.ok.bs e o q).1) f3) (Nat.lt_irrefl _)
    refine wpAny_pyNext_enum_itemD Dw he h2 hg hne hef fun u h' tk hu ho hst hT hsz hk => ?_
    obtain ⟨x, hx, ru⟩ := hpv i u hu
    refine ⟨_, rfl, wpAny_letOwnedTupleGo_enum (s := { s with heap := h', toks := tk + 1 }) ho fun h'' he' sb => ?_⟩
    have hT2 : h''.get? s.heap.objs.size = some { cls := .type "tuple", data := .seq #[.int i tk, u] } := (sb.2 _ (Nat.ne_of_gt hel)).trans hT
    have new : ObjOk X.prog X.w (upd H s.heap.objs.size (.tup [.int ((i : Nat) : Int), x])) h'' s.heap.objs.size (.tup [.int ((i : Nat) : Int), x]) := by
      refine ⟨?_, [.int i tk, u], .cons ⟨_, rfl⟩ (.cons ru .nil), ⟨_, hT2, rfl, _, rfl⟩⟩
      show 2 ≤ sizeLine
      decide
    have I1 : Inv X pins σ (upd H s.heap.objs.size (.tup [.int ((i : Nat) : Int), x])) { s with heap := h'', toks := tk + 1 } := by
      refine I.turnedNew (ch := [e, it]) (fun b o hb q => ?_) hf (Nat.le_refl _) new
      have n1 : b ≠ e := fun z => hb (by simp [z])
      have n2 : b ≠ it := fun z => hb (by simp [z])
      exact (sb.2 b n1).trans (hk b o n1 n2 q)
    refine ⟨.ref s.heap.objs.size, _, I1, rfl, ⟨_, x, rfl, I.hok.fresh (Nat.le_refl _), rfl, hx⟩, ⟨⟨u, ?_⟩, ?_, hne, hg⟩, fun b hb => ?_⟩
    · have e1 : ((i + 1 : Nat) : Int) = (i : Int) + 1 := by omega
      rw [e1]; exact he'
    · exact fr (i + 1) h' h'' (h21 _ _ hst) fun o q => (sb.2 it (Ne.symm hne)).trans q
    · have hb' : b < s.heap.objs.size := by
        rcases List.mem_cons.mp hb with z | z
        · rw [z]; exact hel
        · rw [List.mem_singleton.mp z]; exact hil
      rw [upd_ne (Nat.ne_of_lt hb')]
      exact (hf b hb).1
  done := by
    intro X hP hw hK hc i pins s σ H Er I hf tn hgo
    obtain ⟨hg, hC⟩ : xs.length ≤ i ∧ C H := hgo
    obtain ⟨⟨old, he⟩, hs, hne, hl⟩ := tn
    have ei : i = xs.length := Nat.le_antisymm hl hg
    subst ei
    obtain ⟨fp, St2, Pv, Dw, h2, h21, hfp, hpv⟩ := dr X hP hw hK hc xs.length pins s σ H I hC (hf it (by simp)).1 hs
    subst hP hw hK
    obtain ⟨f0, f1, f2, f3, f4, f5⟩ := hf it (by simp)
    exact wpAny_pyNext_enum_endD Dw he h2 fun h' eb => ⟨rfl, I.turned (t' := s.toks) (fun b o hb q => eb b o hb q) f0 f1 f3 f4 f5⟩
  self := fun A i s Q E tn h => by
    obtain ⟨⟨_, he⟩, _⟩ := tn
    exact wpAny_pyIter_enum he h
end
end MD

set_option Elab.async false
set_option linter.all false
set_option maxRecDepth 100000
set_option maxHeartbeats 2000000
namespace MD
open PySem L2

theorem newT (t : Addr) (items : Array Value) : Meets (Builtin.«enumerate.__new__» ⟨[.type "enumerate", .ref t], []⟩) (fun _ R s => s.heap.IsTuple t items ∧ R (.ok (.ret (.ref (s.heap.push { cls := .type "tuple_iterator", data := .fields #[.ref t, .int 0 0] }).objs.size)))
        { s with heap := (s.heap.push { cls := .type "tuple_iterator", data := .fields #[.ref t, .int 0 0] }).push { cls := .type "enumerate", data := .fields #[.none, .bool false, .ref s.heap.objs.size, rawInt 0, .none, .none] } }) :=
  .of_wp fun prog w A R s h => by
    obtain ⟨hp, g, d, tk, os⟩ := s
    obtain ⟨hL, h⟩ := h
    obtain ⟨⟨c0, dct, dt, sl⟩, hl, hc, n, hd⟩ := id hL
    have hsub := sub_enumerate
    wp_walk using AutoSeq1.wpAny_loadPart' hl
    refine wpAny_stack_any fun st => wpAny_pure ?_
    split
    · rename_i c _ _ _ _ _
      cases (c == Value.type "enumerate")
      · wp_walk using AutoSeq1.wpAny_loadPart' hl, wpAny_pyIter_tuple hL
        exact ⟨_, rfl, h⟩
      · wp_walk using AutoSeq1.wpAny_loadPart' hl, wpAny_pyIter_tuple hL
        exact ⟨_, rfl, h⟩
    · wp_walk using AutoSeq1.wpAny_loadPart' hl, wpAny_pyIter_tuple hL
      exact ⟨_, rfl, h⟩
theorem call_enumT {prog : Program} {w : World} {A : Around} {E : Value → Shared → Prop} {s : Shared} {t : Addr} {items : Array Value} {Q : Value → Shared → Prop} (hL : s.heap.IsTuple t items)
    (h : ∀ h', IsEnum h' (s.heap.objs.size + 1) s.heap.objs.size 0 .none → h'.IsTupleIter s.heap.objs.size t 0 → (∀ b o, s.heap.get? b = some o → h'.get? b = some o) → Q (.ref (s.heap.objs.size + 1)) { s with heap := h' }) :
    wpAny (model prog w) A (call (.type "enumerate") [.ref t]) Q E s := by
  refine callType_new F.called_enumerate (by decide) (F.typeCall_enumerate_1 _) (F.newCall_enumerate_1 _) (fun obj => F.args_object_init_2 obj _) F.entry_enumerate_new (newT t items) ⟨hL, ?_⟩
  have hz : (s.heap.push { cls := .type "tuple_iterator", data := .fields #[.ref t, .int 0 0] }).objs.size = s.heap.objs.size + 1 := Heap.size_push ..
  show _ ∧ _
  rw [hz]
  have he : IsEnum ((s.heap.push { cls := .type "tuple_iterator", data := .fields #[.ref t, .int 0 0] }).push { cls := .type "enumerate", data := .fields #[.none, .bool false, .ref s.heap.objs.size, rawInt 0, .none, .none] }) (s.heap.objs.size + 1) s.heap.objs.size 0 .none := by
    have q := Heap.get?_push_size (s.heap.push { cls := .type "tuple_iterator", data := .fields #[.ref t, .int 0 0] }) (o := { cls := .type "enumerate", data := .fields #[.none, .bool false, .ref s.heap.objs.size, rawInt 0, .none, .none] }) rfl
    rw [hz] at q
    exact q
  exact ⟨⟨_, he, rfl⟩, h _ he ⟨_, Heap.get?_push_of_some _ (Heap.get?_push_size _ rfl), rfl, rfl⟩ fun b o x => Heap.get?_push_of_some _ (Heap.get?_push_of_some _ x)⟩

section
variable {K : Fg} {dk : Dk} {F F' H H' H0 F0 : Hp} {σ : L2.St} {env : Sg} {st : S}
theorem turn_enumS {P : Program} {w : World} {elts : List Expr} {kk : Nat} {tpos : Pos} (e it : Addr) (x : Str) (t : Tok) :
    Turn P w K (.Tuple elts kk tpos) (ItE (fun _ => True) ((signs x).map V.str)) [e, it] e (fun i h => (∃ old, IsEnum h e it ((i : Nat) : Int) old) ∧ h.IsStrIter it (strIterType x) x t i ∧ e ≠ it ∧ i ≤ ((signs x).map V.str).length) := by
  refine turnE _ _ e it (fun i h => h.IsStrIter it (strIterType x) x t i) (fun i h h' st k => ?_) (fun i h st => ?_) fun X hP hw hK hc i pins s σ H I _ _ hs => ?_
  · obtain ⟨o, ho, r⟩ := st
    exact ⟨o, k o ho, r⟩
  · obtain ⟨o, ho, c, d⟩ := st
    exact ⟨o, ho, fun v z => by rw [d] at z; cases z⟩
  · have hd : X.A.in1.handled = none := I.ok.hd hc
    have hl : ((signs x).map V.str).length = x.cps.size := by unfold signs; simp
    subst hP hw
    refine ⟨[it], _, _, hl ▸ Draws.text (prog := X.prog) (w := X.w) hd it x t, hs, fun _ _ z => z, fun b hb => .inl (List.mem_singleton.mp hb), fun j u hu => ?_⟩
    obtain ⟨c, u', h1, rfl⟩ := hu
    refine ⟨.str ⟨#[c]⟩, ?_, ⟨_, rfl⟩⟩
    unfold signs
    rw [List.map_map, List.getElem?_map]
    have : x.cps.toList[j]? = some c := by simpa using h1
    rw [this]
    rfl
theorem turn_enumT {P : Program} {w : World} {elts : List Expr} {kk : Nat} {tpos : Pos} (a e it : Addr) (xs : List V) :
    Turn P w K (.Tuple elts kk tpos) (ItE (fun H => SqT K H a xs) xs) [e, it] e (fun i h => (∃ old, IsEnum h e it ((i : Nat) : Int) old) ∧ h.IsTupleIter it a i ∧ e ≠ it ∧ i ≤ xs.length) := by
  refine turnE _ _ e it (fun i h => h.IsTupleIter it a i) (fun i h h' st k => ?_) (fun i h st => ?_) fun X hP hw hK hc i pins s σ H I hq hn hs => ?_
  · obtain ⟨o, ho, r⟩ := st
    exact ⟨o, k o ho, r⟩
  · obtain ⟨o, ho, c, d⟩ := st
    exact ⟨o, ho, fun v z => by rw [d] at z; cases z⟩
  · have hd : X.A.in1.handled = none := I.ok.hd hc
    subst hP hw hK
    obtain ⟨its, rv, pt, hz⟩ := I.tuple hq
    have hl : xs.length = its.toArray.size := by rw [List.size_toArray]; exact rv.length
    have hb : (∃ o, H a = some o) ∨ ∃ o, X.base.get? a = some o := by
      rcases hq with (h | ⟨o, h⟩) | ⟨o, _, _, h, _⟩
      · exact .inl ⟨_, h⟩
      · exact .inl ⟨_, h⟩
      · exact .inr ⟨_, I.mod.kin a o h⟩
    have hai : a ≠ it := fun z => by
      obtain ⟨o, ho, c, d⟩ := hs
      obtain ⟨o2, ho2, c2, _⟩ := id pt
      rw [z, ho] at ho2
      cases ho2
      rw [c] at c2
      exact absurd c2 (by decide)
    refine ⟨[it, a], _, _, hl ▸ Draws.tuple (prog := X.prog) (w := X.w) hd it a hai its.toArray, ⟨hs, pt⟩, fun _ _ z => z.1, fun b hbm => ?_, fun j u hu => ?_⟩
    · rcases List.mem_cons.mp hbm with z | z
      · exact .inl z
      · rw [List.mem_singleton.mp z]; exact .inr hb
    · have hu' : its[j]? = some u := by simpa using hu
      have hjl : j < xs.length := by
        rw [rv.length]
        by_cases hl : j < its.length
        · exact hl
        · rw [List.getElem?_eq_none (by omega)] at hu'; cases hu'
      obtain ⟨u2, h1, h2⟩ := rv.get (List.getElem?_eq_getElem hjl)
      rw [hu'] at h1
      cases h1
      exact ⟨_, List.getElem?_eq_getElem hjl, h2⟩
def iEnumA (K : Fg) (ta : TA) : TI := fun σ H R => ta σ H fun vs H1 => (∃ a xs, vs = [.ref a] ∧ SqL K H1 a xs ∧ R (Ite K a) H1) ∨ (∃ a xs, vs = [.ref a] ∧ SqT K H1 a xs ∧ R (ItE (fun H => SqT K H a xs) xs) H1) ∨
  ∃ y, vs = [.str y] ∧ R (ItE (fun _ => True) ((signs y).map V.str)) H1
theorem pi_enumA {X : Cx} {e : Expr} {ta : TA} {p pos tpos : Pos} {elts : List Expr} {kk : Nat} (hg : Gl X "enumerate") (hm : X.mg "enumerate" = none) (ha : PA X [e] ta) (hs : starEach [e] X.env = [(false, eval e X.env)] := by rfl) :
    PI X (.Tuple elts kk tpos) (.Call (.Name "enumerate" p) [e] [] pos) (iEnumA X.K ta) := by
  constructor
  intro pins s σ H R I h
  refine PyProof.Rows.Call_ (ld_blt I hg hm PyProof.Rows.boot_enumerate (PyProof.Rows.callWith_type1 (thn (ha.run pos pins s σ H _ I h) fun us s1 q0 => ?_) hs rfl))
  obtain ⟨vs, H1, I1, r1, q1⟩ := q0
  have fpo : ∀ b ∈ [s1.heap.objs.size + 1, s1.heap.objs.size], FpOk X pins H1 b := fun b hb => by
    have hle : s1.heap.objs.size ≤ b := by
      rcases List.mem_cons.mp hb with z | z
      · rw [z]; exact Nat.le_add_right _ _
      · rw [List.mem_singleton.mp z]; exact Nat.le_refl _
    exact I1.fpOk hle (I1.hok.fresh hle)
  rcases q1 with ⟨a, xs, rfl, hq, q⟩ | ⟨a, xs, rfl, hq, q⟩ | ⟨y, rfl, q⟩
  · obtain ⟨u, rfl, ru⟩ := vals1 r1
    cases ru
    obtain ⟨its, rv, pl, hz⟩ := I1.list hq
    refine call_enumerate_list pl.isList fun h' he hit hsz hk => wpAny_pyIter_enum he ?_
    exact ⟨_, _, _, _, H1, rfl, I1.kept (t' := s1.toks) hk, turn_enum a (s1.heap.objs.size + 1) s1.heap.objs.size, ⟨⟨.none, he⟩, hit, Nat.succ_ne_self _⟩, fpo, q⟩
  · obtain ⟨u, rfl, ru⟩ := vals1 r1
    cases ru
    obtain ⟨its, rv, pl, hz⟩ := I1.tuple hq
    refine call_enumT (show s1.heap.IsTuple a its.toArray from pl) fun h' he hit hk => wpAny_pyIter_enum he ?_
    exact ⟨_, _, _, _, H1, rfl, I1.kept (t' := s1.toks) hk, turn_enumT a (s1.heap.objs.size + 1) s1.heap.objs.size xs, ⟨⟨.none, he⟩, hit, Nat.succ_ne_self _, Nat.zero_le _⟩, fpo, q⟩
  · obtain ⟨u, rfl, ru⟩ := vals1 r1
    obtain ⟨t, rfl⟩ := ru
    refine call_enumerate_str fun h' he hit hsz hk => wpAny_pyIter_enum he ?_
    exact ⟨_, _, _, _, H1, rfl, I1.kept (t' := s1.toks) hk, turn_enumS (s1.heap.objs.size + 1) s1.heap.objs.size y t, ⟨⟨.none, he⟩, hit, Nat.succ_ne_self _, Nat.zero_le _⟩, fpo, q⟩
def enumI (f : ME) : MI := fun env st => (f env st).bind fun p => (seqOf p.1).map fun ds => (enumD ds, p.2)
theorem Rps.mapStr : ∀ (xs : List Str), Rps K dk F (xs.map V.str) (xs.map D.str) := Rps.ofStrs
theorem ii_enum {te : TE} {f : ME} (h : Im K te f) : ImI K (iEnumA K (tCons te tNil)) (enumI f) := fun dk H0 F0 F σ H env st ds st' g e R q => by
  obtain ⟨⟨d, s1⟩, h1, e⟩ := bnd e
  obtain ⟨es, h2, e⟩ := mpd e
  cases e
  refine h dk H0 F0 F σ H env st d s1 g h1 _ fun v F1 H1 x1 g1 r1 => ?_
  replace h2 : seqOf d = some es := h2
  cases d with
  | lst xs =>
    cases h2
    cases r1 with
    | lst a1 a2 => exact .inl ⟨_, _, rfl, SqL.of (g1.wd.sub _ _ a1), q _ F1 H1 x1 g1 (stdy_enumL a1 a2)⟩
  | tup xs =>
    cases h2
    cases r1 with
    | tup a1 a2 => exact .inr (.inl ⟨_, _, rfl, g1.wd.sub.sqT a1, q _ F1 H1 x1 g1 (stdy_enumE (fun H2 le => le.sqT a1) a2)⟩)
  | str x =>
    cases h2
    cases r1
    exact .inr (.inr ⟨_, rfl, q _ F1 H1 x1 g1 (stdy_enumE (fun _ _ => trivial) (Rps.ofStrs _))⟩)
  | _ => cases h2
end
end MD

set_option Elab.async false
set_option linter.all false
set_option maxRecDepth 100000
set_option maxHeartbeats 2000000
namespace MD
open PySem PySem.Spec PyProof.Rows L2

/-- a def keeps its promise wherever no repr is running -/
structure FnG (P : Program) (w : World) (K : Fg) (mg : Str → Option Value) (base : Heap) (k : Nat) (f : Addr) (fd : FuncData) (ps : List Str) (sp : Sp) : Prop where
  len : ∀ vs H Q E, sp vs H Q E → vs.length = ps.length
  run : ∀ (A : Around) (outer : List Env) (s : Shared) (H : Hp) (args : Args) (us : List Value) (vs : List V) (Q : VK) (E : XK), Room k A → A.guards = some [] → Env0 P w K mg base A outer s H → BindsTo s fd args (ps.zip us) → Vals vs us →
    sp vs H Q E → codeAny (model P w) A (.call (.ref f) args) (CR CX0 outer P w H s Q E) s

section
variable {X : Cx} {k : Nat} {f : Addr} {fd : FuncData} {ps : List Str} {sp : Sp} {x : Str} {p pos : Pos} {e : Expr} {es : List Expr} {t : TA}
theorem runG {pins : List (Addr × Obj)} {σ : L2.St} {H : Hp} {s : Shared} {Q : VK} {us : List Value} {vs : List V} (F : FnG X.prog X.w X.K X.mg X.base k f fd ps sp) (hr : Room k X.A) (gd : X.A.guards = some []) (hb : Binds X.K fd ps [])
    (I : L2.Inv X pins σ H s) (r : Vals vs us) (h : sp vs H Q E0) : wpAny (model X.prog X.w) X.A (call (.ref f) us) (EP X pins σ Q) X.xe s := by
  have hl : us.length = ps.length := r.length.symm.trans (F.len _ _ _ _ h)
  have bb := hb s us I.kIn (by rw [List.append_nil]; exact hl)
  rw [List.append_nil] at bb
  refine wpAny_call (codeAny_mono (F.run X.A X.stack s H ⟨us, []⟩ us vs Q E0 hr gd I.env0 bb r h) fun rr s' hq => ?_)
  cases rr with
  | error er => exact False.elim hq
  | ok fl =>
    cases fl with
    | ret u => exact I.after hq
    | next => exact False.elim hq
    | brk => exact False.elim hq
    | cont => exact False.elim hq
theorem pe_callG (F : FnG X.prog X.w X.K X.mg X.base k f fd ps sp) (hr : Room k X.A) (gd : X.A.guards = some []) (hg : Gl X x) (hm : X.mg x = some (.ref f)) (hk : PySem.W.keepIn X.K (.ref f) = true) (hb : Binds X.K fd ps [])
    (ha : PA X (e :: es) t) (hdb : (x == ("__debug__" : Str)) = false := by decide) (he : starEach (e :: es) X.env = (false, eval e X.env) :: starEach es X.env := by rfl) (hpl : (backTo pos (starEach es X.env)).any (·.1) = false := by rfl) :
    PE X (.Call (.Name x p) (e :: es) [] pos) (tCall sp [] E0 t) := by
  constructor
  intro pins s σ H Q I h
  refine wpAny_Call_Name_kw (ld_glob I hg hm ?_ hdb)
  refine PySem.W.callWith_K (h₀ := X.base) I.ok.mod.kin hk (thn (ha.run pos pins s σ H _ I h) fun us s1 q0 => ?_) he hpl
  obtain ⟨vs, H1, I1, r, q⟩ := q0
  rw [List.append_nil] at q
  exact ⟨I1.kIn, runG F hr gd hb I1 r q⟩
end

theorem guards_deeper {A : Around} (env : Env) (h : A.guards = some []) : (A.deeper env).guards = some [] := by
  first | exact h | (simp [Around.deeper, h]) 

/-- a def of the text by its body -/
theorem fnG_of {P : Program} {w : World} {K : Fg} {mg : Str → Option Value} {base : Heap} {x qual : Str} {st : Stmt} {f : Addr} {fd : FuncData} {N ps : List Str} {k : Nat} {sp : Sp} (Fn : Fun K x qual st f fd) (S : FnScope N ps (defScope st))
    (len : ∀ vs H Q E, sp vs H Q E → vs.length = ps.length)
    (hbody : ∀ (cdv : Value) (A : Around) (outer : List Env) (s : Shared) (H : Hp) (vs : List V) (Q : VK) (E : XK), Room k (A.deeper (envOfC qual (defScope st) s.heap.objs.size f cdv)) → (A.deeper (envOfC qual (defScope st) s.heap.objs.size f cdv)).guards = some [] → sp vs H Q E →
      ∃ t, PSs (cxOf CX0 P w K mg base N qual (defScope st) f cdv A outer s H E).nox (defBody st) t ∧ t { nx := fun _ H' => Q .non H', rt := Q } (L2.start N vs) H) : FnG P w K mg base (k + 1) f fd ps sp := by
  refine ⟨len, fun A outer s H args us vs Q E hr gd e0 hb r hsp => ?_⟩
  -- the promise, asked only where no repr is running
  let sp' : Sp := fun vs' H' Q' E' => sp vs' H' Q' E'
  obtain ⟨oc, od, kV, doc, pm, an, cdv, ct, osl, rfl, lk, hcd⟩ := Fn.ex
  have hl := len _ _ _ _ hsp
  have KX : K.In s.heap := e0.mod.kin.keeps fun b o e => (e0.bs b o e).1
  have lim : s.heap.NoLimit := e0.mod.nolimit.keeps fun b o e => (e0.bs b o e).1
  have hkind : ∀ y ∈ ps.zip us, (defScope st).names.lookup y.1 = some .local ∨ ((defScope st).names.lookup y.1 = some .cell ∧ ((cellsFrom (s.heap.objs.size + 1) (defScope st).names []).lookup y.1).isSome = true) := by
    rintro ⟨n, v⟩ hy
    rcases S.par n (List.of_mem_zip hy).1 with q | q
    · exact .inl q
    · exact .inr ⟨q, PySem.W.cellsFrom_some _ _ _ (.inl q)⟩
  refine codeAny_call_function hr.depth (KX _ _ lk) rfl S.co S.gen rfl (PySem.W.codeRec_of KX hcd) (hb _ _ _ _ ?_)
  refine wpAny_newFunctionEnv_cells S.kind hkind fun env he s1 y => ?_
  subst he
  refine ⟨lim.keeps y.toInCall.keep, codeAny_func ?_⟩
  obtain ⟨t, ht, hq⟩ := hbody cdv A outer s H vs Q E (hr.deeper _) (guards_deeper _ gd) hsp
  have I := inv_start (CX := CX0) (E := E) (qual := qual) (f := f) (cd := cdv) S hr.hd e0 hl r y
  refine wpAny_mono ((ht.nox).run [] s1 (L2.start N vs) H _ I hq) (fun fl s' hs => ?_) fun er s' hs => hs
  cases fl with
  | ret u =>
    obtain ⟨v, σ', H', J, rv, q⟩ := hs
    exact ⟨v, H', J.os, J.bare, J.base, J.hok, rv, q⟩
  | next =>
    obtain ⟨σ', H', J, q⟩ := hs
    exact ⟨V.non, H', J.os, J.bare, J.base, J.hok, rfl, q⟩
  | brk =>
    obtain ⟨_, _, _, q⟩ := hs
    exact False.elim q
  | cont =>
    obtain ⟨_, _, _, q⟩ := hs
    exact False.elim q

/-! ### promises by mirrors -/
abbrev MF := List D → S → Option (D × S)
/-- called with these data it gives what the mirror gives; n parameters -/
def spD (K : Fg) (n : Nat) (m : MF) : Sp := fun vs H Q _ => vs.length = n ∧ ∃ (dk : Dk) (F : Hp) (ds : List D) (st : S) (d : D) (st' : S), Wd dk F H st ∧ Rps K dk F vs ds ∧ m ds st = some (d, st') ∧
  ∀ v F' H', Ext dk F H F' H' → Wd dk F' H' st' → Rp K dk F' v d → Q v H'
def callM (m : MF) (a : MA) : ME := fun env st => (a env st).bind fun p => m p.1 p.2
section
variable {K : Fg}
theorem im_call {n : Nat} {m : MF} {ta : TA} {a : MA} {E : XK} (ha : ImA K ta a) (hn : ∀ env st p, a env st = some p → p.1.length = n) : Im K (tCall (spD K n m) [] E ta) (callM m a) := fun dk H0 F0 F σ H env st d st' g e Q q => by
  obtain ⟨⟨ds, s1⟩, h1, e⟩ := bnd e
  refine ha dk H0 F0 F σ H env st ds s1 g h1 _ fun vs F1 H1 x1 g1 r1 => ?_
  rw [List.append_nil]
  exact ⟨r1.length.trans (hn _ _ _ h1), dk, F1, ds, s1, d, st', g1.wd, r1, e, fun v F' H' x w r => q v F' H' (x1.trans x) (g1.step x w) r⟩
theorem an_nil : ∀ env st p, aNil env st = some p → p.1.length = 0 := fun env st p h => by cases h; rfl
theorem an_cons {f : ME} {r : MA} {n : Nat} (h : ∀ env st p, r env st = some p → p.1.length = n) : ∀ env st p, aCons f r env st = some p → p.1.length = n + 1 := fun env st p e => by
  obtain ⟨x, h1, e⟩ := bnd e
  obtain ⟨y, h2, e⟩ := mpd e
  cases e
  simp [h _ _ _ h2]
/-- a def's mirror, by its body's -/
def runM (N : Nat) (b : MS) : MF := fun ds st => (b (ds.map Sl.val ++ List.replicate (N - ds.length) Sl.un) st).bind fun p => match p.1 with
  | .rt d => some (d, p.2)
  | .nx _ => some (.non, p.2)
  | _ => none
theorem Rps.slots {dk : Dk} {F : Hp} : ∀ {vs : List V} {ds : List D} {i : Nat} {s : Sl}, Rps K dk F vs ds → (ds.map Sl.val)[i]? = some s → ∃ v d, vs[i]? = some v ∧ s = .val d ∧ Rp K dk F v d := fun {vs ds i s} r e => by
  rw [List.getElem?_map] at e
  obtain ⟨d, h1, h2⟩ := mpd e
  obtain ⟨v, h3, h4⟩ := r.get h1
  exact ⟨v, d, h3, h2.symm, h4⟩
theorem good_start {dk : Dk} {F H : Hp} {N : List Str} {vs : List V} {ds : List D} {st : S} (w : Wd dk F H st) (r : Rps K dk F vs ds) (hl : vs.length ≤ N.length) : Good K dk H F F (L2.start N vs) H (ds.map Sl.val ++ List.replicate (N.length - ds.length) Sl.un) st := by
  have hlen := r.length
  refine ⟨w, Ext.refl F H, ?_, fun i s e => ?_, fun i j es fs p hne e1 e2 e3 => ?_⟩
  · unfold L2.start
    simp
    omega
  · by_cases hi : i < ds.length
    · rw [List.getElem?_append_left (by simpa using hi)] at e
      obtain ⟨v, d, h1, rfl, h2⟩ := r.slots e
      refine ⟨v, ?_, h2⟩
      unfold L2.start
      rw [List.getElem?_append_left (by rw [List.length_map, hlen]; exact hi), List.getElem?_map, h1]
      rfl
    · rw [List.getElem?_append_right (by simpa using hi), List.getElem?_replicate] at e
      split at e
      · cases e; trivial
      · cases e
  · exfalso
    by_cases hi : i < ds.length
    · rw [List.getElem?_append_left (by simpa using hi)] at e1
      obtain ⟨v, d, _, h, _⟩ := r.slots e1
      cases h
    · rw [List.getElem?_append_right (by simpa using hi), List.getElem?_replicate] at e1
      split at e1 <;> cases e1
/-- THE RULE: a def by its body's term t and the mirror b of t -/
theorem fnD {P : Program} {w : World} {mg : Str → Option Value} {base : Heap} {x qual : Str} {st : Stmt} {f : Addr} {fd : FuncData} {N ps : List Str} {k : Nat} {b : MS} (Fn : Fun K x qual st f fd) (S : FnScope N ps (defScope st)) (hN : ps.length ≤ N.length)
    (hbody : ∀ (cdv : Value) (A : Around) (outer : List Env) (s : Shared) (H : Hp) (E : XK), Room k (A.deeper (envOfC qual (defScope st) s.heap.objs.size f cdv)) → (A.deeper (envOfC qual (defScope st) s.heap.objs.size f cdv)).guards = some [] →
      ∃ t, PSs (cxOf CX0 P w K mg base N qual (defScope st) f cdv A outer s H E).nox (defBody st) t ∧ ImS K t b) : FnG P w K mg base (k + 1) f fd ps (spD K ps.length (runM N.length b)) := by
  refine fnG_of Fn S (fun vs H Q E h => h.1) fun cdv A outer s H vs Q E hr gd h => ?_
  obtain ⟨hlv, dk, F, ds, s0, d, s1, wd, r, e, q⟩ := h
  obtain ⟨t, h1, h2⟩ := hbody cdv A outer s H E hr gd
  refine ⟨t, h1, ?_⟩
  obtain ⟨⟨fl, s2⟩, e1, e⟩ := bnd e
  refine h2 dk H F F (L2.start N vs) H _ s0 fl s2 (good_start wd r (by rw [hlv]; exact hN)) e1 _ ?_
  cases fl with
  | rt d' => cases e; exact fun v F' H' x w r => q v F' H' x w r
  | nx en => cases e; exact fun F' σ' H' le g => q .non F' H' g.ext g.wd .non
  | bk en => cases e
  | ct en => cases e
end
end MD

set_option Elab.async false
set_option linter.all false
set_option maxRecDepth 100000
set_option maxHeartbeats 2000000
namespace MD
open PySem PySem.Spec PyProof.Rows L2

/-! ### the deck -/
structure DC where
  m1 : Int
  c1 : Int
  c2 : Int
  m2 : Int
def atOf (st : S) : Nat := ((st.n + 1) % (st.cells.length : Int)).toNat
def cellOf (st : S) : Int := if st.cells = [] then 0 else st.cells.getD (atOf st) 0
def drawV (c : DC) (many : Int) (st : S) : Int :=
  if cellOf st ≥ 10 ^ 18 then cellOf st % many else ((cellOf st % c.m1 + c.c1 * (st.n + 1) + c.c2) ^ 5 % c.m2) % many
def drawT (many : Int) (st : S) : S :=
  if cellOf st ≥ 10 ^ 18 then ⟨st.cells.set (atOf st) (cellOf st / many), st.n + 1⟩ else ⟨st.cells, st.n + 1⟩
def nMax : Int := 1000000000000
def drawM (c : DC) : MF
  | [.deck, .int many], st => if 0 < many ∧ many < 1073741824 ∧ 0 ≤ st.n ∧ st.n < nMax then some (.int (drawV c many st), drawT many st) else none
  | _, _ => none
def DC.ok (c : DC) : Prop := 0 < c.m1 ∧ c.m1 < 2 ^ 32 ∧ 0 < c.m2 ∧ c.m2 < 2 ^ 32 ∧ 0 ≤ c.c1 ∧ c.c1 < 2 ^ 16 ∧ 0 ≤ c.c2 ∧ c.c2 < 2 ^ 16

/-! readings used by the draw -/
section
variable {K : Fg}
def rInt1 : List V → Hp → VK → Prop := fun xs H Q => (∃ i, xs = [.int i] ∧ Q (.int i) H) ∨ ∃ k, xs = [.bl k] ∧ Q (.int (if k then 1 else 0)) H
def rLen1 (K : Fg) : List V → Hp → VK → Prop := fun xs H Q => ∃ x n, xs = [x] ∧ LenV K x H n ∧ Q (.int n) H
abbrev tInt (t : TE) : TE := tCB rInt1 (tCons t tNil)
abbrev tLen (K : Fg) (t : TE) : TE := tCB (rLen1 K) (tCons t tNil)
abbrev tIx (K : Fg) (a b : TE) : TE := tOp (rIx K) a b
abbrev tI (i : Int) : TE := tC (.int i)
abbrev tDk1 (K : Fg) : TE := tIx K (tVar 0) (tI 1)
abbrev tDk0 (K : Fg) : TE := tIx K (tVar 0) (tI 0)
def tDraw1 (K : Fg) : TS := tAsg (tOp (rI0 fun i j => .int (i + j)) (tDk1 K) (tI 1)) (gSub (tVar 0) (tI 1) rSetL)
def tDraw2 (K : Fg) : TS := tAsg (tTup (tCons (tI 0) (tCons (tUn (rU fun i => .int (-i)) (tI 1)) tNil))) (gTup K 2 (gCons (gName 2) (gCons (gName 3) gNil)))
def tDraw3 (K : Fg) : TS := tIfS (tTest (tOp (rI0 fun i j => .bl (decide (j < i))) (tLen K (tDk0 K)) (tI 0)))
  (tSeq (tAsg (tOp (rI (fun _ j => 0 < j) fun i j => .int (i % j)) (tInt (tDk1 K)) (tLen K (tDk0 K))) (gName 3)) (tAsg (tIx K (tDk0 K) (tVar 3)) (gName 2))) tNext
def tDraw4 (K : Fg) : TS := tIfS (tTest (tOp (rI0 fun i j => .bl (decide (j ≤ i))) (tVar 2) (tOp (rI CPow fun i j => .int (i ^ j.toNat)) (tI 10) (tI 18))))
  (tSeq (tAsg (tOp (rI CDiv fun i j => .int (i / j)) (tInt (tVar 2)) (tVar 1)) (gSub (tDk0 K) (tVar 3) rSetL)) (tRet (tOp (rI (fun _ j => 0 < j) fun i j => .int (i % j)) (tInt (tVar 2)) (tVar 1)))) tNext
def tDraw5 (K : Fg) (c : DC) : TS := tAsg (tOp (rI0 fun i j => .int (i + j)) (tOp (rI0 fun i j => .int (i + j)) (tOp (rI (fun _ j => 0 < j) fun i j => .int (i % j)) (tInt (tVar 2)) (tI c.m1))
  (tOp (rI CMul fun i j => .int (i * j)) (tI c.c1) (tDk1 K))) (tI c.c2)) (gName 4)
def tDraw6 (K : Fg) (c : DC) : TS := tRet (tOp (rI (fun _ j => 0 < j) fun i j => .int (i % j)) (tInt (tOp (rI (fun _ j => 0 < j) fun i j => .int (i % j)) (tInt (tOp (rI CPow fun i j => .int (i ^ j.toNat)) (tVar 4) (tI 5))) (tI c.m2))) (tVar 1))
def tDraw (K : Fg) (c : DC) : TS := tSeq (tDraw1 K) (tSeq (tDraw2 K) (tSeq (tDraw3 K) (tSeq (tDraw4 K) (tSeq (tDraw5 K c) (tDraw6 K c)))))

theorem at0 {α : Type} {x y : α} : L2.atI [x, y] 0 = some x := rfl
theorem at1 {α : Type} {x y : α} : L2.atI [x, y] 1 = some y := rfl
/-- deck[1], deck[0] -/
theorem rd1 {H : Hp} {a c : Addr} {n : Int} {σ : L2.St} {Q : VK} (hs : σ[0]? = some (some (.ref a))) (h : H a = some (.lst [.ref c, .int n])) (q : Q (.int n) H) : tDk1 K σ H Q :=
  ⟨_, hs, .inl ⟨a, _, 1, _, rfl, rfl, SqL.of h, at1, q⟩⟩
theorem rd0 {H : Hp} {a c : Addr} {n : Int} {σ : L2.St} {Q : VK} (hs : σ[0]? = some (some (.ref a))) (h : H a = some (.lst [.ref c, .int n])) (q : Q (.ref c) H) : tDk0 K σ H Q :=
  ⟨_, hs, .inl ⟨a, _, 0, _, rfl, rfl, SqL.of h, at0, q⟩⟩

theorem draw_ok {dk : Dk} {F H : Hp} {st : S} {c : DC} {many : Int} (hc : c.ok) (w : Wd dk F H st) (h1 : 0 < many) (h2 : many < 1073741824) (h3 : 0 ≤ st.n) (h4 : st.n < nMax) {E : Ends}
    (q : ∀ F' H', Ext dk F H F' H' → Wd dk F' H' (drawT many st) → E.rt (.int (drawV c many st)) H') : tDraw K c E [some (.ref dk.1), some (.int many), none, none, none] H := by
  obtain ⟨k1, k2, k3, k4, k5, k6, k7, k8⟩ := hc
  -- deck[1] = deck[1] + 1
  refine rd1 rfl w.d1 ⟨st.n, 1, rfl, rfl, _, rfl, dk.1, _, 1, 1, rfl, rfl, w.d1, rfl, ?_⟩
  have hH1 : upd H dk.1 (.lst ([V.ref dk.2, V.int st.n].set 1 (V.int (st.n + 1)))) = upd H dk.1 (.lst [.ref dk.2, .int (st.n + 1)]) := rfl
  rw [hH1]
  have a1 : ∀ (H' : Hp), H' = upd H dk.1 (.lst [.ref dk.2, .int (st.n + 1)]) → H' dk.1 = some (.lst [.ref dk.2, .int (st.n + 1)]) ∧ H' dk.2 = some (.lst (st.cells.map V.int)) := by
    rintro H' rfl
    exact ⟨upd_same, by rw [upd_ne w.ne.symm]; exact w.d2⟩
  generalize hHH : upd H dk.1 (.lst [.ref dk.2, .int (st.n + 1)]) = H1
  obtain ⟨b1, b2⟩ := a1 H1 hHH.symm
  -- cell, at = 0, -1
  refine ⟨1, rfl, by show 2 ≤ sizeLine; decide, fun p hp => ⟨p, _, rfl, SqT.of upd_same, rfl, _, _, rfl, _, _, rfl, rfl, ?_⟩⟩
  have p1 : p ≠ dk.1 := (ne_of_none b1 hp).symm
  have p2 : p ≠ dk.2 := (ne_of_none b2 hp).symm
  generalize hHp : upd H1 p (.tup [.int 0, .int (-1)]) = H2
  have c1 : H2 dk.1 = some (.lst [.ref dk.2, .int (st.n + 1)]) := by rw [← hHp, upd_ne p1.symm]; exact b1
  have c2 : H2 dk.2 = some (.lst (st.cells.map V.int)) := by rw [← hHp, upd_ne p2.symm]; exact b2
  have hp0 : H p = none := by
    rw [← hHH, upd_ne p1] at hp; exact hp
  have keep : ∀ a o, H a = some o → a ≠ dk.1 → a ≠ dk.2 → H2 a = some o := fun a o e n1 n2 => by
    rw [← hHp, upd_ne (ne_of_none e hp0), ← hHH, upd_ne n1]; exact e
  have keepF : Le F H2 := fun a o e => keep a o (w.sub a o e) (fun z => by rw [z, w.f1] at e; cases e) (fun z => by rw [z, w.f2] at e; cases e)
  have keepM : ∀ a, H a ≠ none → H2 a ≠ none := fun a e z => by
    by_cases n1 : a = dk.1
    · rw [n1, c1] at z; cases z
    · by_cases n2 : a = dk.2
      · rw [n2, c2] at z; cases z
      · cases q : H a with
        | none => exact e q
        | some o => rw [keep a o q n1 n2] at z; cases z
  have ext2 : Ext dk F H F H2 := ⟨keep, Le.refl F, fun _ h _ => h, keepM⟩
  have wd2 : Wd dk F H2 ⟨st.cells, st.n + 1⟩ := ⟨keepF, c1, c2, w.f1, w.f2, w.ne⟩
  -- the cell
  have mid : ∀ (E' : Ends), (∀ v3, (st.cells ≠ [] → v3 = ((atOf st : Nat) : Int) ∧ atOf st < st.cells.length) → E'.nx [some (.ref dk.1), some (.int many), some (.int (cellOf st)), some (.int v3), none] H2) →
      tDraw3 K E' [some (.ref dk.1), some (.int many), some (.int 0), some (.int (-1)), none] H2 := by
    intro E' hE
    refine rd0 rfl c1 ⟨_, _, rfl, .inl ⟨_, SqL.of c2, rfl⟩, _, 0, rfl, rfl, _, rfl, ?_⟩
    by_cases hl : st.cells = []
    · dsimp only
      rw [if_neg (by simp [hl])]
      have e0 : cellOf st = 0 := by unfold cellOf; rw [if_pos hl]
      have := hE (-1) fun z => absurd hl z
      rw [e0] at this
      exact this
    · have hlen : 0 < st.cells.length := List.length_pos_iff.mpr hl
      dsimp only
      rw [if_pos (by simp; exact hlen)]
      refine rd1 rfl c1 (.inl ⟨_, rfl, rd0 rfl c1 ⟨_, _, rfl, .inl ⟨_, SqL.of c2, rfl⟩, _, _, rfl, rfl, by simp; exact hlen, ?_⟩⟩)
      have hm0 : 0 ≤ (st.n + 1) % (st.cells.length : Int) := Int.emod_nonneg _ (by omega)
      have hm1 : (st.n + 1) % (st.cells.length : Int) < st.cells.length := Int.emod_lt_of_pos _ (by omega)
      have hat : ((atOf st : Nat) : Int) = (st.n + 1) % (st.cells.length : Int) := by unfold atOf; omega
      have hal : atOf st < st.cells.length := by omega
      show tAsg (tIx K (tDk0 K) (tVar 3)) (gName 2) E' [some (.ref dk.1), some (.int many), some (.int 0), some (.int ((st.n + 1) % ((st.cells.map V.int).length : Int))), none] H2
      rw [List.length_map, ← hat]
      have hg : L2.atI (st.cells.map V.int) ((atOf st : Nat) : Int) = some (.int (st.cells.getD (atOf st) 0)) := by
        refine atI_nat ?_
        rw [List.getElem?_map, List.getElem?_eq_getElem hal, List.getD_eq_getElem?_getD, List.getElem?_eq_getElem hal]
        rfl
      refine rd0 rfl c1 ⟨_, rfl, .inl ⟨_, _, _, _, rfl, rfl, SqL.of c2, hg, ?_⟩⟩
      have e0 : cellOf st = st.cells.getD (atOf st) 0 := by unfold cellOf; rw [if_neg hl]
      have := hE ((atOf st : Nat) : Int) fun _ => ⟨rfl, hal⟩
      rw [e0] at this
      exact this
  refine mid _ fun v3 hv3 => ?_
  -- a great cell
  refine ⟨_, rfl, 10, 18, rfl, rfl, ⟨by decide, by decide, by decide⟩, _, _, rfl, rfl, _, rfl, ?_⟩
  by_cases hbig : cellOf st ≥ 10 ^ 18
  · have hne : st.cells ≠ [] := fun z => by
      have e0 : cellOf st = 0 := by unfold cellOf; rw [if_pos z]
      rw [e0] at hbig
      revert hbig; decide
    obtain ⟨e3, hal⟩ := hv3 hne
    dsimp only
    rw [if_pos (by simpa using hbig)]
    refine ⟨_, rfl, .inl ⟨_, rfl, _, rfl, _, _, rfl, rfl, ⟨h1, h2⟩, ?_⟩⟩
    refine rd0 rfl c1 ⟨_, rfl, dk.2, _, v3, atOf st, rfl, rfl, c2, ?_, ?_⟩
    · rw [e3]
      unfold ixN
      rw [if_pos (by omega), if_pos (by rw [List.length_map]; omega)]
      simp
    · refine ⟨_, rfl, .inl ⟨_, rfl, _, rfl, _, _, rfl, rfl, h1, ?_⟩⟩
      have ev : drawV c many st = cellOf st % many := by unfold drawV; rw [if_pos hbig]
      have et : drawT many st = ⟨st.cells.set (atOf st) (cellOf st / many), st.n + 1⟩ := by unfold drawT; rw [if_pos hbig]
      have es : (st.cells.map V.int).set (atOf st) (.int (cellOf st / many)) = (st.cells.set (atOf st) (cellOf st / many)).map V.int := by rw [List.map_set]
      rw [es]
      have fin := q F (upd H2 dk.2 (.lst ((st.cells.set (atOf st) (cellOf st / many)).map V.int))) ⟨fun a o e n1 n2 => by rw [upd_ne n2]; exact keep a o e n1 n2, Le.refl F, fun _ h _ => h, fun a e z => by
        by_cases n2 : a = dk.2
        · rw [n2, upd_same] at z; cases z
        · rw [upd_ne n2] at z; exact keepM a e z⟩ (by
          rw [et]
          exact ⟨fun a o e => by rw [upd_ne (fun z => by rw [z, w.f2] at e; cases e)]; exact keepF a o e, by rw [upd_ne w.ne]; exact c1, upd_same, w.f1, w.f2, w.ne⟩)
      rw [ev] at fin
      exact fin
  · dsimp only
    rw [if_neg (by simpa using hbig)]
    have hmix : 0 ≤ cellOf st % c.m1 ∧ cellOf st % c.m1 < c.m1 := ⟨Int.emod_nonneg _ (by omega), Int.emod_lt_of_pos _ k1⟩
    refine ⟨_, rfl, .inl ⟨_, rfl, _, _, rfl, rfl, k1, ?_⟩⟩
    refine rd1 rfl c1 ⟨_, _, rfl, rfl, .inl ⟨by omega, by omega⟩, _, _, rfl, rfl, _, _, rfl, rfl, ?_⟩
    have hb : c.c1 * (st.n + 1) ≤ 65536 * 1000000000001 := by
      unfold nMax at h4
      have x1 : c.c1 * (st.n + 1) ≤ 65536 * (st.n + 1) := Int.mul_le_mul_of_nonneg_right (by omega) (by omega)
      omega
    have hb0 : 0 ≤ c.c1 * (st.n + 1) := Int.mul_nonneg k5 (by omega)
    refine ⟨_, rfl, _, _, rfl, rfl, ⟨by decide, by decide, ?_⟩, .inl ⟨_, rfl, _, _, rfl, rfl, k3, .inl ⟨_, rfl, _, rfl, _, _, rfl, rfl, h1, ?_⟩⟩⟩
    · omega
    · have ev : drawV c many st = ((cellOf st % c.m1 + c.c1 * (st.n + 1) + c.c2) ^ 5 % c.m2) % many := by unfold drawV; rw [if_neg hbig]
      have et : drawT many st = ⟨st.cells, st.n + 1⟩ := by unfold drawT; rw [if_neg hbig]
      have fin := q F H2 ext2 (by rw [et]; exact wd2)
      rw [ev] at fin
      exact fin
end
end MD

set_option Elab.async false
set_option linter.all false
set_option maxRecDepth 100000
set_option maxHeartbeats 2000000
namespace MD
open PySem PySem.Spec PyProof.Rows L2

section
variable {K : Fg} {P : Program} {w : World} {mg : Str → Option Value} {base : Heap}
theorem fn_draw {x qual : Str} {st : Stmt} {f : Addr} {fd : FuncData} {N ps : List Str} {k : Nat} {c : DC} (hc : c.ok) (Fn : Fun K x qual st f fd) (S : FnScope N ps (defScope st)) (hN : N.length = 5) (hp : ps.length = 2)
    (hbody : ∀ (cdv : Value) (A : Around) (outer : List Env) (s : Shared) (H : Hp) (E : XK), PSs (cxOf CX0 P w K mg base N qual (defScope st) f cdv A outer s H E).nox (defBody st) (tDraw K c)) : FnG P w K mg base (k + 1) f fd ps (spD K 2 (drawM c)) := by
  refine fnG_of Fn S (fun vs H Q E h => by rw [hp]; exact h.1) fun cdv A outer s H vs Q E hr gd h => ⟨_, hbody cdv A outer s H E, ?_⟩
  obtain ⟨hlv, dk, F, ds, s0, d, s1, wd, r, e, q⟩ := h
  unfold drawM at e
  split at e
  · split at e
    · rename_i hcnd
      cases e
      cases r with
      | cons a b => cases b with
        | cons b c' =>
          cases c'
          cases a
          cases b
          have es : ∀ i : Int, L2.start N [V.ref dk.1, V.int i] = [some (.ref dk.1), some (.int i), none, none, none] := fun i => by
            unfold L2.start
            rw [hN]
            rfl
          rw [es _]
          exact draw_ok hc wd hcnd.1 hcnd.2.1 hcnd.2.2.1 hcnd.2.2.2 fun F' H' x w => q _ F' H' x w (.int _)
    · cases e
  · cases e

/-! ### the deck is made -/
def absI (i : Int) : Int := if i < 0 then -i else i
def spDeck (K : Fg) : Sp := fun vs H Q _ => ∃ (a : Addr) (ns : List Int), vs = [.ref a] ∧ SqL K H a (ns.map V.int) ∧ ns.length ≤ 63 ∧
  ∀ (dk : Dk) (H' : Hp), Le H H' → Wd dk (fun _ => none) H' ⟨ns.map absI, 0⟩ → Q (.ref dk.1) H'
def rAbs1 : List V → Hp → VK → Prop := fun xs H Q => ∃ i, xs = [.int i] ∧ Q (.int (if i < 0 then -i else i)) H
def tDeck (K : Fg) : TS := tRet (tLst (tCons (tLc (iList K (tSl (rSlL K) (tVar 0) tNoPart (tPart (tI 63)))) (gName 1) tYes (tCB rAbs1 (tCons (tVar 1) tNil)) [1]) (tCons (tI 0) tNil)))
theorem deck_ok {H : Hp} {a : Addr} {ns : List Int} {E : Ends} (hs : SqL K H a (ns.map V.int)) (hl : ns.length ≤ 63) (q : ∀ (dk : Dk) (H' : Hp), Le H H' → Wd dk (fun _ => none) H' ⟨ns.map absI, 0⟩ → E.rt (.ref dk.1) H') :
    tDeck K E [some (.ref a), none] H := by
  refine ⟨_, rfl, _, rfl, a, _, rfl, hs, fun p hp => ?_⟩
  have ec : cutV (ns.map V.int) none (some 63) = ns.map V.int := by
    unfold cutV
    have e1 : HT.sIx (ns.map V.int).length 0 none = 0 := rfl
    have e2 : HT.sIx (ns.map V.int).length (ns.map V.int).length (some 63) = ns.length := by
      rw [List.length_map]
      have := HT.sIx_nat ns.length ns.length 63
      rw [show ((63 : Nat) : Int) = 63 from rfl] at this
      rw [this]; omega
    rw [e1, e2, List.drop_zero, Nat.sub_zero]
    exact List.take_of_length_le (by rw [List.length_map]; exact Nat.le_refl _)
  rw [ec]
  refine ⟨p, rfl, ⟨_, SqL.of upd_same⟩, fun c hc => ?_⟩
  have ncp : c ≠ p := fun z => by rw [z, upd_same] at hc; cases hc
  have hcH : H c = none := by rw [upd_ne ncp] at hc; exact hc
  refine lc_list (xs := ns.map V.int) (fun i H' => Le H H' ∧ H' p = some (.lst (ns.map V.int)) ∧ H' c = some (.lst (((ns.take i).map absI).map V.int))) ⟨(Le.new hp).trans (Le.new hc), by rw [upd_ne ncp.symm, upd_same], upd_same⟩ (fun i H' _ h => SqL.of h.2.1) (fun i v H' hv h => ?_) fun H' h => ?_
  · obtain ⟨h1, h2, h3⟩ := h
    rw [List.getElem?_map] at hv
    obtain ⟨n, hn, rfl⟩ := mpd hv
    have hil : i < ns.length := by
      by_cases hi : i < ns.length
      · exact hi
      · rw [List.getElem?_eq_none (by omega)] at hn; cases hn
    refine ⟨rfl, ?_⟩
    show tCB rAbs1 (tCons (tVar 1) tNil) _ H' _
    refine ⟨_, rfl, n, rfl, _, h3, ?_, fun b o e => ?_, ?_, ?_⟩
    · rw [List.length_map, List.length_map, List.length_take]
      exact Nat.lt_of_le_of_lt (Nat.min_le_right _ _) (small1000 (by omega))
    · rw [upd_ne (ne_of_none e hcH)]; exact h1 b o e
    · rw [upd_ne ncp.symm]; exact h2
    · rw [upd_same, List.take_add_one, hn]
      simp [absI]
  · obtain ⟨h1, h2, h3⟩ := h
    rw [List.length_map, List.take_length] at h3
    refine ⟨by show 2 ≤ sizeLine; decide, fun d hd => ?_⟩
    have ndc : d ≠ c := fun z => by rw [z, h3] at hd; cases hd
    have fin := q (d, c) (upd H' d (.lst [.ref c, .int 0])) (h1.trans (Le.new hd)) ⟨fun _ _ z => (nomatch z), upd_same, (upd_ne (a := d) ndc.symm).trans h3, rfl, rfl, ndc⟩
    exact fin
theorem fn_deck {x qual : Str} {st : Stmt} {f : Addr} {fd : FuncData} {N ps : List Str} {k : Nat} (Fn : Fun K x qual st f fd) (S : FnScope N ps (defScope st)) (hN : N.length = 2) (hp : ps.length = 1)
    (hbody : ∀ (cdv : Value) (A : Around) (outer : List Env) (s : Shared) (H : Hp) (E : XK), PSs (cxOf CX0 P w K mg base N qual (defScope st) f cdv A outer s H E).nox (defBody st) (tDeck K)) : FnG P w K mg base (k + 1) f fd ps (spDeck K) := by
  refine fnG_of Fn S (fun vs H Q E h => ?_) fun cdv A outer s H vs Q E hr gd h => ⟨_, hbody cdv A outer s H E, ?_⟩
  · obtain ⟨a, ns, rfl, _⟩ := h
    rw [hp]; rfl
  · obtain ⟨a, ns, rfl, hs, hl, q⟩ := h
    have es : L2.start N [V.ref a] = [some (.ref a), none] := by
      unfold L2.start
      rw [hN]
      rfl
    rw [es]
    exact deck_ok hs hl fun dk H' le wd => q dk H' le wd

/-! ### the law -/
def spLaw (K : Fg) : Sp := fun vs H Q _ => ∃ (a : Addr) (ns : List Int), vs = [.ref a] ∧ SqL K H a (ns.map V.int) ∧ ns.length ≤ 63 ∧ ∀ H', Q (.bl true) H'
/-- the slots behind the law's first statement: the script, the deck, all else -/
def env0 (n : Nat) : Sg := .un :: .val .deck :: List.replicate (n - 2) .un
theorem fn_law {x qual : Str} {st : Stmt} {f : Addr} {fd : FuncData} {N ps : List Str} {k : Nat} {b : MS} (Fn : Fun K x qual st f fd) (S : FnScope N ps (defScope st)) (hN : 2 ≤ N.length) (hp : ps.length = 1)
    (hb : ∀ ns : List Int, ns.length ≤ 63 → ∃ s1, b (env0 N.length) ⟨ns.map absI, 0⟩ = some (.rt (.bl true), s1))
    (hbody : ∀ (cdv : Value) (A : Around) (outer : List Env) (s : Shared) (H : Hp) (E : XK), Room k (A.deeper (envOfC qual (defScope st) s.heap.objs.size f cdv)) → (A.deeper (envOfC qual (defScope st) s.heap.objs.size f cdv)).guards = some [] →
      ∃ t, PSs (cxOf CX0 P w K mg base N qual (defScope st) f cdv A outer s H E).nox (defBody st) (tSeq (tAsg (tCall (spDeck K) [] E0 (tCons (tVar 0) tNil)) (gName 1)) t) ∧ ImS K t b) : FnG P w K mg base (k + 1) f fd ps (spLaw K) := by
  refine fnG_of Fn S (fun vs H Q E h => ?_) fun cdv A outer s H vs Q E hr gd h => ?_
  · obtain ⟨a, ns, rfl, _⟩ := h
    rw [hp]; rfl
  · obtain ⟨a, ns, rfl, hs, hl, q⟩ := h
    obtain ⟨t, h1, h2⟩ := hbody cdv A outer s H E hr gd
    refine ⟨_, h1, ?_⟩
    obtain ⟨m, hm⟩ : ∃ m, N.length = m + 2 := ⟨N.length - 2, by omega⟩
    have es : L2.start N [V.ref a] = some (.ref a) :: none :: List.replicate m none := by
      unfold L2.start
      rw [hm]
      rfl
    rw [es]
    refine ⟨_, rfl, a, ns, rfl, hs, hl, fun dk H' le wd => ?_⟩
    obtain ⟨s1, hr1⟩ := hb ns hl
    have g : Good K dk H' (fun _ => none) (fun _ => none) (some (.ref a) :: some (.ref dk.1) :: List.replicate m none) H' (env0 N.length) ⟨ns.map absI, 0⟩ := by
      refine ⟨wd, Ext.refl _ _, by unfold env0; rw [hm]; simp, fun i s e => ?_, fun i j ds es p hne e1 e2 e3 => ?_⟩
      · unfold env0 at e
        match i with
        | 0 => cases e; trivial
        | 1 => cases e; exact ⟨_, rfl, .deck⟩
        | i + 2 =>
          have e' : (List.replicate (N.length - 2) Sl.un)[i]? = some s := e
          rw [List.getElem?_replicate] at e'
          split at e'
          · cases e'; trivial
          · cases e'
      · exfalso
        unfold env0 at e1
        match i with
        | 0 => cases e1
        | 1 => cases e1
        | i + 2 =>
          have e' : (List.replicate (N.length - 2) Sl.un)[i]? = some (.own ds) := e1
          rw [List.getElem?_replicate] at e'
          split at e' <;> cases e'
    refine h2 dk H' _ _ _ H' _ _ _ s1 g hr1 _ ?_
    intro v F' H2 _ _ r
    cases r
    exact q H2
end
end MD

set_option Elab.async false
set_option linter.all false
set_option maxRecDepth 100000
set_option maxHeartbeats 2000000
namespace MD
open PySem PySem.Spec PyProof.Rows L2

/-- the law's own call, from a heap in which nothing is tracked but the script -/
theorem law_core {P : Program} {w : World} {K : Fg} {mg mb : Str → Option Value} {k : Nat} {fa a : Addr} {fd : FuncData} {x : Str} {sp : Sp} {s1 : Shared} {vs : List Value} (KX : K.In s1.heap) (hns : s1.heap.Ns mainGlobals mg) (hb : s1.heap.Ns builtinsNs mb)
    (hbb : ∀ y : Str, y ≠ "__name__" → mb y = bootBuiltins y) (hlim : s1.heap.NoLimit) (hg : s1.gens = #[]) (ha : s1.heap.get? a = some { cls := .type "list", data := .seq vs.toArray }) (hr : Room k callerA)
    (Fn : ∀ base : Heap, K.In base → base.Ns mainGlobals mg → FnG P w K mg base k fa fd [x] sp) (hbind : ∀ (s : Shared) (u : Value), BindsTo s fd ⟨[u], []⟩ [(x, u)])
    (H : Hp) (hO : Only H) (hok : HOk P w H s1.heap) (hA : ∀ b, H b ≠ none → b = a) (hK : H a ≠ none → K.lookup a = none) (hsp : sp [.ref a] H (fun v _ => v = .bl true) E0) :
    codeAny (model P w) callerA (.call (.ref fa) ⟨[.ref a], []⟩) (fun r s' => r = .ok (.ret (.bool true)) ∧ OldK s1.heap s'.heap ∧ s'.os = s1.os ∧ AllBare s'.gens) s1 := by
  have only : ∀ {b : Addr} {o : Obj} {es : Array DictEntry} {ep : Nat}, s1.heap.get? b = some o → o.data = .dict es ep → H b = none := by
    intro b o es ep e d
    by_cases hz : H b = none
    · exact hz
    · have hba := hA b hz
      rw [hba, ha] at e
      have e' := (Option.some.inj e).symm
      rw [e'] at d
      exact absurd d (fun z => Data.noConfusion z)
  have low : ∀ {b : Addr} {m : Str → Option Value}, s1.heap.Ns b m → (hidT s1.heap H).Ns b m := by
    intro b m hm
    obtain ⟨o, es, ep, e, d, r⟩ := hm
    exact ⟨o, es, ep, hidT_get e (only e d), d, r⟩
  have kin : K.In (hidT s1.heap H) := by
    intro b o e
    refine hidT_get (KX b o e) ?_
    by_cases hz : H b = none
    · exact hz
    · have hba := hA b hz
      rw [hba] at hz e
      rw [hK hz] at e
      cases e
  obtain ⟨mc, l1, l2⟩ := hlim
  have md : Mod K mg (hidT s1.heap H) := ⟨kin, low hns, ⟨mb, low hb, hbb⟩, ⟨mc, low l1, l2⟩⟩
  have en : Env0 P w K mg (hidT s1.heap H) callerA [] s1 H := by
    refine ⟨rfl, md, fun b o e => of_hidT e, Nat.le_of_eq (hidT_size _ _), trivial, fun b z => ?_, hok, .of_eq hg⟩
    exact absurd (show b ∈ ([] : List Addr) from z) (by simp)
  refine codeAny_mono ((Fn _ kin (low hns)).run callerA [] s1 H ⟨[.ref a], []⟩ [.ref a] [.ref a] _ _ hr rfl en (hbind s1 (.ref a)) (.cons rfl .nil) hsp) fun r s' h => ?_
  rcases r with er | fl
  · exact False.elim h
  · cases fl with
    | ret u =>
      obtain ⟨v, H', os, bare, un, hok', r', q⟩ := h
      replace q : v = .bl true := q
      rw [q] at r'
      have hu : u = Value.bool true := r'
      rw [hu]
      refine ⟨rfl, OldK.of_keep fun b o e => ?_, os, bare⟩
      by_cases hz : H b = none
      · exact un.keep b o e hz (fun z => absurd (show b ∈ ([] : List Addr) from z) (by simp)) (by simp)
      · rcases hO b with z | ⟨ob, xs, z⟩
        · exact absurd z hz
        · have k1 := (hok b _ z).1
          have k2 := (hok' b _ (un.frzs b ob _ z)).1
          rw [e] at k1
          rw [k2, k1]
    | next => exact False.elim h
    | brk => exact False.elim h
    | cont => exact False.elim h
theorem law_callG {P : Program} {w : World} {K : Fg} {mg mb : Str → Option Value} {k : Nat} {fa a : Addr} {fd : FuncData} {x : Str} {sp : Sp} {s1 : Shared} {vs : List Value} {ns : List Int} (KX : K.In s1.heap) (hns : s1.heap.Ns mainGlobals mg) (hb : s1.heap.Ns builtinsNs mb)
    (hbb : ∀ y : Str, y ≠ "__name__" → mb y = bootBuiltins y) (hlim : s1.heap.NoLimit) (hg : s1.gens = #[]) (ha : s1.heap.get? a = some { cls := .type "list", data := .seq vs.toArray }) (hi : IntsAre vs ns) (hl : ns.length ≤ sizeLine) (hr : Room k callerA)
    (Fn : ∀ base : Heap, K.In base → base.Ns mainGlobals mg → FnG P w K mg base k fa fd [x] sp) (hbind : ∀ (s : Shared) (u : Value), BindsTo s fd ⟨[u], []⟩ [(x, u)])
    (hsp : ∀ H : Hp, SqL K H a (ns.map V.int) → sp [.ref a] H (fun v _ => v = .bl true) E0) :
    codeAny (model P w) callerA (.call (.ref fa) ⟨[.ref a], []⟩) (fun r s' => r = .ok (.ret (.bool true)) ∧ OldK s1.heap s'.heap ∧ s'.os = s1.os ∧ AllBare s'.gens) s1 := by
  have rv := vals_ints hi
  have lenV := hi.length
  by_cases hk : K.lookup a = none
  · let H : Hp := fun b => if b = a then some (.frz { cls := .type "list", data := .seq vs.toArray } (.lst (ns.map V.int))) else none
    have atA : H a = some (.frz { cls := .type "list", data := .seq vs.toArray } (.lst (ns.map V.int))) := if_pos rfl
    have off : ∀ b, b ≠ a → H b = none := fun b z => if_neg z
    refine law_core KX hns hb hbb hlim hg ha hr Fn hbind H (fun b => ?_) (fun b u z => ?_) (fun b z => ?_) (fun _ => hk) (hsp H (.inl (.inr ⟨_, atA⟩)))
    · by_cases e : b = a
      · rw [e]; exact .inr ⟨_, _, atA⟩
      · exact .inl (off b e)
    · by_cases e : b = a
      · rw [e, atA] at z
        cases z
        rw [e]
        exact ⟨ha, by rw [List.length_map]; exact hl, vs, _, rv, ha⟩
      · rw [off b e] at z; cases z
    · by_cases e : b = a
      · exact e
      · exact absurd (off b e) z
  · obtain ⟨o, ho⟩ : ∃ o, K.lookup a = some o := Option.ne_none_iff_exists'.mp hk
    have e := KX a o ho
    rw [ha] at e
    have eo : o = { cls := .type "list", data := .seq vs.toArray } := (Option.some.inj e).symm
    subst eo
    refine law_core KX hns hb hbb hlim hg ha hr Fn hbind (fun _ => none) (fun _ => .inl rfl) (fun b u z => nomatch (show (none : Option HO) = some u from z)) (fun b z => absurd rfl z) (fun z => absurd rfl z) (hsp _ ?_)
    exact .inr ⟨_, vs.toArray, _, ho, rfl, rfl, rfl, by rw [List.size_toArray, lenV]; exact hl, by simpa using rv⟩
/-- what k_head leaves, from the law's promise -/
theorem walkG {l : PySem.W.OpenLaw} {n k : Nat} {q : Program} {loose : List Str} {XP : (Str → Option Value) → Heap → Prop} {YP : World → Heap → Prop} {d : DefRec} {K : Params → Fg} {x : Str} (hn : l.most = some n) (hn2 : n ≤ 63) (hdf : d.params.defaults = []) (hr : Room k callerA)
    (hY : ∀ (w : World) (h : Heap), YP w h → (K w.params).In h)
    (Fn : ∀ (w : World) (mg : Str → Option Value) (fa : Addr) (h : Heap), (K w.params).In h → h.Ns mainGlobals mg → mg d.name = some (.ref fa) →
      ∃ fd : FuncData, (∀ (s : Shared) (u : Value), BindsTo s fd ⟨[u], []⟩ [(x, u)]) ∧ ∀ base : Heap, (K w.params).In base → base.Ns mainGlobals mg → FnG l.prog w (K w.params) mg base k fa fd [x] (spLaw (K w.params))) :
    PySem.W.WalkO q loose XP YP l.row.toRowW d [] (fun f vs => PySem.call f vs) := by
  refine Att.attach_call hn hdf fun w s₀ s₁ mg mb fa o pm cd doc a vs ns G Y ho hd hcd hmg hobj hints hlen hg => ?_
  have KX := hY w _ Y
  obtain ⟨fd, hb, hF⟩ := Fn w mg fa _ KX G.T.g hmg
  have small : ns.length ≤ sizeLine := Nat.le_trans (Nat.le_trans hlen hn2) (by decide)
  exact law_callG KX G.T.g G.T.b G.T.builtins G.T.nolimit hg hobj hints small hr hF hb fun H hS => ⟨a, ns, rfl, hS, Nat.le_trans hlen hn2, fun _ => rfl⟩
end MD

set_option Elab.async false
set_option linter.all false
set_option maxRecDepth 100000
set_option maxHeartbeats 2000000
namespace MD
open PySem PySem.Spec PyProof.Rows L2

section
variable {K : Fg} {dk : Dk} {F F' H H' H0 F0 : Hp} {X : Cx}
/-! rules of several kinds in one -/
def rAddA (K : Fg) : R2 := fun x y H Q => rI0 (fun i j => .int (i + j)) x y H Q ∨ (∃ i j, x = .str i ∧ y = .str j ∧ i.length + j.length ≤ sizeLine ∧ Q (.str (i ++ j)) H) ∨ rCatA K x y H Q ∨ rCat x y H Q
theorem op_addA : OpR X (binaryOp .Add) (rAddA X.K) := OpR.or op_add (OpR.or op_add_str (OpR.or op_catA op_cat))
def addM : D → D → Option D
  | .int i, .int j => some (.int (i + j))
  | .str i, .str j => if i.length + j.length ≤ sizeLine then some (.str (i ++ j)) else none
  | .tup i, .tup j => if i.length + j.length ≤ sizeLine then some (.tup (i ++ j)) else none
  | .lst i, .lst j => if i.length + j.length ≤ sizeLine then some (.lst (i ++ j)) else none
  | _, _ => none
theorem ro_addA : RO K (rAddA K) addM := by
  intro dk F H st x y d e z w rx ry hz Q q
  unfold addM at hz
  split at hz
  · exact .inl (ro_I0 (fun i j => rc_int (i + j)) dk F H st x y _ _ z w rx ry hz Q q)
  · exact .inr (.inl (ro_strCat dk F H st x y _ _ z w rx ry hz Q q))
  · exact .inr (.inr (.inl (ro_tupCat dk F H st x y _ _ z w rx ry hz Q q)))
  · refine .inr (.inr (.inr (rof_lstCat.ro dk F H st x y _ _ z w rx ry ?_ Q q)))
    unfold lstCat
    split at hz
    · rename_i hc
      simp only [hc, if_true]; exact hz
    · cases hz
  · cases hz
abbrev subM : D → D → Option D := iI fun i j => .int (i - j)
abbrev mulM : D → D → Option D := iIC CMul fun i j => .int (i * j)
abbrev fdivM : D → D → Option D := iIC CDiv fun i j => .int (i / j)
abbrev modM : D → D → Option D := iIC (fun _ j => 0 < j) fun i j => .int (i % j)
abbrev powM : D → D → Option D := iIC CPow fun i j => .int (i ^ j.toNat)
abbrev ltM : D → D → Option D := iI fun i j => .bl (decide (i < j))
abbrev leM : D → D → Option D := iI fun i j => .bl (decide (i ≤ j))
abbrev gtM : D → D → Option D := iI fun i j => .bl (decide (j < i))
abbrev geM : D → D → Option D := iI fun i j => .bl (decide (j ≤ i))
theorem ro_sub : RO K (rI0 fun i j => .int (i - j)) subM := ro_I0 fun i j => rc_int _
theorem ro_mul : RO K (rI CMul fun i j => .int (i * j)) mulM := ro_I fun i j => rc_int _
theorem ro_fdiv : RO K (rI CDiv fun i j => .int (i / j)) fdivM := ro_I fun i j => rc_int _
theorem ro_mod : RO K (rI (fun _ j => 0 < j) fun i j => .int (i % j)) modM := ro_I fun i j => rc_int _
theorem ro_pow : RO K (rI CPow fun i j => .int (i ^ j.toNat)) powM := ro_I fun i j => rc_int _
theorem ro_lt : RO K (rI0 fun i j => .bl (decide (i < j))) ltM := ro_I0 fun i j => rc_bl _
theorem ro_le : RO K (rI0 fun i j => .bl (decide (i ≤ j))) leM := ro_I0 fun i j => rc_bl _
theorem ro_gt : RO K (rI0 fun i j => .bl (decide (j < i))) gtM := ro_I0 fun i j => rc_bl _
theorem ro_ge : RO K (rI0 fun i j => .bl (decide (j ≤ i))) geM := ro_I0 fun i j => rc_bl _
theorem ro_ipAdd : RO K (ipI fun i j => i + j) (iI fun i j => .int (i + j)) := ro_I0 fun i j => rc_int _
theorem ro_ipSub : RO K (ipI fun i j => i - j) (iI fun i j => .int (i - j)) := ro_I0 fun i j => rc_int _
/-! in -/
def rInA (K : Fg) : R2 := fun x y H Q => (∃ (c : Nat) (z : Str), x = .str ⟨#[c]⟩ ∧ y = .str z ∧ Q (.bl (decide (c ∈ z.cps.toList))) H) ∨ rIn K false x y H Q
def rNotInA (K : Fg) : R2 := fun x y H Q => (∃ (c : Nat) (z : Str), x = .str ⟨#[c]⟩ ∧ y = .str z ∧ Q (.bl (!decide (c ∈ z.cps.toList))) H) ∨ rIn K true x y H Q
theorem op_inA : OpR X (compareOp .In) (rInA X.K) := OpR.or op_in_sign op_in_seq
theorem op_notInA : OpR X (compareOp .NotIn) (rNotInA X.K) := OpR.or op_notIn_sign op_notIn_seq
def inM (d e : D) : Option D := match e with
  | .str _ => inSign d e
  | _ => inSeq false d e
def notInM (d e : D) : Option D := match e with
  | .str _ => notInSign d e
  | _ => inSeq true d e
theorem ro_in : RO K (rInA K) inM := by
  intro dk F H st x y d e z w rx ry hz Q q
  unfold inM at hz
  split at hz
  · exact .inl (ro_inSign dk F H st x y _ _ z w rx ry hz Q q)
  · exact .inr (ro_inSeq false dk F H st x y _ _ z w rx ry hz Q q)
theorem ro_notIn : RO K (rNotInA K) notInM := by
  intro dk F H st x y d e z w rx ry hz Q q
  unfold notInM at hz
  split at hz
  · exact .inl (ro_notInSign dk F H st x y _ _ z w rx ry hz Q q)
  · exact .inr (ro_inSeq true dk F H st x y _ _ z w rx ry hz Q q)
/-! tuple(..) of a list, a tuple, a text -/
def rTupA (K : Fg) : List V → Hp → VK → Prop := fun xs H Q => (∃ p ys, xs = [.ref p] ∧ ((SqL K H p ys ∧ ∀ l, H l = none → Q (.ref l) (upd H l (.tup ys))) ∨ (SqT K H p ys ∧ Q (.ref p) H))) ∨
  ∃ x, xs = [.str x] ∧ x.cps.size ≤ sizeLine ∧ ∀ p, H p = none → Q (.ref p) (upd H p (.tup ((signs x).map V.str)))
theorem call_tupA (hc : X.calm = true) : CallR X (.type "tuple") (rTupA X.K) := CallR.or call_tuple_of (call_tupStr hc)
def tupleM : List D → Option D
  | [.lst ds] => some (.tup ds)
  | [.tup ds] => some (.tup ds)
  | [.str x] => if x.cps.size ≤ sizeLine then some (.tup ((signs x).map D.str)) else none
  | _ => none
theorem rc_tupA : RC K (rTupA K) tupleM := by
  intro dk F H st vs ds z w rx hz Q q
  unfold tupleM at hz
  split at hz
  · exact .inl (rc_tupOf dk F H st vs _ z w rx hz Q q)
  · exact .inl (rc_tupOf dk F H st vs _ z w rx hz Q q)
  · exact .inr (rc_tupStr dk F H st vs _ z w rx hz Q q)
  · cases hz
/-! module constants -/
theorem pe_gstr {x : Str} {s : Str} {pos : Pos} (hg : Gl X x) (hm : ∃ t, X.mg x = some (.str s t)) (hd : (x == ("__debug__" : Str)) = false := by decide) : PE X (.Name x pos) (tC (.str s)) := by
  obtain ⟨t, h⟩ := hm
  exact pe_glob hg h ⟨t, rfl⟩ hd
theorem pe_gint {x : Str} {i : Int} {pos : Pos} (hg : Gl X x) (hm : ∃ t, X.mg x = some (.int i t)) (hd : (x == ("__debug__" : Str)) = false := by decide) : PE X (.Name x pos) (tC (.int i)) := by
  obtain ⟨t, h⟩ := hm
  exact pe_glob hg h ⟨t, rfl⟩ hd
end
/-! a def that is known to its callers -/
def Cal (P : Program) (w : World) (K : Fg) (mg : Str → Option Value) (base : Heap) (k : Nat) (x : Str) (ps : List Str) (sp : Sp) : Prop :=
  ∃ f fd, FnG P w K mg base k f fd ps sp ∧ mg x = some (.ref f) ∧ PySem.W.keepIn K (.ref f) = true ∧ Binds K fd ps []
section
variable {X : Cx} {k j : Nat} {ps : List Str} {sp : Sp} {x : Str} {p pos : Pos} {e : Expr} {es : List Expr} {t : TA}
theorem pe_callC (C : Cal X.prog X.w X.K X.mg X.base j x ps sp) (hr : Room k X.A) (gd : X.A.guards = some []) (hg : Gl X x) (ha : PA X (e :: es) t) (hj : j ≤ k := by decide) (hdb : (x == ("__debug__" : Str)) = false := by decide)
    (he : starEach (e :: es) X.env = (false, eval e X.env) :: starEach es X.env := by rfl) (hpl : (backTo pos (starEach es X.env)).any (·.1) = false := by rfl) : PE X (.Call (.Name x p) (e :: es) [] pos) (tCall sp [] E0 t) := by
  obtain ⟨f, fd, F, hm, hk, hb⟩ := C
  exact pe_callG F (hr.mono hj) gd hg hm hk hb ha hdb he hpl
end
end MD

set_option Elab.async false
set_option linter.all false
set_option maxRecDepth 100000
set_option maxHeartbeats 1000000
namespace MD
open PySem L2

/-! ### dicts that a name alone holds, with ints and texts as keys -/
def keyOf : D → Option Key
  | .int i => some (.inl i)
  | .str x => some (.inr x)
  | _ => none
def keyD : Key → D
  | .inl i => .int i
  | .inr x => .str x
section
variable {K : Fg} {dk : Dk} {F F' H H' H0 F0 : Hp} {σ : L2.St} {env : Sg} {st : S}
theorem keyOf_rw {v : V} {d : D} {k : Key} (r : Rw K dk F H v d) (h : keyOf d = some k) : v = kV k := by
  cases d with
  | int i => cases h; exact r.int
  | str x => cases h; exact r.str
  | _ => cases h
theorem keyD_rp (k : Key) : Rp K dk F (kV k) (keyD k) := by
  cases k with
  | inl i => exact .int i
  | inr x => exact .str x
def getK {α : Type} : List Key → List α → Key → Option α
  | k' :: ks, x :: xs, k => if k' = k then some x else getK ks xs k
  | _, _, _ => none
theorem getK_val : ∀ {vs : List V} {ds : List D} (ks : List Key) (k : Key), Rps K dk F vs ds → ks.length = vs.length →
    (∀ d, getK ks ds k = some d → ∃ v, valV (ks.zip vs) k = some v ∧ Rp K dk F v d) ∧ (getK ks ds k = none → valV (ks.zip vs) k = none)
  | _, _, [], k, .nil, _ => ⟨fun d h => (by cases h), fun _ => rfl⟩
  | _, _, [], k, .cons a r, h => by simp at h
  | _, _, k' :: ks, k, .nil, h => by simp at h
  | v :: vs, d :: ds, k' :: ks, k, .cons a r, h => by
    obtain ⟨i1, i2⟩ := getK_val ks k r (by simpa using h)
    rw [List.zip_cons_cons]
    unfold getK
    by_cases e : k' = k
    · rw [if_pos e, valV_pos (p := (k', v)) e]
      exact ⟨fun d' h => (by cases h; exact ⟨v, rfl, a⟩), fun h => (by cases h)⟩
    · rw [if_neg e, valV_neg (p := (k', v)) e]
      exact ⟨i1, i2⟩
def hasK (ks : List Key) (k : Key) : Bool := ks.any fun k' => decide (k' = k)
def putKs (ks : List Key) (k : Key) : List Key := if hasK ks k = true then ks else ks ++ [k]
def putVs {α : Type} (ks : List Key) (xs : List α) (k : Key) (x : α) : List α := if hasK ks k = true then List.zipWith (fun k' x' => if k' = k then x else x') ks xs else xs ++ [x]
theorem put_len {α : Type} {ks : List Key} {xs : List α} {k : Key} {x : α} (h : ks.length = xs.length) : (putKs ks k).length = (putVs ks xs k x).length := by
  unfold putKs putVs
  by_cases e : hasK ks k = true
  · rw [if_pos e, if_pos e, List.length_zipWith, h, Nat.min_self]
  · rw [if_neg e, if_neg e, List.length_append, List.length_append, h]; rfl
theorem any_zip {vs : List V} (k : Key) : ∀ (ks : List Key) (vs : List V), ks.length = vs.length → ((ks.zip vs).any fun kv => decide (kv.1 = k)) = hasK ks k
  | [], [], _ => rfl
  | k' :: ks, v :: vs, h => by
    rw [List.zip_cons_cons, List.any_cons, any_zip (vs := vs) k ks vs (by simpa using h)]
    rfl
theorem map_zip (k : Key) (v : V) : ∀ (ks : List Key) (vs : List V), (ks.zip vs).map (fun kv => if kv.1 = k then (kv.1, v) else kv) = ks.zip (List.zipWith (fun k' x' => if k' = k then v else x') ks vs)
  | [], _ => rfl
  | _ :: _, [] => rfl
  | k' :: ks, u :: vs => by
    rw [List.zip_cons_cons, List.map_cons, map_zip k v ks vs, List.zipWith_cons_cons, List.zip_cons_cons]
    by_cases e : k' = k
    · simp [e]
    · simp [e]
theorem put_zip {ks : List Key} {vs : List V} {k : Key} {v : V} (h : ks.length = vs.length) : putK (ks.zip vs) k v = (putKs ks k).zip (putVs ks vs k v) := by
  unfold putK putKs putVs
  rw [any_zip (vs := vs) k ks vs h]
  by_cases e : hasK ks k = true
  · rw [if_pos e, if_pos e, if_pos e, map_zip]
  · rw [if_neg e, if_neg e, if_neg e, List.zip_append h]; rfl
theorem put_rps {k : Key} {v : V} {d : D} (r : Rp K dk F v d) : ∀ {vs : List V} {ds : List D} (ks : List Key), Rps K dk F vs ds → Rps K dk F (List.zipWith (fun k' x' => if k' = k then v else x') ks vs) (List.zipWith (fun k' x' => if k' = k then d else x') ks ds)
  | _, _, [], _ => .nil
  | _, _, _ :: _, .nil => .nil
  | _, _, k' :: ks, .cons a b => by
    rw [List.zipWith_cons_cons, List.zipWith_cons_cons]
    refine .cons ?_ (put_rps r ks b)
    by_cases e : k' = k
    · rw [if_pos e, if_pos e]; exact r
    · rw [if_neg e, if_neg e]; exact a
theorem putVs_rps {k : Key} {v : V} {d : D} {vs : List V} {ds : List D} {ks : List Key} (r : Rp K dk F v d) (rs : Rps K dk F vs ds) : Rps K dk F (putVs ks vs k v) (putVs ks ds k d) := by
  unfold putVs
  by_cases e : hasK ks k = true
  · rw [if_pos e, if_pos e]; exact put_rps r ks rs
  · rw [if_neg e, if_neg e]; exact rs.append (Rps.one r)
def dicOf : Sl → Option (List Key × List D)
  | .own (.dic ks, ds) => some (ks, ds)
  | .own (.lck ks, ds) => some (ks, ds)
  | _ => none
theorem Good.dic {i : Nat} {s : Sl} {q : List Key × List D} (g : Good K dk H0 F0 F σ H env st) (he : env[i]? = some s) (hd : dicOf s = some q) : ∃ p vs, σ[i]? = some (some (.ref p)) ∧ Rd H p (.dK (q.1.zip vs)) ∧ q.1.length = vs.length ∧ p ≠ dk.1 ∧ p ≠ dk.2 ∧ Rps K dk F vs q.2 ∧
    ∀ {F' H'}, Ext dk F H F' H' → Rd H' p (.dK (q.1.zip vs)) := by
  unfold dicOf at hd
  split at hd
  · cases hd
    obtain ⟨p, vs, h1, ⟨h2, h2'⟩, h3, h4, h5, h6, h7⟩ := g.sl i _ he
    exact ⟨p, vs, join_eq h1, .inl h2, h2', h5, h6, h7, fun x => .inl (x.h _ _ h2 h5 h6)⟩
  · cases hd
    obtain ⟨p, vs, h1, ⟨⟨od, h2⟩, h2'⟩, h3, h4, h5, h6, h7⟩ := g.sl i _ he
    exact ⟨p, vs, join_eq h1, .inr ⟨od, h2⟩, h2', h5, h6, h7, fun x => .inr ⟨od, x.h _ _ h2 h5 h6⟩⟩
  · cases hd
/-! d[k], d.get(k) -/
def dgetM (i : Nat) (f : ME) : ME := fun env st => (env[i]?.bind dicOf).bind fun q => (f env st).bind fun p => (keyOf p.1).bind fun k => (getK q.1 q.2 k).map fun d => (d, p.2)
theorem im_dget {ty : TE} {f : ME} (i : Nat) (h : ImW K ty f) : Im K (tDGet (tVar i) ty) (dgetM i f) := fun dk H0 F0 F σ H env st d st' g e Q q => by
  obtain ⟨⟨ks, ds⟩, e0, e⟩ := bnd e
  obtain ⟨s, he, hd⟩ := bnd e0
  obtain ⟨⟨y, s1⟩, e1, e⟩ := bnd e
  obtain ⟨k, e2, e⟩ := bnd e
  obtain ⟨d', e3, e⟩ := mpd e
  cases e
  obtain ⟨p, vs, hs, hr, hl, n1, n2, r, hx⟩ := g.dic he hd
  refine ⟨.ref p, hs, h dk H0 F0 F σ H env st y _ g e1 _ fun v F1 H1 x1 g1 r1 => ?_⟩
  obtain ⟨u, hu, ru⟩ := (getK_val ks k (r.mono x1.f) hl).1 _ e3
  exact ⟨p, u, rfl, .inl ⟨_, k, hx x1, keyOf_rw r1 e2, hu.symm⟩, q u F1 H1 x1 g1 ru⟩
def dget1M (i : Nat) (f : ME) : ME := fun env st => (env[i]?.bind dicOf).bind fun q => (f env st).bind fun p => (keyOf p.1).map fun k => ((getK q.1 q.2 k).getD .non, p.2)
theorem im_dget1 {ty : TE} {f : ME} (i : Nat) (h : ImW K ty f) : Im K (tDGet1 (tVar i) ty) (dget1M i f) := fun dk H0 F0 F σ H env st d st' g e Q q => by
  obtain ⟨⟨ks, ds⟩, e0, e⟩ := bnd e
  obtain ⟨s, he, hd⟩ := bnd e0
  obtain ⟨⟨y, s1⟩, e1, e⟩ := bnd e
  obtain ⟨k, e2, e⟩ := mpd e
  cases e
  obtain ⟨p, vs, hs, hr, hl, n1, n2, r, hx⟩ := g.dic he hd
  refine ⟨.ref p, hs, p, rfl, .inl ⟨_, hr⟩, h dk H0 F0 F σ H env st y _ g e1 _ fun v F1 H1 x1 g1 r1 => ?_⟩
  obtain ⟨i1, i2⟩ := getK_val ks k (r.mono x1.f) hl
  refine ⟨valV (ks.zip vs) k, .inl ⟨_, k, hx x1, keyOf_rw r1 e2, rfl⟩, ?_⟩
  dsimp only at q ⊢
  cases hk : getK ks ds k with
  | none =>
    rw [i2 hk]
    rw [hk] at q
    exact q .non F1 H1 x1 g1 .non
  | some d =>
    obtain ⟨u, hu, ru⟩ := i1 d hk
    rw [hu]
    rw [hk] at q
    exact q u F1 H1 x1 g1 ru
def dinM (i : Nat) (f : ME) : ME := fun env st => (env[i]?.bind dicOf).bind fun q => (f env st).bind fun p => (keyOf p.1).map fun k => (.bl (getK q.1 q.2 k).isSome, p.2)
/-! d[k] = v -/
def dputM (i : Nat) (fk fv : ME) : MS := fun env st => match env[i]? with
  | some (.own (.dic ks, ds)) => (fv env st).bind fun p => (fk env p.2).bind fun q => (keyOf q.1).bind fun k => if ds.length < sizeLine then some (.nx (env.set i (.own (.dic (putKs ks k), putVs ks ds k p.1))), q.2) else none
  | _ => none
theorem is_dput {ty tv : TE} {fk fv : ME} (i : Nat) (hk : ImW K ty fk) (hv : Im K tv fv) : ImS K (sDPut (tVar i) ty tv) (dputM i fk fv) := fun dk H0 F0 F σ H env st fl st' g e E hd => by
  unfold dputM at e
  split at e
  · rename_i ks ds he
    obtain ⟨⟨d, s1⟩, e1, e⟩ := bnd e
    obtain ⟨⟨y, s2⟩, e2, e⟩ := bnd e
    obtain ⟨k, e3, e⟩ := bnd e
    split at e
    · rename_i hz
      cases e
      obtain ⟨p, vs, h1, ⟨h2, h2'⟩, h3, h4, h5, h6, h7⟩ := g.sl i _ he
      refine hv dk H0 F0 F σ H env st d s1 g e1 _ fun v F1 H1 x1 g1 r1 => ?_
      refine ⟨.ref p, join_eq h1, hk dk H0 F0 F1 σ H1 env s1 y s2 g1 e2 _ fun u F2 H2 x2 g2 r2 => ?_⟩
      have x12 := x1.trans x2
      have hl := h7.length
      refine ⟨p, _, rfl, .inl ⟨ks.zip vs, k, x12.h _ _ h2 h5 h6, keyOf_rw r2 e3, ?_, rfl⟩, ?_⟩
      · rw [List.length_zip, h2', Nat.min_self, hl]; exact hz
      · refine hd F2 σ _ x12.f (g2.mut (ds' := (.dic (putKs ks k), putVs ks ds k d)) (vs' := putVs ks vs k v) he (join_eq h1) ⟨?_, put_len h2'⟩ (putVs_rps (r1.mono x2.f) (h7.mono x12.f)))
        rw [upd_same, put_zip h2']
    · cases e
  · cases e
/-! {k: v, ..} -/
def mrgL {α : Type} : List Key → List α → List (Key × α) → List Key × List α
  | ks, xs, [] => (ks, xs)
  | ks, xs, (k, x) :: r => mrgL (putKs ks k) (putVs ks xs k x) r
theorem mrg_zip : ∀ (kvs : List (Key × V)) (ks : List Key) (vs : List V), ks.length = vs.length → mergeK (ks.zip vs) kvs = (mrgL ks vs kvs).1.zip (mrgL ks vs kvs).2 ∧ (mrgL ks vs kvs).1.length = (mrgL ks vs kvs).2.length
  | [], ks, vs, h => ⟨rfl, h⟩
  | (k, v) :: r, ks, vs, h => by
    have ih := mrg_zip r (putKs ks k) (putVs ks vs k v) (put_len h)
    rw [← put_zip h] at ih
    exact ih
inductive Rpk (K : Fg) (dk : Dk) (F : Hp) : List (Key × V) → List (Key × D) → Prop
  | nil : Rpk K dk F [] []
  | cons {k : Key} {v : V} {d : D} {kvs : List (Key × V)} {kds : List (Key × D)} : Rp K dk F v d → Rpk K dk F kvs kds → Rpk K dk F ((k, v) :: kvs) ((k, d) :: kds)
theorem Rpk.mono (le : Le F F') : ∀ {kvs : List (Key × V)} {kds : List (Key × D)}, Rpk K dk F kvs kds → Rpk K dk F' kvs kds
  | _, _, .nil => .nil
  | _, _, .cons a b => .cons (a.mono le) (Rpk.mono le b)
theorem Rpk.length : ∀ {kvs : List (Key × V)} {kds : List (Key × D)}, Rpk K dk F kvs kds → kvs.length = kds.length
  | _, _, .nil => rfl
  | _, _, .cons a b => by simp [Rpk.length b]
theorem mrg_rps : ∀ {kvs : List (Key × V)} {kds : List (Key × D)} (ks : List Key) {vs : List V} {ds : List D}, Rpk K dk F kvs kds → Rps K dk F vs ds → (mrgL ks vs kvs).1 = (mrgL ks ds kds).1 ∧ Rps K dk F (mrgL ks vs kvs).2 (mrgL ks ds kds).2
  | _, _, ks, _, _, .nil, r => ⟨rfl, r⟩
  | _, _, ks, _, _, .cons a b, r => mrg_rps (putKs ks _) b (putVs_rps a r)
abbrev MP := Sg → S → Option (List (Key × D) × S)
def ImP (K : Fg) (trs : List (TE × TE)) (f : MP) : Prop := ∀ (dk : Dk) (H0 F0 F : Hp) (σ : L2.St) (H : Hp) (env : Sg) (st : S) (kds : List (Key × D)) (st' : S), Good K dk H0 F0 F σ H env st → f env st = some (kds, st') →
  ∀ Q : List (V × V) → Hp → Prop, (∀ kvs F' H', Ext dk F H F' H' → Good K dk H0 F0 F' σ H' env st' → Rpk K dk F' kvs kds → Q (kvs.map fun kv => (kV kv.1, kv.2)) H') → tPairs trs σ H Q
def pNil : MP := fun _ st => some ([], st)
theorem ip_nil : ImP K [] pNil := fun dk H0 F0 F σ H env st kds st' g e Q q => by
  cases e
  exact q [] F H (Ext.refl F H) g .nil
def pCons (fk fv : ME) (r : MP) : MP := fun env st => (fk env st).bind fun p => (keyOf p.1).bind fun k => (fv env p.2).bind fun q => (r env q.2).map fun z => ((k, q.1) :: z.1, z.2)
theorem ip_cons {tk tv : TE} {trs : List (TE × TE)} {fk fv : ME} {r : MP} (hk : Im K tk fk) (hv : Im K tv fv) (hr : ImP K trs r) : ImP K ((tk, tv) :: trs) (pCons fk fv r) := fun dk H0 F0 F σ H env st kds st' g e Q q => by
  obtain ⟨⟨y, s1⟩, e1, e⟩ := bnd e
  obtain ⟨k, e2, e⟩ := bnd e
  obtain ⟨⟨d, s2⟩, e3, e⟩ := bnd e
  obtain ⟨⟨kds', s3⟩, e4, e⟩ := mpd e
  cases e
  refine hk dk H0 F0 F σ H env st y s1 g e1 _ fun v F1 H1 x1 g1 r1 => ?_
  refine hv dk H0 F0 F1 σ H1 env s1 d s2 g1 e3 _ fun u F2 H2 x2 g2 r2 => ?_
  refine hr dk H0 F0 F2 σ H2 env s2 kds' _ g2 e4 _ fun kvs F3 H3 x3 g3 r3 => ?_
  have := q ((k, u) :: kvs) F3 H3 (x1.trans (x2.trans x3)) g3 (.cons (r2.mono x3.f) r3)
  rw [List.map_cons] at this
  have hv : v = kV k := keyOf_rw (H := H1) (.inl r1) e2
  rw [hv]
  exact this
def dispM (i : Nat) (f : MP) : MS := fun env st => (f env st).bind fun p => if p.1.length ≤ 15 then some (.nx (env.set i (.own (.dic (mrgL [] [] p.1).1, (mrgL [] [] p.1).2))), p.2) else none
theorem is_disp {trs : List (TE × TE)} {f : MP} (i : Nat) (h : ImP K trs f) : ImS K (tAsg (tDisp trs) (gName i)) (dispM i f) := fun dk H0 F0 F σ H env st fl st' g e E hd => by
  obtain ⟨⟨kds, s1⟩, e1, e⟩ := bnd e
  dsimp only at e
  split at e
  · rename_i hz
    cases e
    intro p hp
    have nd := g.nedk hp
    have px : Px F H F (upd H p (.dK [])) := Px.lay g.wd.sub hp
    have fp : F p = none := g.wd.sub.free hp
    refine h dk H0 F0 F σ _ env st kds _ (g.px px) e1 _ fun kvs F1 H1 x1 g1 r1 => ?_
    have h1 : H1 p = some (.dK []) := x1.h _ _ upd_same nd.1 nd.2
    have f1 : F1 p = none := x1.n _ fp (by rw [upd_same]; exact fun z => nomatch z)
    have no := g.noown hp
    refine ⟨h1, kvs, rfl, by rw [r1.length]; exact hz, ?_⟩
    have g2 : Good K dk H0 F0 F1 σ (upd H1 p (.dK (mergeK [] kvs))) env st' := g1.mutT h1 f1 (g.fresh0 hp) nd.1 nd.2 no
    obtain ⟨z1, z2⟩ := mrg_zip kvs [] [] rfl
    obtain ⟨y1, y2⟩ := mrg_rps (K := K) (dk := dk) (F := F1) [] r1 Rps.nil
    exact hd F1 _ _ x1.f (g2.setO (ds := (.dic (mrgL [] [] kds).1, (mrgL [] [] kds).2)) ⟨by rw [upd_same, ← y1]; exact congrArg (fun z => some (HO.dK z)) z1, by rw [← y1]; exact z2⟩ f1 (g.fresh0 hp) nd.1 nd.2 no y2)
  · cases e
/-- {} -/
def dnewM (i : Nat) : MS := fun env st => some (.nx (env.set i (.own (.dic [], []))), st)
theorem is_dnew (i : Nat) : ImS K (tAsg tDNewK (gName i)) (dnewM i) := fun dk H0 F0 F σ H env st fl st' g e E hd => by
  cases e
  intro p hp
  have nd := g.nedk hp
  have px : Px F H F (upd H p (.dK [])) := Px.lay g.wd.sub hp
  have fp : F p = none := g.wd.sub.free hp
  exact hd F _ _ (Le.refl F) ((g.px px).setO (ds := (.dic [], [])) ⟨upd_same, rfl⟩ fp (g.fresh0 hp) nd.1 nd.2 (g.noown hp) .nil)
end
end MD

set_option Elab.async false
set_option linter.all false
set_option maxRecDepth 100000
set_option maxHeartbeats 1000000
namespace MD
open PySem L2

/-! ### walks over a locked dict -/
/-- the walk goes through these data, while what stood stays -/
def StdyX (K : Fg) (dk : Dk) (F H : Hp) (J : It) (ds : List D) : Prop := ∀ (F1 H1 : Hp) (st : S), Le F F1 → Ext dk F H F1 H1 → Wd dk F1 H1 st → ∀ i : Nat,
  (∀ d, ds[i]? = some d → J.go i H1 ∧ ∀ x H2, J.yld i H1 x H2 → ∃ F2, Px F1 H1 F2 H2 ∧ Rp K dk F2 x d) ∧ (ds.length ≤ i → J.stop i H1)
def ImIX (K : Fg) (wi : TI) (f : MI) : Prop := ∀ (dk : Dk) (H0 F0 F : Hp) (σ : L2.St) (H : Hp) (env : Sg) (st : S) (ds : List D) (st' : S), Good K dk H0 F0 F σ H env st → f env st = some (ds, st') →
  ∀ R : It → Hp → Prop, (∀ J F' H', Ext dk F H F' H' → Good K dk H0 F0 F' σ H' env st' → StdyX K dk F' H' J ds → R J H') → wi σ H R
section
variable {K : Fg} {dk : Dk} {F F' H H' H0 F0 : Hp} {σ : L2.St} {env : Sg} {st : S}
theorem if_compX {wi : TI} {g : TG} {tt : TT} {te : TE} {vs : List Nat} {it : MI} {t : MG} {c : MT} {f : ME} {is : List Nat} (hi : ImIX K wi it) (hg : ImG K g t is) (ht : ImT K tt c) (he : Im K te f) (hv : ∀ i ∈ is, i ∈ vs) :
    ImF K (tLc wi g tt te vs) (compM it t c f vs) := fun dk H0 F0 F σ H env st out st' gd e Q q => by
  obtain ⟨⟨ds, s1⟩, e1, e⟩ := bnd e
  replace e : (if ds.length ≤ sizeLine then compL t c f (wipeE env vs) ds s1 else none) = some (out, st') := e
  split at e
  · rename_i hz
    refine hi dk H0 F0 F σ H env st ds s1 gd e1 _ fun J F1 H1 x1 g1 sd Dn hD => ?_
    have hDH : H Dn = none := by
      cases w : H Dn with
      | none => rfl
      | some o => exact absurd hD (x1.m Dn (by rw [w]; exact fun z => nomatch z))
    have nd := g1.nedk hD
    have h0D := g1.fresh0 hD
    have noD := g1.noown hD
    have noW : ∀ (j : Nat) (es : Own), (wipeE env vs)[j]? = some (.own es) → (wipe σ vs)[j]? ≠ some (some (.ref Dn)) := fun j es e => by
      rcases wipeE_get e with z | ⟨z1, z2⟩
      · cases z
      · rw [wipe_off z2]; exact noD j es z1
    let P : Nat → Hp → Prop := fun i H => ∃ F2 st2 acc done rest, Le F1 F2 ∧ Ext dk F1 H1 F2 H ∧ Good K dk H0 F0 F2 (wipe σ vs) H (wipeE env vs) st2 ∧ H Dn = some (.lst acc) ∧ F2 Dn = none ∧ acc.length ≤ i ∧ Rps K dk F2 acc done ∧
      compL t c f (wipeE env vs) (ds.drop i) st2 = some (rest, st') ∧ done ++ rest = out
    have px0 : Px F1 H1 F1 (upd H1 Dn (.lst [])) := Px.lay g1.wd.sub hD
    refine ⟨fun i m H => m = ds.length - i ∧ i ≤ ds.length ∧ P i H, ⟨_, rfl, Nat.zero_le _, F1, s1, [], [], out, Le.refl F1, px0.ext, (g1.wiped).px px0, upd_same, g1.wd.sub.free hD, Nat.zero_le _, .nil, e, rfl⟩, ?_⟩
    rintro i m H2 ⟨rfl, hle, F2, s2, acc, done, rest, le2, x2, g2, hacc, f2, hal, racc, e2, eo⟩
    by_cases hlt : i < ds.length
    · have hdi : ds[i]? = some ds[i] := List.getElem?_eq_getElem hlt
      obtain ⟨hgo, hy⟩ := (sd F2 H2 s2 le2 x2 g2.wd i).1 _ hdi
      refine .inr ⟨hgo, P (i + 1), fun H' hp => ⟨_, by omega, rfl, hlt, hp⟩, fun x H3 hx => ?_⟩
      obtain ⟨F3, px, rx⟩ := hy x H3 hx
      have g3 := g2.px px
      rw [List.drop_eq_getElem_cons hlt] at e2
      obtain ⟨env3, e3, e2⟩ := bnd e2
      obtain ⟨⟨b, s4⟩, e4, e2⟩ := bnd e2
      refine hg dk H0 F0 F3 (wipe σ vs) H3 (wipeE env vs) s2 x _ env3 g3 rx e3 _ fun σ4 g4 tg => ?_
      have same : ∀ j : Nat, j ∉ vs → σ4[j]? = (wipe σ vs)[j]? ∧ env3[j]? = (wipeE env vs)[j]? := fun j hj => tg.same j fun z => hj (hv j z)
      have weq : wipe σ4 vs = wipe σ vs := by
        rw [wipe_eq tg.len fun j hj => (same j hj).1, wipe_wipe]
      have nD3 : H2 Dn ≠ none := by rw [hacc]; exact fun z => nomatch z
      have back : ∀ {F5 H5 : Hp} {st5 : S}, Good K dk H0 F0 F5 σ4 H5 env3 st5 → Good K dk H0 F0 F5 (wipe σ vs) H5 (wipeE env vs) st5 := fun {F5 H5 st5} g5 =>
        g5.reslot (by rw [wipe_length, wipeE_length]; exact gd.len) fun j s es => by
          rcases wipeE_get es with z | ⟨z1, z2⟩
          · exact .inl z
          · exact .inr ⟨(same j z2).2.trans es, (same j z2).1.symm⟩
      refine ⟨weq, ?_⟩
      refine ht dk H0 F0 F3 σ4 H3 env3 s2 b s4 g4 e4 _ fun F5 H5 x5 g5 => ?_
      have x25 : Ext dk F2 H2 F5 H5 := px.ext.trans x5
      have a5 : H5 Dn = some (.lst acc) := x25.h _ _ hacc nd.1 nd.2
      have f5 : F5 Dn = none := x25.n _ f2 nD3
      cases b with
      | false =>
        exact ⟨F5, s4, acc, done, rest, le2.trans x25.f, x2.trans x25, back g5, a5, f5, by omega, racc.mono x25.f, e2, eo⟩
      | true =>
        replace e2 : ((f env3 s4).bind fun q => (compL t c f (wipeE env vs) (ds.drop (i + 1)) q.2).map fun r => (q.1 :: r.1, r.2)) = some (rest, st') := e2
        obtain ⟨⟨y, s6⟩, e6, e2⟩ := bnd e2
        obtain ⟨⟨rest', s7⟩, e7, e2⟩ := mpd e2
        cases e2
        refine he dk H0 F0 F5 σ4 H5 env3 s4 y s6 g5 e6 _ fun v F6 H6 x6 g6 r6 => ?_
        have x26 := x25.trans x6
        have a6 : H6 Dn = some (.lst acc) := x26.h _ _ hacc nd.1 nd.2
        have f6 : F6 Dn = none := x26.n _ f2 nD3
        refine ⟨acc, a6, by omega, F6, s6, acc ++ [v], done ++ [y], rest', le2.trans x26.f, ?_, (back g6).mutT a6 f6 h0D nd.1 nd.2 noW, upd_same, f6, by simp; omega, (racc.mono x26.f).append (Rps.one r6), e7, by rw [← eo]; simp⟩
        have x16 := x2.trans x26
        refine ⟨fun a o ha n1 n2 => ?_, x16.f, x16.n, fun a ha z => ?_⟩
        · rw [upd_ne (ne_of_none ha hD)]; exact x16.h a o ha n1 n2
        · by_cases na : a = Dn
          · subst na; rw [upd_same] at z; cases z
          · rw [upd_ne na] at z; exact x16.m a ha z
    · have ei : i = ds.length := by omega
      subst ei
      rw [List.drop_length] at e2
      cases e2
      refine .inl ⟨(sd F2 H2 _ le2 x2 g2.wd ds.length).2 (Nat.le_refl _), ?_⟩
      rw [List.append_nil] at eo
      subst eo
      have g9 : Good K dk H0 F0 F2 σ H2 env st' := by
        have gx := g1.step x2 g2.wd
        exact gx
      exact q Dn acc F2 H2 (x1.trans x2) g9 hDH f2 hacc racc
  · cases e

theorem lckA {X : Cx} {st : Stmt} {te : TE} {i : Nat} (h : PS X st (tLock (tAsg te (gName i)))) : PS X st (tAsg (tLockE te) (gName i)) := h
theorem units1 {n : Nat} (h : n + 64 < cLine) : n + 1 < cLine := by omega
def keysM (i : Nat) : MI := fun env st => match env[i]? with
  | some (.own (.lck ks, _)) => some (ks.map keyD, st)
  | _ => none
theorem ix_keys (i : Nat) : ImIX K (iKeys (tVar i)) (keysM i) := fun dk H0 F0 F σ H env st ds st' g e R q => by
  unfold keysM at e
  split at e
  · rename_i ks es he
    cases e
    obtain ⟨p, vs, h1, ⟨⟨od, h2⟩, h2'⟩, h3, h4, h5, h6, h7⟩ := g.sl i _ he
    refine ⟨.ref p, join_eq h1, p, od, rfl, .inl ⟨ks.zip vs, h2, q _ F H (Ext.refl F H) g ?_⟩⟩
    intro F1 H1 st1 le x w j
    have hz : (ks.zip vs).length = ks.length := by rw [List.length_zip, h2', Nat.min_self]
    have hp : H1 p = some (.frz od (.dK (ks.zip vs))) := x.h _ _ h2 h5 h6
    refine ⟨fun d hd => ?_, fun hl => ⟨hp, by rw [hz]; simpa using hl⟩⟩
    rw [List.getElem?_map] at hd
    obtain ⟨k, hk, rfl⟩ := mpd hd
    have hj : j < ks.length := by
      by_cases hl : j < ks.length
      · exact hl
      · rw [List.getElem?_eq_none (by omega)] at hk; cases hk
    refine ⟨⟨hp, by rw [hz]; exact hj⟩, fun y H2 hy => ?_⟩
    obtain ⟨e1, k', v', hkv, e2⟩ := hy
    subst e1 e2
    have : k' = k := by
      have hh := congrArg (Option.map Prod.fst) hkv
      rw [← List.getElem?_map, List.map_fst_zip (by omega), hk] at hh
      exact (Option.some.inj hh).symm
    subst this
    exact ⟨F1, Px.refl w.sub, keyD_rp k'⟩
  · cases e
def lckM (i : Nat) (f : MA) : MA := fun env st => match env[i]? with
  | some (.own (.dic ks, ds)) => f (env.set i (.own (.lck ks, ds))) st
  | _ => none
theorem if_lck {te : TE} {f : MA} (i : Nat) (h : ImF K te f) : ImF K (tLockE te) (lckM i f) := fun dk H0 F0 F σ H env st out st' g e Q q => by
  unfold lckM at e
  split at e
  · rename_i ks ds he
    obtain ⟨p, vs, h1, ⟨h2, h2'⟩, h3, h4, h5, h6, h7⟩ := g.sl i _ he
    refine ⟨p, .dK (ks.zip vs), h2, trivial, fun od => ?_⟩
    have hil : i < env.length := by
      by_cases hl : i < env.length
      · exact hl
      · rw [List.getElem?_eq_none (by omega)] at he; cases he
    have gl : Good K dk H0 F0 F σ (upd H p (.frz od (.dK (ks.zip vs)))) (env.set i (.own (.lck ks, ds))) st := g.mut (ds' := (.lck ks, ds)) (vs' := vs) he (join_eq h1) ⟨⟨od, upd_same⟩, h2'⟩ h7
    refine h dk H0 F0 F σ _ _ st out st' gl e _ fun p' vs' F1 H1 x1 g1 hp' fp' hl' r' => ?_
    have hpp : p' ≠ p := fun z => by rw [z, upd_same] at hp'; cases hp'
    have hl1 : H1 p = some (.frz od (.dK (ks.zip vs))) := x1.h _ _ upd_same h5 h6
    have he1 : (env.set i (.own (.lck ks, ds)))[i]? = some (.own (.lck ks, ds)) := List.getElem?_set_self hil
    have g2 : Good K dk H0 F0 F1 σ (upd H1 p (.dK (ks.zip vs))) ((env.set i (.own (.lck ks, ds))).set i (.own (.dic ks, ds))) st' := g1.mut (ds' := (.dic ks, ds)) (vs' := vs) he1 (join_eq h1) ⟨upd_same, h2'⟩ (h7.mono x1.f)
    have ee : (env.set i (.own (.lck ks, ds))).set i (.own (.dic ks, ds)) = env := by
      rw [List.set_set]
      apply List.ext_getElem?
      intro j
      by_cases hj : i = j
      · subst hj; rw [List.getElem?_set_self hil, he]
      · rw [List.getElem?_set_ne hj]
    rw [ee] at g2
    rw [upd_ne hpp] at hp'
    refine ⟨hl1, q p' vs' F1 _ ⟨fun a o ha n1 n2 => ?_, x1.f, fun a fa ha => x1.n a fa ?_, fun a ha z => ?_⟩ g2 hp' fp' (by rw [upd_ne hpp]; exact hl') r'⟩
    · by_cases na : a = p
      · subst na; rw [upd_same, ← ha]; exact h2.symm
      · rw [upd_ne na]; exact x1.h a o (by rw [upd_ne na]; exact ha) n1 n2
    · by_cases na : a = p
      · subst na; rw [upd_same]; exact fun z => nomatch z
      · rw [upd_ne na]; exact ha
    · by_cases na : a = p
      · subst na; rw [upd_same] at z; cases z
      · rw [upd_ne na] at z; exact x1.m a (by rw [upd_ne na]; exact ha) z
  · cases e
end
end MD

set_option Elab.async false
set_option linter.all false
set_option maxRecDepth 100000
set_option maxHeartbeats 1000000
namespace MD
open PySem L2

/-! ### mirrors, evaluated -/
/-- where a length is within the line -/
noncomputable def cif {α : Type} (p : Prop) (o : Option α) : Option α := @ite _ p (Classical.propDecidable p) o none
theorem cif_eq {α : Type} (p : Prop) [d : Decidable p] (o : Option α) : (if p then o else none) = cif p o := by
  unfold cif
  by_cases h : p
  · rw [if_pos h, if_pos h]
  · rw [if_neg h, if_neg h]
theorem cif_of {α : Type} {p : Prop} {o : Option α} (h : p) : cif p o = o := if_pos h
noncomputable def grd {α : Type} (n : Nat) (o : Option α) : Option α := cif (n ≤ sizeLine) o
theorem grd_eq {α : Type} (n : Nat) (o : Option α) : (if n ≤ sizeLine then o else none) = grd n o := cif_eq _ _
theorem grd_lt {α : Type} (n : Nat) (o : Option α) : (if n < sizeLine then o else none) = grd (n + 1) o := cif_eq _ _
theorem grd_of {α : Type} {n : Nat} {o : Option α} (h : n ≤ 1000000) : grd n o = o := if_pos (Nat.le_trans h (by decide))
noncomputable def rng1 : List D → Option (List D)
  | [.int j] => cif (-(2 ^ 62) ≤ j ∧ j < 2 ^ 62) (some (rngD 0 j.toNat))
  | _ => none
noncomputable def rng2 : List D → Option (List D)
  | [.int i, .int j] => cif (-(2 ^ 62) ≤ i ∧ i < 2 ^ 62 ∧ -(2 ^ 62) ≤ j ∧ j < 2 ^ 62) (some (rngD i (j - i).toNat))
  | _ => none
theorem rng1_of {j : Int} (h0 : -1000000 ≤ j) (h1 : j ≤ 1000000) : rng1 [.int j] = some (rngD 0 j.toNat) := cif_of ⟨by omega, by omega⟩
theorem rng2_of {i j : Int} (h0 : -1000000 ≤ i) (h1 : i ≤ 1000000) (h2 : -1000000 ≤ j) (h3 : j ≤ 1000000) : rng2 [.int i, .int j] = some (rngD i (j - i).toNat) := cif_of ⟨by omega, by omega, by omega, by omega⟩
theorem rngD_len (lo : Int) (n : Nat) : (rngD lo n).length = n := by unfold rngD; simp
theorem small_sz {n : Nat} (h : n ≤ 1000000) : n ≤ sizeLine := Nat.le_trans h (by decide)
section
variable {env : Sg} {st : S} {f h fa fb fc fe fo : ME} {c : MT} {a r : MA} {i j n : Nat} {d e : D} {ds es : List D}
@[simp] theorem v_frz : frz a env st = (a env st).map fun p => (D.lst p.1, p.2) := (rfl)
@[simp] theorem v_rd : rd i env st = (match env[i]? with | some (.val d) => some (d, st) | _ => none) := (rfl)
@[simp] theorem v_rdW : rdW i env st = (match env[i]? with | some (.val d) => some (d, st) | some (.own (.lst, ds)) => some (D.lst ds, st) | _ => none) := (rfl)
@[simp] theorem v_cst : cst d env st = some (d, st) := (rfl)
@[simp] theorem v_opM {g : D → D → Option D} : opM g fa fb env st = (fa env st).bind fun p => (fb env p.2).bind fun q => (g p.1 q.1).map fun z => (z, q.2) := (rfl)
@[simp] theorem v_unM {g : D → Option D} : unM g fa env st = (fa env st).bind fun p => (g p.1).map fun z => (z, p.2) := (rfl)
@[simp] theorem v_slM {g : D → Option Int → Option Int → Option D} {fl fh : MO} : slM g fe fl fh env st = (fe env st).bind fun p => (fl env p.2).bind fun l => (fh env l.2).bind fun u => (g p.1 l.1 u.1).map fun z => (z, u.2) := (rfl)
@[simp] theorem v_noP : noP env st = some (none, st) := (rfl)
@[simp] theorem v_prt : prt f env st = (f env st).bind fun p => (intOf p.1).map fun i => (some i, p.2) := (rfl)
@[simp] theorem v_aNil : aNil env st = some ([], st) := (rfl)
@[simp] theorem v_aCons : aCons f r env st = (f env st).bind fun p => (r env p.2).map fun q => (p.1 :: q.1, q.2) := (rfl)
@[simp] theorem v_tupM : tupM a env st = (a env st).bind fun p => grd p.1.length (some (D.tup p.1, p.2)) := by
  unfold tupM; simp only [grd_eq]
@[simp] theorem v_lstM : lstM a env st = (a env st).bind fun p => grd p.1.length (some p) := by
  unfold lstM; simp only [grd_eq]
@[simp] theorem v_cbM {g : List D → Option D} : cbM g a env st = (a env st).bind fun p => (g p.1).map fun z => (z, p.2) := (rfl)
@[simp] theorem v_m1M {g : D → List D → Option D} : m1M g fo fe env st = (fo env st).bind fun p => if isStrD p.1 then (fe env p.2).bind fun q => (g p.1 [q.1]).map fun z => (z, q.2) else none := (rfl)
@[simp] theorem v_bmL {g : D → List D → Option D} : bmL g fo a env st = (fo env st).bind fun p => if isLstD p.1 then (a env p.2).bind fun q => (g p.1 q.1).map fun z => (z, q.2) else none := (rfl)
@[simp] theorem v_tstM : tstM f env st = (f env st).bind fun p => (blOf p.1).map fun b => (b, p.2) := (rfl)
@[simp] theorem v_truM : truM f env st = (f env st).bind fun p => (truD p.1).map fun b => (b, p.2) := (rfl)
@[simp] theorem v_andM {c' : MT} : andM c c' env st = (c env st).bind fun p => if p.1 then c' env p.2 else some (false, p.2) := (rfl)
@[simp] theorem v_orM {c' : MT} : orM c c' env st = (c env st).bind fun p => if p.1 then some (true, p.2) else c' env p.2 := (rfl)
@[simp] theorem v_notM : notM c env st = (c env st).map fun p => (!p.1, p.2) := (rfl)
@[simp] theorem v_andV : andV f h env st = (f env st).bind fun p => (blOf p.1).bind fun b => if b then h env p.2 else some (D.bl false, p.2) := (rfl)
@[simp] theorem v_orV : orV f h env st = (f env st).bind fun p => (blOf p.1).bind fun b => if b then some (D.bl true, p.2) else h env p.2 := (rfl)
@[simp] theorem v_notV : notV f env st = (f env st).bind fun p => (blOf p.1).map fun b => (D.bl (!b), p.2) := (rfl)
@[simp] theorem v_ifM : ifM c f h env st = (c env st).bind fun p => if p.1 then f env p.2 else h env p.2 := (rfl)
@[simp] theorem v_chM {g g' : D → D → Option D} : chM g g' fa fb fc env st = (fa env st).bind fun p => (fb env p.2).bind fun q => (g p.1 q.1).bind fun z => (blOf z).bind fun b =>
  if b then (fc env q.2).bind fun r => (g' q.1 r.1).map fun z => (z, r.2) else some (D.bl false, q.2) := (rfl)
@[simp] theorem v_nxM : nxM env st = some (.nx env, st) := (rfl)
@[simp] theorem v_seqM {p q : MS} : seqM p q env st = (p env st).bind fun x => match x.1 with | .nx e => q e x.2 | fl => some (fl, x.2) := (rfl)
@[simp] theorem v_retM : retM f env st = (f env st).map fun p => (.rt p.1, p.2) := (rfl)
@[simp] theorem v_retN : retN env st = some (.rt .non, st) := (rfl)
@[simp] theorem v_ifS {p q : MS} : ifS c p q env st = (c env st).bind fun x => if x.1 then p env x.2 else q env x.2 := (rfl)
@[simp] theorem v_dropM : dropM f env st = (f env st).map fun p => (.nx env, p.2) := (rfl)
@[simp] theorem v_nameT : nameT i d env = some (env.set i (.val d)) := (rfl)
@[simp] theorem v_nilT : nilT [] env = some env := (rfl)
@[simp] theorem v_consT {t : MG} {u : List D → Sg → Option Sg} : consT t u (d :: ds) env = (t d env).bind fun e => u ds e := (rfl)
@[simp] theorem v_tupT {u : List D → Sg → Option Sg} : tupT n u (.tup ds) env = if ds.length = n then u ds env else none := (rfl)
@[simp] theorem v_asgM {t : MG} : asgM t f env st = (f env st).bind fun p => (t p.1 env).map fun e => (.nx e, p.2) := (rfl)
@[simp] theorem v_ownM : ownM i a env st = (a env st).map fun p => (.nx (env.set i (.own (.lst, p.1))), p.2) := (rfl)
@[simp] theorem v_parM : parM i j a env st = (a env st).bind fun p => (two i j env p.1).map fun e => (.nx e, p.2) := (rfl)
@[simp] theorem v_two : two i j env [d, e] = some ((env.set i (.val d)).set j (.val e)) := (rfl)
@[simp] theorem v_augM {op : D → D → Option D} : augM i op f env st = (match env[i]? with | some (.val x) => (f env st).bind fun p => (op x p.1).map fun z => (.nx (env.set i (.val z)), p.2) | _ => none) := (rfl)
@[simp] theorem v_frzM {p : MS} : frzM i p env st = p (frzE i env) st := (rfl)
@[simp] theorem v_frzE : frzE i env = (match env[i]? with | some (.own (.lst, ds)) => env.set i (.val (.lst ds)) | _ => env) := (rfl)
@[simp] theorem v_appM : appM i f env st = (match env[i]? with | some (.own (.lst, ds)) => grd (ds.length + 1) ((f env st).map fun p => (.nx (env.set i (.own (.lst, ds ++ [p.1]))), p.2)) | _ => none) := by
  unfold appM; simp only [grd_lt] <;> rfl
@[simp] theorem v_extM : extM i f env st = (match env[i]? with | some (.own (.lst, ds)) => (f env st).bind fun p => (lstOf p.1).bind fun es => grd (ds.length + es.length) (some (.nx (env.set i (.own (.lst, ds ++ es))), p.2)) | _ => none) := by
  unfold extM; simp only [grd_eq] <;> rfl
@[simp] theorem v_yesM : yesM env st = some (true, st) := (rfl)
@[simp] theorem v_r1M : r1M a env st = (a env st).bind fun p => (rng1 p.1).map fun ds => (ds, p.2) := by
  unfold r1M
  congr 1
  funext p
  obtain ⟨l, s⟩ := p
  show (match l with | [.int j] => if -(2 ^ 62) ≤ j ∧ j < 2 ^ 62 then some (rngD 0 j.toNat, s) else none | _ => none) = (rng1 l).map fun ds => (ds, s)
  unfold rng1
  split
  · rw [cif_eq]; unfold cif; split <;> rfl
  · rfl
@[simp] theorem v_r2M : r2M a env st = (a env st).bind fun p => (rng2 p.1).map fun ds => (ds, p.2) := by
  unfold r2M
  congr 1
  funext p
  obtain ⟨l, s⟩ := p
  show (match l with | [.int i, .int j] => if -(2 ^ 62) ≤ i ∧ i < 2 ^ 62 ∧ -(2 ^ 62) ≤ j ∧ j < 2 ^ 62 then some (rngD i (j - i).toNat, s) else none | _ => none) = (rng2 l).map fun ds => (ds, s)
  unfold rng2
  split
  · rw [cif_eq]; unfold cif; split <;> rfl
  · rfl
@[simp] theorem v_seqI : seqI f env st = (f env st).bind fun p => (seqOf p.1).map fun ds => (ds, p.2) := (rfl)
@[simp] theorem v_enumI : enumI f env st = (f env st).bind fun p => (seqOf p.1).map fun ds => (enumD ds, p.2) := (rfl)
@[simp] theorem v_forM {it : MI} {t : MG} {b : MS} : forM it t b env st = (it env st).bind fun p => forL t b p.1 env p.2 := (rfl)
@[simp] theorem v_compM {it : MI} {t : MG} {vs : List Nat} : compM it t c f vs env st = (it env st).bind fun p => grd p.1.length (compL t c f (wipeE env vs) p.1 p.2) := by
  unfold compM; simp only [grd_eq]
@[simp] theorem v_callM {m : MF} : callM m a env st = (a env st).bind fun p => m p.1 p.2 := (rfl)
@[simp] theorem v_runM {b : MS} : runM n b ds st = (b (ds.map Sl.val ++ List.replicate (n - ds.length) Sl.un) st).bind fun p => match p.1 with | .rt d => some (d, p.2) | .nx _ => some (.non, p.2) | _ => none := (rfl)
@[simp] theorem v_wipe0 : wipeE env [] = env := (rfl)
@[simp] theorem v_wipe1 {v : Nat} {vs : List Nat} : wipeE env (v :: vs) = (wipeE env vs).set v .un := (rfl)
@[simp] theorem v_forL0 {t : MG} {b : MS} : forL t b [] env st = some (.nx env, st) := (rfl)
theorem v_forL {t : MG} {b : MS} : forL t b (d :: ds) env st = (t d env).bind fun env1 => (b env1 st).bind fun p => match p.1 with
    | .nx e => forL t b ds e p.2
    | .ct e => forL t b ds e p.2
    | .bk e => some (.nx e, p.2)
    | .rt r => some (.rt r, p.2) := (rfl)
@[simp] theorem v_compL0 {t : MG} : compL t c f env [] st = some ([], st) := (rfl)
theorem v_compL {t : MG} : compL t c f env (d :: ds) st = (t d env).bind fun e => (c e st).bind fun p => if p.1 then (f e p.2).bind fun q => (compL t c f env ds q.2).map fun r => (q.1 :: r.1, r.2) else compL t c f env ds p.2 := (rfl)
/-! values -/
@[simp] theorem v_intOf {i : Int} : intOf (.int i) = some i := (rfl)
@[simp] theorem v_blOf {b : Bool} : blOf (.bl b) = some b := (rfl)
@[simp] theorem v_isStr {s : Str} : isStrD (.str s) = true := (rfl)
@[simp] theorem v_isLst : isLstD (.lst ds) = true := (rfl)
@[simp] theorem v_iI {g : Int → Int → D} {i j : Int} : iI g (.int i) (.int j) = some (g i j) := (rfl)
theorem v_iIC0 {C : Int → Int → Prop} [∀ i j, Decidable (C i j)] {g : Int → Int → D} {i j : Int} (h : C i j) : iIC C g (.int i) (.int j) = some (g i j) := if_pos h
@[simp] theorem v_unI {g : Int → D} {i : Int} : unI g (.int i) = some (g i) := (rfl)
@[simp] theorem v_addI {i j : Int} : addM (.int i) (.int j) = some (.int (i + j)) := (rfl)
@[simp] theorem v_addS {i j : Str} : addM (.str i) (.str j) = grd (i.length + j.length) (some (.str (i ++ j))) := by
  rw [← grd_eq]; rfl
@[simp] theorem v_addT {i j : List D} : addM (.tup i) (.tup j) = grd (i.length + j.length) (some (.tup (i ++ j))) := by
  rw [← grd_eq]; rfl
@[simp] theorem v_addL {i j : List D} : addM (.lst i) (.lst j) = grd (i.length + j.length) (some (.lst (i ++ j))) := by
  rw [← grd_eq]; rfl
@[simp] theorem v_ixL {i : Int} : ixM (.lst ds) (.int i) = L2.atI ds i := (rfl)
@[simp] theorem v_ixT {i : Int} : ixM (.tup ds) (.int i) = L2.atI ds i := (rfl)
@[simp] theorem v_ixS {z : Str} {i : Int} : ixM (.str z) (.int i) = grd z.length ((L2.atI z.cps.toList i).map fun c => .str ⟨#[c]⟩) := by
  rw [← grd_eq]; rfl
@[simp] theorem v_lenS {z : Str} : lenM [.str z] = grd z.length (some (.int z.length)) := by
  rw [← grd_eq]; rfl
@[simp] theorem v_lenL : lenM [.lst ds] = some (.int ds.length) := (rfl)
@[simp] theorem v_lenT : lenM [.tup ds] = some (.int ds.length) := (rfl)
@[simp] theorem v_seqL : seqOf (.lst ds) = some ds := (rfl)
@[simp] theorem v_seqT : seqOf (.tup ds) = some ds := (rfl)
@[simp] theorem v_seqS {x : Str} : seqOf (.str x) = some ((signs x).map D.str) := (rfl)
@[simp] theorem v_tupleL : tupleM [.lst ds] = some (.tup ds) := (rfl)
@[simp] theorem v_tupleT : tupleM [.tup ds] = some (.tup ds) := (rfl)
@[simp] theorem v_tupleS {x : Str} : tupleM [.str x] = grd x.cps.size (some (.tup ((signs x).map D.str))) := by
  rw [← grd_eq]; rfl
@[simp] theorem v_slT {lo hi : Option Int} : slAny (.tup ds) lo hi = some (.tup (cutD ds lo hi)) := (rfl)
@[simp] theorem v_slS {z : Str} {lo hi : Option Int} : slAny (.str z) lo hi = grd z.length (some (.str (cutS z lo hi))) := by
  rw [← grd_eq]
  unfold slAny slTup slStr slLst
  by_cases h : z.length ≤ sizeLine <;> simp [h, Option.orElse]
@[simp] theorem v_slL {lo hi : Option Int} : slAny (.lst ds) lo hi = some (.lst (cutD ds lo hi)) := (rfl)
@[simp] theorem v_sumM : sumM [.lst ds] = (intsOf ds).map fun ns => .int ns.sum := (rfl)
@[simp] theorem v_maxM : maxM [.lst (d :: ds)] = (intsOf (d :: ds)).map fun ns => .int (topI ns) := (rfl)
@[simp] theorem v_minM : minM [.lst (d :: ds)] = (intsOf (d :: ds)).map fun ns => .int (botI ns) := (rfl)
@[simp] theorem v_int1 {i : Int} : int1M [.int i] = some (.int i) := (rfl)
@[simp] theorem v_lstOf : lstOf (.lst ds) = some ds := (rfl)
@[simp] theorem intsOf_map (ns : List Int) : intsOf (ns.map D.int) = some ns := by
  induction ns with
  | nil => rfl
  | cons x r ih => show (intsOf (r.map D.int)).map (x :: ·) = _; rw [ih]; rfl
@[simp] theorem strsOf_map (ns : List Str) : strsOf (ns.map D.str) = some ns := by
  induction ns with
  | nil => rfl
  | cons x r ih => show (strsOf (r.map D.str)).map (x :: ·) = _; rw [ih]; rfl
end

/-! ### words as lists of codes -/
def W (ws : List Nat) : Str := ⟨ws.toArray⟩
@[simp] theorem W_len (ws : List Nat) : (W ws).length = ws.length := by show ws.toArray.size = _; simp
@[simp] theorem W_size (ws : List Nat) : (W ws).cps.size = ws.length := by show ws.toArray.size = _; simp
@[simp] theorem W_list (ws : List Nat) : (W ws).cps.toList = ws := by show ws.toArray.toList = _; simp
theorem W_inj {a b : List Nat} (h : W a = W b) : a = b := by
  have := congrArg (fun s : Str => s.cps.toList) h
  simpa using this
theorem W_of (s : Str) : W s.cps.toList = s := by
  obtain ⟨⟨l⟩⟩ := s
  rfl
@[simp] theorem W_signs (ws : List Nat) : signs (W ws) = ws.map fun c => W [c] := by
  unfold signs
  rw [W_list]
  rfl
theorem W_app (a b : List Nat) : W a ++ W b = W (a ++ b) := by
  show (⟨(W a).cps ++ (W b).cps⟩ : Str) = _
  unfold W
  simp
theorem sIx_some {n : Nat} {i : Int} (h0 : 0 ≤ i) (h1 : i ≤ n) (d : Nat) : HT.sIx n d (some i) = i.toNat := by
  have e := HT.sIx_nat n d i.toNat
  rw [Int.toNat_of_nonneg h0] at e
  rw [e]
  omega
theorem cutW_to {ws : List Nat} {n : Int} (h0 : 0 ≤ n) (h1 : n ≤ ws.length) : cutS (W ws) none (some n) = W (ws.take n.toNat) := by
  unfold cutS
  rw [W_list, W_len, HT.sIx_none, sIx_some h0 h1]
  rfl
theorem cutW_from {ws : List Nat} {n : Int} (h0 : 0 ≤ n) (h1 : n ≤ ws.length) : cutS (W ws) (some n) none = W (ws.drop n.toNat) := by
  unfold cutS
  rw [W_list, W_len, HT.sIx_none, sIx_some h0 h1]
  show (⟨((ws.drop n.toNat).take (ws.length - n.toNat)).toArray⟩ : Str) = _
  rw [List.take_of_length_le (by rw [List.length_drop]; exact Nat.le_refl _)]
  rfl
theorem cutD_from {ds : List D} {n : Int} (h0 : 0 ≤ n) (h1 : n ≤ ds.length) : cutD ds (some n) none = ds.drop n.toNat := by
  unfold cutD
  rw [HT.sIx_none, sIx_some h0 h1]
  exact List.take_of_length_le (by rw [List.length_drop]; exact Nat.le_refl _)
theorem cutD_to {ds : List D} {n : Int} (h0 : 0 ≤ n) (h1 : n ≤ ds.length) : cutD ds none (some n) = ds.take n.toNat := by
  unfold cutD
  rw [HT.sIx_none, sIx_some h0 h1]
  rfl
theorem atI_of {α : Type} {xs : List α} {j : Nat} {x : α} (h : xs[j]? = some x) : L2.atI xs (j : Int) = some x := atI_nat h
theorem atI_nn {α : Type} {xs : List α} {i : Int} (h0 : 0 ≤ i) : L2.atI xs i = xs[i.toNat]? := by
  unfold L2.atI ixN
  rw [if_pos h0]
  by_cases h : i < xs.length
  · rw [if_pos h]; rfl
  · rw [if_neg h, List.getElem?_eq_none (by omega)]; rfl
/-! letters -/
def Let (k : Nat) (c : Nat) : Prop := 97 ≤ c ∧ c < 97 + k
theorem occ_abcd {c : Nat} (h : Let 4 c) : Builtin.Str.occurrences "abcd" (W [c]) 0 ("abcd" : Str).length 1 = [c - 97] := by
  obtain ⟨h1, h2⟩ := h
  have : c = 97 ∨ c = 98 ∨ c = 99 ∨ c = 100 := by omega
  rcases this with rfl | rfl | rfl | rfl <;> decide +kernel
theorem idx_abcd {c : Nat} (h : Let 4 c) : sindexM (.str "abcd") [.str (W [c])] = some (.int ((c - 97 : Nat) : Int)) := by
  show (match Builtin.Str.occurrences "abcd" (W [c]) 0 ("abcd" : Str).length 1 with | i :: _ => some (D.int (i : Nat)) | [] => none) = _
  rw [occ_abcd h]
theorem abcd_W : ("abcd" : Str) = W [97, 98, 99, 100] := by decide +kernel
theorem empty_W : ("" : Str) = W [] := by decide +kernel
/-! comparisons -/
@[simp] theorem eq_int (i j : Int) : eqM (.int i) (.int j) = some (.bl (decide (i = j))) := (rfl)
@[simp] theorem ne_int (i j : Int) : neM (.int i) (.int j) = some (.bl (!decide (i = j))) := (rfl)
@[simp] theorem eq_str (i j : Str) : eqM (.str i) (.str j) = some (.bl (decide (i = j))) := (rfl)
@[simp] theorem ne_str (i j : Str) : neM (.str i) (.str j) = some (.bl (!decide (i = j))) := (rfl)
@[simp] theorem is_non (d : D) : isM d .non = some (.bl (nonD d)) := (rfl)
@[simp] theorem isnot_non (d : D) : isNotM d .non = some (.bl (!nonD d)) := (rfl)
theorem pyAll_ints (ns : List Int) : pyAll (ns.map D.int) = ns.map PyData.int := by
  induction ns with
  | nil => rfl
  | cons x r ih => show D.py (.int x) :: pyAll (r.map D.int) = _; rw [ih]; rfl
theorem plAll_ints (ns : List Int) : plAll (ns.map D.int) = true := by
  induction ns with
  | nil => rfl
  | cons x r ih => show (D.pl (.int x) && plAll (r.map D.int)) = true; rw [ih]; rfl
theorem lay_ints (ns : List Int) : PyData.canLayAll0 (ns.map PyData.int) = true := by
  induction ns with
  | nil => rfl
  | cons x r ih => show (PyData.canLay0 (.int x) && PyData.canLayAll0 (r.map PyData.int)) = true; rw [ih]; rfl
theorem depth_ints (ns : List Int) : PyData.depthAll (ns.map PyData.int) ≤ 1 := by
  induction ns with
  | nil => simp [PyData.depthAll]
  | cons x r ih => simp [PyData.depthAll, PyData.depth] at ih ⊢; omega
theorem eqv_ints : ∀ (a b : List Int), PyData.eqvAll (a.map PyData.int) (b.map PyData.int) = decide (a = b)
  | [], [] => by rfl
  | [], y :: b => by rfl
  | x :: a, [] => by rfl
  | x :: a, y :: b => by
    show (PyData.eqv (.int x) (.int y) && PyData.eqvAll (a.map PyData.int) (b.map PyData.int)) = _
    rw [eqv_ints a b]
    show ((x == y) && decide (a = b)) = _
    by_cases h1 : x = y
    · by_cases h2 : a = b
      · simp [h1, h2]
      · simp [h1, h2]
    · simp [h1]
theorem okD_ints (ns : List Int) : okD (.lst (ns.map D.int)) = true := by
  unfold okD
  rw [D.pl, plAll_ints, D.py, pyAll_ints]
  show (true && SeqAt.shaped (.list (ns.map PyData.int))) = true
  unfold SeqAt.shaped
  rw [PyData.canLay0, lay_ints]
  have := depth_ints ns
  simp [PyData.depth]
  omega
theorem ne_ints (a b : List Int) : neM (.lst (a.map D.int)) (.lst (b.map D.int)) = some (.bl (!decide (a = b))) := by
  unfold neM eqB
  have e : sEq (.lst (a.map D.int)) (.lst (b.map D.int)) = none := rfl
  rw [e]
  simp only [okD_ints, Bool.and_self, if_true, Option.map_some, D.py, pyAll_ints, PyData.eqv, eqv_ints]
theorem eq_ints (a b : List Int) : eqM (.lst (a.map D.int)) (.lst (b.map D.int)) = some (.bl (decide (a = b))) := by
  unfold eqM eqB
  have e : sEq (.lst (a.map D.int)) (.lst (b.map D.int)) = none := rfl
  rw [e]
  simp only [okD_ints, Bool.and_self, if_true, Option.map_some, D.py, pyAll_ints, PyData.eqv, eqv_ints]
theorem allFlat_ints (a : List Int) : (a.map D.int).all flatD = true := by
  rw [List.all_map]; simp [Function.comp_def, flatD]
theorem inB_ints (x : Int) (a : List Int) : inB (.int x) (a.map D.int) = decide (x ∈ a) := by
  unfold inB
  induction a with
  | nil => rfl
  | cons y r ih =>
    rw [List.map_cons, List.any_cons, ih]
    show ((y == x) || decide (x ∈ r)) = _
    by_cases h1 : y = x
    · simp [h1]
    · have h2 : x ≠ y := fun z => h1 z.symm
      simp [h1, h2]
theorem in_ints (x : Int) (a : List Int) : inM (.int x) (.lst (a.map D.int)) = some (.bl (decide (x ∈ a))) := by
  show (if (flatD (.int x) && (a.map D.int).all flatD) = true then some (D.bl (if false = true then !inB (.int x) (a.map D.int) else inB (.int x) (a.map D.int))) else none) = _
  rw [allFlat_ints, inB_ints]
  simp [flatD]
theorem lindex_ints (x : Int) (a : List Int) : lindexM (.lst (a.map D.int)) [.int x] = (a.findIdx? fun y => y == x).map fun j => .int (j : Nat) := by
  show (if (flatD (.int x) && (a.map D.int).all flatD) = true then ((a.map D.int).findIdx? fun z => eqFD z (.int x)).map fun j => D.int (j : Nat) else none) = _
  rw [allFlat_ints]
  simp only [flatD, Bool.and_self, if_true, List.findIdx?_map]
  rfl
end MD

set_option Elab.async false
set_option linter.all false
set_option maxRecDepth 100000
set_option maxHeartbeats 1000000
namespace MD
open PySem L2

/-! ### what a drawn value is, and how many draws it takes -/
def Yes {α : Type} (c : Nat) (o : S → Option (α × S)) (P : α → Prop) : Prop :=
  ∀ st : S, 0 ≤ st.n → st.n + (c : Int) ≤ nMax → ∃ a st', o st = some (a, st') ∧ P a ∧ st.n ≤ st'.n ∧ st'.n ≤ st.n + (c : Int)
section
variable {α β : Type} {c c' : Nat} {P Q : α → Prop}
theorem Yes.pure {a : α} (h : P a) : Yes 0 (fun st => some (a, st)) P := fun st h0 h1 => ⟨a, st, rfl, h, Int.le_refl _, by simp⟩
theorem Yes.of_eq {o : S → Option (α × S)} {a : α} (e : ∀ st, o st = some (a, st)) (h : P a) : Yes 0 o P := fun st h0 h1 => ⟨a, st, e st, h, Int.le_refl _, by simp⟩
theorem Yes.mono {o : S → Option (α × S)} (h : Yes c o P) (hc : c ≤ c') (hp : ∀ a, P a → Q a) : Yes c' o Q := fun st h0 h1 => by
  obtain ⟨a, st', e, p, l1, l2⟩ := h st h0 (by omega)
  exact ⟨a, st', e, hp a p, l1, by omega⟩
theorem Yes.bind {o : S → Option (α × S)} {g : α × S → Option (β × S)} {R : β → Prop} (h : Yes c o P) (hg : ∀ a, P a → Yes c' (fun st => g (a, st)) R) : Yes (c + c') (fun st => (o st).bind g) R := fun st h0 h1 => by
  obtain ⟨a, s1, e, p, l1, l2⟩ := h st h0 (by omega)
  obtain ⟨b, s2, e2, r, l3, l4⟩ := hg a p s1 (by omega) (by omega)
  exact ⟨b, s2, by show (o st).bind g = _; rw [e]; exact e2, r, by omega, by omega⟩
theorem Yes.map {o : S → Option (α × S)} {g : α × S → β × S} {R : β → Prop} {k : α → β} (h : Yes c o P) (hk : ∀ a st, g (a, st) = (k a, st)) (hg : ∀ a, P a → R (k a)) : Yes c (fun st => (o st).map g) R := fun st h0 h1 => by
  obtain ⟨a, s1, e, p, l1, l2⟩ := h st h0 h1
  exact ⟨k a, s1, by show (o st).map g = _; rw [e]; show some (g (a, s1)) = _; rw [hk], hg a p, l1, l2⟩
theorem Yes.congr {o o' : S → Option (α × S)} (h : Yes c o P) (e : ∀ st, o' st = o st) : Yes c o' P := fun st h0 h1 => by
  rw [e st]; exact h st h0 h1
end
theorem drawT_n (many : Int) (st : S) : (drawT many st).n = st.n + 1 := by unfold drawT; split <;> rfl
theorem drawV_lt {c : DC} {many : Int} (h : 0 < many) (st : S) : 0 ≤ drawV c many st ∧ drawV c many st < many := by
  unfold drawV
  split <;> exact ⟨Int.emod_nonneg _ (by omega), Int.emod_lt_of_pos _ h⟩
theorem draw_yes {c : DC} {many : Int} (h1 : 0 < many) (h2 : many < 1073741824) : Yes 1 (drawM c [.deck, .int many]) fun d => ∃ r : Int, d = .int r ∧ 0 ≤ r ∧ r < many := fun st h0 hn => by
  have := drawV_lt (c := c) h1 st
  refine ⟨_, drawT many st, ?_, ⟨_, rfl, this.1, this.2⟩, ?_, ?_⟩
  · unfold drawM
    exact if_pos ⟨h1, h2, h0, by omega⟩
  · rw [drawT_n]; omega
  · rw [drawT_n]; omega

/-! ### comprehensions and loops -/
theorem compL_pure {t : MG} {c : MT} {f : ME} {env : Sg} {st : S} (P : D → Bool) (g : D → D) : ∀ (ds : List D), (∀ d ∈ ds, ∃ e, t d env = some e ∧ c e st = some (P d, st) ∧ (P d = true → f e st = some (g d, st))) →
    compL t c f env ds st = some ((ds.filter P).map g, st)
  | [], _ => rfl
  | d :: ds, h => by
    obtain ⟨e, h1, h2, h3⟩ := h d List.mem_cons_self
    have ih := compL_pure P g ds fun x hx => h x (List.mem_cons_of_mem _ hx)
    rw [v_compL, h1]
    simp only [Option.bind_some, h2]
    cases hp : P d with
    | true => simp [h3 hp, ih, hp]
    | false => simp [ih, hp]
theorem compL_map {t : MG} {f : ME} {env : Sg} {st : S} (g : D → D) (ds : List D) (h : ∀ d ∈ ds, ∃ e, t d env = some e ∧ f e st = some (g d, st)) : compL t yesM f env ds st = some (ds.map g, st) := by
  have := compL_pure (t := t) (c := yesM) (f := f) (env := env) (st := st) (fun _ => true) g ds fun d hd => by
    obtain ⟨e, h1, h2⟩ := h d hd
    exact ⟨e, h1, rfl, fun _ => h2⟩
  rw [this]
  congr 2
  rw [List.filter_eq_self.mpr (by simp)]
theorem compL_yes {t : MG} {f : ME} {env : Sg} {k : Nat} {P : D → Prop} : ∀ (ds : List D), (∀ d ∈ ds, ∃ e, t d env = some e ∧ Yes k (f e) P) → Yes (ds.length * k) (compL t yesM f env ds) fun l => l.length = ds.length ∧ ∀ x ∈ l, P x
  | [], _ => (Yes.of_eq (fun _ => rfl) ⟨rfl, fun _ h => nomatch h⟩).mono (Nat.zero_le _) fun _ h => h
  | d :: ds, h => by
    obtain ⟨e, h1, h2⟩ := h d List.mem_cons_self
    have ih := compL_yes ds fun x hx => h x (List.mem_cons_of_mem _ hx)
    intro st h0 hn
    have en : ((d :: ds).length * k : Nat) = k + ds.length * k := by rw [List.length_cons, Nat.succ_mul]; omega
    rw [en] at hn ⊢
    obtain ⟨y, s1, e1, p1, l1, l2⟩ := h2 st h0 (by omega)
    obtain ⟨l, s2, e2, p2, l3, l4⟩ := ih s1 (by omega) (by omega)
    refine ⟨y :: l, s2, ?_, ⟨by simp [p2.1], fun x hx => ?_⟩, by omega, by omega⟩
    · rw [v_compL, h1]
      simp [e1, e2]
    · rcases List.mem_cons.mp hx with z | z
      · rw [z]; exact p1
      · exact p2.2 x z
/-- a loop that keeps I and always goes on -/
theorem forL_yes {t : MG} {b : MS} {k : Nat} {I : Sg → Prop} : ∀ (ds : List D) (env : Sg), I env → (∀ d ∈ ds, ∀ env, I env → ∃ e, t d env = some e ∧ Yes k (b e) fun fl => ∃ e', fl = .nx e' ∧ I e') →
    Yes (ds.length * k) (forL t b ds env) fun fl => ∃ e, fl = .nx e ∧ I e
  | [], env, hi, _ => (Yes.of_eq (fun _ => rfl) ⟨env, rfl, hi⟩).mono (Nat.zero_le _) fun _ h => h
  | d :: ds, env, hi, h => by
    obtain ⟨e, h1, h2⟩ := h d List.mem_cons_self env hi
    intro st h0 hn
    have en : ((d :: ds).length * k : Nat) = k + ds.length * k := by rw [List.length_cons, Nat.succ_mul]; omega
    rw [en] at hn ⊢
    obtain ⟨fl, s1, e1, ⟨e', rfl, i1⟩, l1, l2⟩ := h2 st h0 (by omega)
    obtain ⟨fl2, s2, e2, p2, l3, l4⟩ := forL_yes ds e' i1 (fun x hx => h x (List.mem_cons_of_mem _ hx)) s1 (by omega) (by omega)
    refine ⟨fl2, s2, ?_, p2, by omega, by omega⟩
    rw [v_forL, h1]
    simp [e1, e2]
theorem yes_seq {f h : MS} {env : Sg} {c c' : Nat} {R : Sg → Prop} {Q : Fl → Prop} (h1 : Yes c (f env) fun fl => ∃ e, fl = .nx e ∧ R e) (h2 : ∀ e, R e → Yes c' (h e) Q) : Yes (c + c') (seqM f h env) Q := by
  refine (Yes.bind h1 (g := fun x => match x.1 with | .nx e => h e x.2 | fl => some (fl, x.2)) fun fl hfl => ?_).congr fun st => rfl
  obtain ⟨e, rfl, r⟩ := hfl
  exact h2 e r
theorem yes_asg {i : Nat} {f : ME} {env : Sg} {c : Nat} {P : D → Prop} (h : Yes c (f env) P) : Yes c (asgM (nameT i) f env) fun fl => ∃ e, fl = .nx e ∧ ∃ d, P d ∧ e = env.set i (.val d) :=
  (Yes.map h (k := fun d => Fl.nx (env.set i (.val d))) (g := fun p => (Fl.nx (env.set i (.val p.1)), p.2)) (fun _ _ => rfl) fun d hd => ⟨_, rfl, d, hd, rfl⟩).congr fun st => by
    simp only [v_asgM, v_nameT, Option.map_some]
    cases f env st <;> rfl
end MD

set_option Elab.async false
set_option linter.all false
set_option maxRecDepth 100000
set_option maxHeartbeats 4000000
namespace Lw
open PySem PySem.Spec PyProof.Rows L2 MD
/-! ### the text -/
def topS (i : Nat) : Stmt := PySem.Challenge.pw_unitlimits_k42_whole_fewest_parts.main.body.getD i (.Pass ⟨0, 0, 0, 0⟩)
abbrev s__law_deck : Stmt := topS 5
theorem sc__law_deck : FnScope ["_law_script", "_law_cell"] ["_law_script"] (defScope s__law_deck) := ⟨rfl, rfl, rfl, by decide +kernel, rfl, by decide +kernel, by decide +kernel⟩
abbrev s__law_draw : Stmt := topS 6
theorem sc__law_draw : FnScope ["_law_deck_here", "_law_most", "_law_cell", "_law_at", "_law_mixed"] ["_law_deck_here", "_law_most"] (defScope s__law_draw) := ⟨rfl, rfl, rfl, by decide +kernel, rfl, by decide +kernel, by decide +kernel⟩
abbrev s__law_one : Stmt := topS 7
theorem sc__law_one : FnScope ["_law_deck_here", "_law_items"] ["_law_deck_here", "_law_items"] (defScope s__law_one) := ⟨rfl, rfl, rfl, by decide +kernel, rfl, by decide +kernel, by decide +kernel⟩
abbrev s__law_unit : Stmt := topS 13
theorem sc__law_unit : FnScope ["_law_deck_here", "_law_letters", "_law_least", "_law_k"] ["_law_deck_here", "_law_letters", "_law_least"] (defScope s__law_unit) := ⟨rfl, rfl, rfl, by decide +kernel, rfl, by decide +kernel, by decide +kernel⟩
abbrev s__law_units : Stmt := topS 16
theorem sc__law_units : FnScope ["_law_deck_here", "_law_letters", "_law_k"] ["_law_deck_here", "_law_letters"] (defScope s__law_units) := ⟨rfl, rfl, rfl, by decide +kernel, rfl, by decide +kernel, by decide +kernel⟩
abbrev s__law_cut : Stmt := topS 14
theorem sc__law_cut : FnScope ["_law_deck_here", "_law_letters", "_law_units_here", "_law_most", "_law_clings", "_law_letter"] ["_law_deck_here", "_law_letters", "_law_units_here", "_law_most"] (defScope s__law_cut) := ⟨rfl, rfl, rfl, by decide +kernel, rfl, by decide +kernel, by decide +kernel⟩
abbrev s_cut_place : Stmt := topS 2
theorem sc_cut_place : FnScope ["units", "cut", "word", "unit", "most", "clings", "found", "count", "place", "letter"] ["units", "cut", "word"] (defScope s_cut_place) := ⟨rfl, rfl, rfl, by decide +kernel, rfl, by decide +kernel, by decide +kernel⟩
abbrev s_parts : Stmt := topS 3
theorem sc_parts : FnScope ["units", "cut", "word", "found", "place"] ["units", "cut", "word"] (defScope s_parts) := ⟨rfl, rfl, rfl, by decide +kernel, rfl, by decide +kernel, by decide +kernel⟩
abbrev s__law_count : Stmt := topS 12
theorem sc__law_count : FnScope ["_law_unit_here", "_law_word", "_law_letter"] ["_law_unit_here", "_law_word"] (defScope s__law_count) := ⟨rfl, rfl, rfl, by decide +kernel, rfl, by decide +kernel, by decide +kernel⟩
abbrev s__law_fewest : Stmt := topS 19
theorem sc__law_fewest : FnScope ["_law_unit_here", "_law_cut_here", "_law_word", "_law_best", "_law_end", "_law_some", "_law_begin"] ["_law_unit_here", "_law_cut_here", "_law_word"] (defScope s__law_fewest) := ⟨rfl, rfl, rfl, by decide +kernel, rfl, by decide +kernel, by decide +kernel⟩
abbrev s_law : Stmt := topS 20
theorem sc_law : FnScope ["_law_script", "_law_deck_here", "_law_turn", "_law_letters", "_law_units_here", "_law_cut_here", "_law_word", "_law_told", "_law_due", "_law_k", "_law_piece"] ["_law_script"] (defScope s_law) := ⟨rfl, rfl, rfl, by decide +kernel, rfl, by decide +kernel, by decide +kernel⟩
structure Txt (K : Fg) (mg : Str → Option Value) : Prop where
  n_len : mg "len" = none
  n_tuple : mg "tuple" = none
  n_range : mg "range" = none
  n_enumerate : mg "enumerate" = none
  c_LETTERS : ∃ t, mg "LETTERS" = some (.str "abcd" t)
  n_sum : mg "sum" = none
  n_min : mg "min" = none
  n_int : mg "int" = none
  n_abs : mg "abs" = none
/-! ### mirrors -/
def dc : DC := ⟨2147483399, 5501, 9, 2147483549⟩
def m__law_draw : MF := drawM dc
noncomputable def b__law_one : MS :=
 (retM (opM ixM (rd 1) (callM m__law_draw (aCons (rd 0) (aCons (cbM lenM (aCons (rd 1) aNil)) aNil)))))
noncomputable def m__law_one : MF := runM 2 b__law_one
noncomputable def b__law_unit : MS :=
 (retM (cbM tupleM (aCons (frz (compM (r1M (aCons (rd 1) aNil)) (nameT 3) yesM (callM m__law_one (aCons (rd 0) (aCons (frz (lstM (aCons (rd 2) (aCons (cst (.int 1)) (aCons (cst (.int 1)) (aCons (cst (.int 2)) (aCons (cst (.int 3)) (aCons (opM addM (callM m__law_draw (aCons (rd 0) (aCons (cst (.int 9)) aNil))) (cst (.int 1))) aNil)))))))) aNil))) [3])) aNil)))
noncomputable def m__law_unit : MF := runM 4 b__law_unit
noncomputable def b__law_units : MS :=
 (retM (cbM tupleM (aCons (frz (compM (r1M (aCons (opM addM (cst (.int 1)) (callM m__law_draw (aCons (rd 0) (aCons (cst (.int 2)) aNil)))) aNil)) (nameT 2) yesM (callM m__law_unit (aCons (rd 0) (aCons (rd 1) (aCons (cst (.int 0)) aNil)))) [2])) aNil)))
noncomputable def m__law_units : MF := runM 3 b__law_units
noncomputable def b__law_cut : MS :=
 (seqM (asgM (nameT 4) (m1M joinM (cst (.str "")) (frz (compM (seqI (slM slAny (cst (.str "abcd")) noP (prt (rd 1)))) (nameT 5) (tstM (opM eqM (callM m__law_draw (aCons (rd 0) (aCons (cst (.int 4)) aNil))) (cst (.int 0)))) (rd 5) [5]))))
 (retM (tupM (aCons (callM m__law_draw (aCons (rd 0) (aCons (cbM lenM (aCons (rd 2) aNil)) aNil))) (aCons (callM m__law_draw (aCons (rd 0) (aCons (opM addM (rd 3) (cst (.int 1))) aNil))) (aCons (rd 4) aNil))))))
noncomputable def m__law_cut : MF := runM 6 b__law_cut
noncomputable def b_cut_place : MS :=
 (seqM (asgM (tupT 3 (consT (nameT 3) (consT (nameT 4) (consT (nameT 5) nilT)))) (rd 1))
 (seqM (asgM (tupT 2 (consT (nameT 6) (consT (nameT 7) nilT))) (tupM (aCons (cst (.int 0)) (aCons (cst (.int 0)) aNil))))
 (seqM (forM (enumI (rd 2)) (tupT 2 (consT (nameT 8) (consT (nameT 9) nilT)))
 (seqM (ifS (tstM (opM notInM (rd 9) (rd 5)))
 (asgM (nameT 6) (rd 8))
 nxM)
 (seqM (augM 7 (iI fun i j => .int (i + j)) (opM ixM (opM ixM (rd 0) (rd 3)) (m1M sindexM (cst (.str "abcd")) (rd 9))))
 (ifS (tstM (opM gtM (rd 7) (rd 4)))
 (retM (rd 6))
 nxM))))
 (retM (cbM lenM (aCons (rd 2) aNil))))))
noncomputable def m_cut_place : MF := runM 10 b_cut_place
noncomputable def b_parts : MS :=
 (seqM (ownM 3 (lstM aNil))
 (seqM (whM (tstM (opM neM (rd 2) (cst (.str ""))))
 (seqM (asgM (nameT 4) (callM m_cut_place (aCons (rd 0) (aCons (rd 1) (aCons (rd 2) aNil)))))
 (seqM (ifS (tstM (opM eqM (rd 4) (cst (.int 0))))
 (retM (cst .non))
 nxM)
 (seqM (appM 3 (slM slAny (rd 2) noP (prt (rd 4))))
 (asgM (nameT 2) (slM slAny (rd 2) (prt (rd 4)) noP))))))
 (retM (cbM tupleM (aCons (rdW 3) aNil)))))
noncomputable def m_parts : MF := runM 5 b_parts
noncomputable def b__law_count : MS :=
 (retM (cbM sumM (aCons (frz (compM (seqI (rd 1)) (nameT 2) yesM (opM ixM (rd 0) (m1M sindexM (cst (.str "abcd")) (rd 2))) [2])) aNil)))
noncomputable def m__law_count : MF := runM 3 b__law_count
noncomputable def b__law_fewest : MS :=
 (seqM (dispM 3 (pCons (cst (.int 0)) (cst (.int 0)) pNil))
 (seqM (forM (r2M (aCons (cst (.int 1)) (aCons (opM addM (cbM lenM (aCons (rd 2) aNil)) (cst (.int 1))) aNil))) (nameT 4)
 (ifS (orM (tstM (opM eqM (rd 4) (cbM lenM (aCons (rd 2) aNil)))) (tstM (opM notInM (opM ixM (rd 2) (rd 4)) (opM ixM (rd 1) (cst (.int 2))))))
 (seqM (asgM (nameT 5) (frz (lckM 3 (compM (keysM 3) (nameT 6) (tstM (opM leM (callM m__law_count (aCons (rd 0) (aCons (slM slAny (rd 2) (prt (rd 6)) (prt (rd 4))) aNil))) (opM ixM (rd 1) (cst (.int 1))))) (dgetM 3 (rd 6)) [6]))))
 (ifS (tstM (opM neM (rd 5) (frz (lstM aNil))))
 (dputM 3 (rd 4) (opM addM (cbM minM (aCons (rd 5) aNil)) (cst (.int 1))))
 nxM))
 nxM))
 (retM (dget1M 3 (cbM lenM (aCons (rd 2) aNil))))))
noncomputable def m__law_fewest : MF := runM 7 b__law_fewest
noncomputable def b_law : MS :=
 (seqM (forM (r1M (aCons (cst (.int 20)) aNil)) (nameT 2)
 (seqM (asgM (nameT 3) (opM addM (cst (.int 1)) (callM m__law_draw (aCons (rd 1) (aCons (cst (.int 4)) aNil)))))
 (seqM (asgM (nameT 4) (callM m__law_units (aCons (rd 1) (aCons (rd 3) aNil))))
 (seqM (asgM (nameT 5) (callM m__law_cut (aCons (rd 1) (aCons (rd 3) (aCons (rd 4) (aCons (cst (.int 20)) aNil))))))
 (seqM (asgM (nameT 6) (m1M joinM (cst (.str "")) (frz (compM (r1M (aCons (callM m__law_one (aCons (rd 1) (aCons (frz (lstM (aCons (cst (.int 0)) (aCons (cst (.int 1)) (aCons (cst (.int 5)) (aCons (callM m__law_draw (aCons (rd 1) (aCons (cst (.int 41)) aNil))) aNil)))))) aNil))) aNil)) (nameT 9) yesM (callM m__law_one (aCons (rd 1) (aCons (slM slAny (cst (.str "abcd")) noP (prt (rd 3))) aNil))) [9]))))
 (seqM (parM 7 8 (aCons (callM m_parts (aCons (rd 4) (aCons (rd 5) (aCons (rd 6) aNil)))) (aCons (callM m__law_fewest (aCons (opM ixM (rd 4) (opM ixM (rd 5) (cst (.int 0)))) (aCons (rd 5) (aCons (rd 6) aNil)))) aNil)))
 (seqM (ifS (tstM (opM neM (opM isM (rd 7) (cst .non)) (opM isM (rd 8) (cst .non))))
 (retM (cst (.bl false)))
 nxM)
 (ifS (tstM (opM isNotM (rd 7) (cst .non)))
 (seqM (ifS (orM (tstM (opM neM (cbM lenM (aCons (rd 7) aNil)) (rd 8))) (orM (tstM (opM neM (m1M joinM (cst (.str "")) (rd 7)) (rd 6))) (tstM (opM inM (cst (.str "")) (rd 7)))))
 (retM (cst (.bl false)))
 nxM)
 (seqM (ifS (tstM (opM neM (frz (compM (seqI (rd 7)) (nameT 10) (tstM (opM gtM (callM m__law_count (aCons (opM ixM (rd 4) (opM ixM (rd 5) (cst (.int 0)))) (aCons (rd 10) aNil))) (opM ixM (rd 5) (cst (.int 1))))) (rd 10) [10])) (frz (lstM aNil))))
 (retM (cst (.bl false)))
 nxM)
 (ifS (tstM (opM neM (frz (compM (seqI (slM slAny (rd 7) (prt (cst (.int 1))) noP)) (nameT 10) (tstM (opM inM (opM ixM (rd 10) (cst (.int 0))) (opM ixM (rd 5) (cst (.int 2))))) (rd 10) [10])) (frz (lstM aNil))))
 (retM (cst (.bl false)))
 nxM)))
 nxM))))))))
 (retM (cst (.bl true))))
/-! ### the defs keep them -/
section
variable {P : Program} {w : World} {K : Fg} {mg : Str → Option Value} {base : Heap}
theorem ok__law_deck (T : Txt K mg) {f : Addr} {fd : FuncData} (Fn : Fun K "_law_deck" "_law_deck" s__law_deck f fd)  : FnG P w K mg base 1 f fd ["_law_script"] (spDeck K) :=
  fn_deck Fn sc__law_deck rfl rfl fun cdv A outer s H E => by
  refine (pss_one (ps_ret (pe_lst (pa_cons (pe_lc (own := [("_law_cell", 1)]) (g := gName 1) rfl sc__law_deck.nd (pi_list (pe_slice sl_list (pv 0) po_none (po_some pe_int))) (blkOk_by (own := [("_law_cell", 1)]) (N := ["_law_script", "_law_cell"]) (sc := defScope s__law_deck) (by decide +kernel)) (fun _ _ _ _ _ => pg_name (i := 1) sc__law_deck.nd rfl (Or.inl rfl)) (fun _ _ _ _ _ => pts_nil) (fun _ _ _ _ _ => pe_callB call_abs (by rfl) T.n_abs (by decide +kernel) (pa_cons (pv 1) pa_nil))) (pa_cons pe_int pa_nil)))))
theorem ok__law_draw (T : Txt K mg) {f : Addr} {fd : FuncData} (Fn : Fun K "_law_draw" "_law_draw" s__law_draw f fd)  : FnG P w K mg base 1 f fd ["_law_deck_here", "_law_most"] (spD K 2 m__law_draw) :=
  fn_draw (c := dc) (by unfold DC.ok dc; decide) Fn sc__law_draw rfl rfl fun cdv A outer s H E => by
  refine (pss_cons (ps_asg (pe_op op_add (pe_ix ix_seq (pv 0) pe_int (fun _ _ => rfl)) pe_int) (pg_sub (pv 0) pe_int set_list))
 (pss_cons (ps_asg (pe_tup (pa_cons pe_int (pa_cons (pe_un un_neg pe_int) pa_nil))) (pg_tup rfl (pgs_cons (pg_name (i := 2) sc__law_draw.nd rfl (Or.inl rfl)) (pgs_cons (pg_name (i := 3) sc__law_draw.nd rfl (Or.inl rfl)) pgs_nil))))
 (pss_cons (ps_if (pt_cmpR op_gt (pe_callB call_len (by rfl) T.n_len (by decide +kernel) (pa_cons (pe_ix ix_seq (pv 0) pe_int (fun _ _ => rfl)) pa_nil)) pe_int (nomark _))
   (pss_cons (ps_set (i := 3) sc__law_draw.nd rfl (Or.inl rfl) (pe_op op_mod (pe_callTy call_int1 (by rfl) T.n_int (by decide +kernel) (pa_cons (pe_ix ix_seq (pv 0) pe_int (fun _ _ => rfl)) pa_nil)) (pe_callB call_len (by rfl) T.n_len (by decide +kernel) (pa_cons (pe_ix ix_seq (pv 0) pe_int (fun _ _ => rfl)) pa_nil)))) (pss_one (ps_set (i := 2) sc__law_draw.nd rfl (Or.inl rfl) (pe_ix ix_seq (pe_ix ix_seq (pv 0) pe_int (fun _ _ => rfl)) (pv 3) (fun _ _ => rfl))))) pss_nil)
 (pss_cons (ps_if (pt_cmpR op_ge (pv 2) (pe_op op_pow pe_int pe_int) (nomark _))
   (pss_cons (ps_asg (pe_op op_fdiv (pe_callTy call_int1 (by rfl) T.n_int (by decide +kernel) (pa_cons (pv 2) pa_nil)) (pv 1)) (pg_sub (pe_ix ix_seq (pv 0) pe_int (fun _ _ => rfl)) (pv 3) set_list)) (pss_one (ps_ret (pe_op op_mod (pe_callTy call_int1 (by rfl) T.n_int (by decide +kernel) (pa_cons (pv 2) pa_nil)) (pv 1))))) pss_nil)
 (pss_cons (ps_set (i := 4) sc__law_draw.nd rfl (Or.inl rfl) (pe_op op_add (pe_op op_add (pe_op op_mod (pe_callTy call_int1 (by rfl) T.n_int (by decide +kernel) (pa_cons (pv 2) pa_nil)) pe_int) (pe_op op_mul pe_int (pe_ix ix_seq (pv 0) pe_int (fun _ _ => rfl)))) pe_int))
 (pss_one (ps_ret (pe_op op_mod (pe_callTy call_int1 (by rfl) T.n_int (by decide +kernel) (pa_cons (pe_op op_mod (pe_callTy call_int1 (by rfl) T.n_int (by decide +kernel) (pa_cons (pe_op op_pow (pv 4) pe_int) pa_nil)) pe_int) pa_nil)) (pv 1)))))))))
theorem ok__law_one (T : Txt K mg) {f : Addr} {fd : FuncData} (Fn : Fun K "_law_one" "_law_one" s__law_one f fd) (c__law_draw : Cal P w K mg base 1 "_law_draw" ["_law_deck_here", "_law_most"] (spD K 2 m__law_draw)) : FnG P w K mg base 2 f fd ["_law_deck_here", "_law_items"] (spD K 2 m__law_one) :=
  fnD Fn sc__law_one (by decide) fun cdv A outer s H E hr gd => ⟨_, (pss_one (ps_ret (pe_ix ix_seq (pv 1) (pe_callC c__law_draw hr gd (by rfl) (pa_cons (pv 0) (pa_cons (pe_callB call_len (by rfl) T.n_len (by decide +kernel) (pa_cons (pv 1) pa_nil)) pa_nil))) (fun _ _ => rfl)))),
 (is_ret (im_op ro_ix ((im_var 1)).w ((im_call (ia_cons (im_var 0) (ia_cons (im_cb rc_len (iaw_cons ((im_var 1)).w iaw_nil)) ia_nil)) (an_cons (an_cons an_nil)))).w))⟩
theorem ok__law_unit (T : Txt K mg) {f : Addr} {fd : FuncData} (Fn : Fun K "_law_unit" "_law_unit" s__law_unit f fd) (c__law_draw : Cal P w K mg base 1 "_law_draw" ["_law_deck_here", "_law_most"] (spD K 2 m__law_draw)) (c__law_one : Cal P w K mg base 2 "_law_one" ["_law_deck_here", "_law_items"] (spD K 2 m__law_one)) : FnG P w K mg base 3 f fd ["_law_deck_here", "_law_letters", "_law_least"] (spD K 3 m__law_unit) :=
  fnD Fn sc__law_unit (by decide) fun cdv A outer s H E hr gd => ⟨_, (pss_one (ps_ret (pe_callTy (call_tupA rfl) (by rfl) T.n_tuple (by decide +kernel) (pa_cons (pe_lc (own := [("_law_k", 3)]) (g := (gName 3)) rfl sc__law_unit.nd (pi_range1 (by rfl) T.n_range (pa_cons (pv 1) pa_nil)) (blkOk_by (own := [("_law_k", 3)]) (N := ["_law_deck_here", "_law_letters", "_law_least", "_law_k"]) (sc := defScope s__law_unit) (by decide +kernel)) (fun _ _ _ _ _ => (pg_name (i := 3) sc__law_unit.nd rfl (Or.inl rfl))) (fun _ _ _ _ _ => pts_nil) (fun _ _ _ _ _ => (pe_callC c__law_one hr gd (by rfl) (pa_cons (pv 0) (pa_cons (pe_lst (pa_cons (pv 2) (pa_cons pe_int (pa_cons pe_int (pa_cons pe_int (pa_cons pe_int (pa_cons (pe_op op_addA (pe_callC c__law_draw hr gd (by rfl) (pa_cons (pv 0) (pa_cons pe_int pa_nil))) pe_int) pa_nil))))))) pa_nil))))) pa_nil)))),
 (is_ret (im_cb rc_tupA (iaw_cons ((if_comp (vs := [3]) (ii_range1 (iaw_cons ((im_var 1)).w iaw_nil)) (ig_name 3) it_yes (im_call (ia_cons (im_var 0) (ia_cons ((if_lst (ia_cons (im_var 2) (ia_cons im_int (ia_cons im_int (ia_cons im_int (ia_cons im_int (ia_cons (im_op ro_addA ((im_call (ia_cons (im_var 0) (ia_cons im_int ia_nil)) (an_cons (an_cons an_nil)))).w (im_int).w) ia_nil)))))))).im ia_nil)) (an_cons (an_cons an_nil))) (by decide))).w iaw_nil)))⟩
theorem ok__law_units (T : Txt K mg) {f : Addr} {fd : FuncData} (Fn : Fun K "_law_units" "_law_units" s__law_units f fd) (c__law_draw : Cal P w K mg base 1 "_law_draw" ["_law_deck_here", "_law_most"] (spD K 2 m__law_draw)) (c__law_unit : Cal P w K mg base 3 "_law_unit" ["_law_deck_here", "_law_letters", "_law_least"] (spD K 3 m__law_unit)) : FnG P w K mg base 4 f fd ["_law_deck_here", "_law_letters"] (spD K 2 m__law_units) :=
  fnD Fn sc__law_units (by decide) fun cdv A outer s H E hr gd => ⟨_, (pss_one (ps_ret (pe_callTy (call_tupA rfl) (by rfl) T.n_tuple (by decide +kernel) (pa_cons (pe_lc (own := [("_law_k", 2)]) (g := (gName 2)) rfl sc__law_units.nd (pi_range1 (by rfl) T.n_range (pa_cons (pe_op op_addA pe_int (pe_callC c__law_draw hr gd (by rfl) (pa_cons (pv 0) (pa_cons pe_int pa_nil)))) pa_nil)) (blkOk_by (own := [("_law_k", 2)]) (N := ["_law_deck_here", "_law_letters", "_law_k"]) (sc := defScope s__law_units) (by decide +kernel)) (fun _ _ _ _ _ => (pg_name (i := 2) sc__law_units.nd rfl (Or.inl rfl))) (fun _ _ _ _ _ => pts_nil) (fun _ _ _ _ _ => (pe_callC c__law_unit hr gd (by rfl) (pa_cons (pv 0) (pa_cons (pv 1) (pa_cons pe_int pa_nil)))))) pa_nil)))),
 (is_ret (im_cb rc_tupA (iaw_cons ((if_comp (vs := [2]) (ii_range1 (iaw_cons ((im_op ro_addA (im_int).w ((im_call (ia_cons (im_var 0) (ia_cons im_int ia_nil)) (an_cons (an_cons an_nil)))).w)).w iaw_nil)) (ig_name 2) it_yes (im_call (ia_cons (im_var 0) (ia_cons (im_var 1) (ia_cons im_int ia_nil))) (an_cons (an_cons (an_cons an_nil)))) (by decide))).w iaw_nil)))⟩
theorem ok__law_cut (T : Txt K mg) {f : Addr} {fd : FuncData} (Fn : Fun K "_law_cut" "_law_cut" s__law_cut f fd) (c__law_draw : Cal P w K mg base 1 "_law_draw" ["_law_deck_here", "_law_most"] (spD K 2 m__law_draw)) : FnG P w K mg base 2 f fd ["_law_deck_here", "_law_letters", "_law_units_here", "_law_most"] (spD K 4 m__law_cut) :=
  fnD Fn sc__law_cut (by decide) fun cdv A outer s H E hr gd => ⟨_, (pss_cons (ps_set (i := 4) sc__law_cut.nd rfl (Or.inl rfl) (pe_join pe_str (pe_lc (own := [("_law_letter", 5)]) (g := (gName 5)) rfl sc__law_cut.nd (pi_seq (pe_slice sl_any pe_str po_none (po_some (pv 1)))) (blkOk_by (own := [("_law_letter", 5)]) (N := ["_law_deck_here", "_law_letters", "_law_units_here", "_law_most", "_law_clings", "_law_letter"]) (sc := defScope s__law_cut) (by decide +kernel)) (fun _ _ _ _ _ => (pg_name (i := 5) sc__law_cut.nd rfl (Or.inl rfl))) (fun _ _ _ _ _ => (pts_one (pt_cmpR (op_eqA hr.units) (pe_callC c__law_draw hr gd (by rfl) (pa_cons (pv 0) (pa_cons pe_int pa_nil))) pe_int (nomark _)))) (fun _ _ _ _ _ => (pv 5)))))
 (pss_one (ps_ret (pe_tup (pa_cons (pe_callC c__law_draw hr gd (by rfl) (pa_cons (pv 0) (pa_cons (pe_callB call_len (by rfl) T.n_len (by decide +kernel) (pa_cons (pv 2) pa_nil)) pa_nil))) (pa_cons (pe_callC c__law_draw hr gd (by rfl) (pa_cons (pv 0) (pa_cons (pe_op op_addA (pv 3) pe_int) pa_nil))) (pa_cons (pv 4) pa_nil))))))),
 (is_seq (is_asg (im_m1 rm_join (im_str).w ((if_comp (vs := [5]) (ii_seq (im_sl rs_any (im_str).w io_none (io_some ((im_var 1)).w))) (ig_name 5) (it_test (im_op ro_eq ((im_call (ia_cons (im_var 0) (ia_cons im_int ia_nil)) (an_cons (an_cons an_nil)))).w (im_int).w)) (im_var 5) (by decide))).w) (ig_name 4))
 (is_ret (im_tup (ia_cons (im_call (ia_cons (im_var 0) (ia_cons (im_cb rc_len (iaw_cons ((im_var 2)).w iaw_nil)) ia_nil)) (an_cons (an_cons an_nil))) (ia_cons (im_call (ia_cons (im_var 0) (ia_cons (im_op ro_addA ((im_var 3)).w (im_int).w) ia_nil)) (an_cons (an_cons an_nil))) (ia_cons (im_var 4) ia_nil))))))⟩
theorem ok_cut_place (T : Txt K mg) {f : Addr} {fd : FuncData} (Fn : Fun K "cut_place" "cut_place" s_cut_place f fd)  : FnG P w K mg base 1 f fd ["units", "cut", "word"] (spD K 3 m_cut_place) :=
  fnD Fn sc_cut_place (by decide) fun cdv A outer s H E hr gd => ⟨_, (pss_cons (ps_asg (pv 1) (pg_tup rfl (pgs_cons (pg_name (i := 3) sc_cut_place.nd rfl (Or.inl rfl)) (pgs_cons (pg_name (i := 4) sc_cut_place.nd rfl (Or.inl rfl)) (pgs_cons (pg_name (i := 5) sc_cut_place.nd rfl (Or.inl rfl)) pgs_nil)))))
 (pss_cons (ps_asg (pe_tup (pa_cons pe_int (pa_cons pe_int pa_nil))) (pg_tup rfl (pgs_cons (pg_name (i := 6) sc_cut_place.nd rfl (Or.inl rfl)) (pgs_cons (pg_name (i := 7) sc_cut_place.nd rfl (Or.inl rfl)) pgs_nil))))
 (pss_cons (ps_for PassesOwn.never rfl (pi_enumA (by rfl) T.n_enumerate (pa_cons (pv 2) pa_nil)) (pg_tup rfl (pgs_cons (pg_name (i := 8) sc_cut_place.nd rfl (Or.inl rfl)) (pgs_cons (pg_name (i := 9) sc_cut_place.nd rfl (Or.inl rfl)) pgs_nil)))
 (pss_cons (ps_if (pt_cmpR op_notInA (pv 9) (pv 5) (by rfl))
 (pss_one (ps_set (i := 6) sc_cut_place.nd rfl (Or.inl rfl) (pv 8)))
 pss_nil)
 (pss_cons (ps_aug (i := 7) sc_cut_place.nd rfl (Or.inl rfl) (pe_ix ix_seq (pe_ix ix_seq (pv 0) (pv 3) (fun _ _ => rfl)) (pe_m1 PySem.F.slot_str_index PySem.F.type_str_index mt_sindex (pe_gstr (by rfl) T.c_LETTERS) (pv 9)) (fun _ _ => rfl)) ip_add)
 (pss_one (ps_if (pt_cmpR op_gt (pv 7) (pv 4) (nomark _))
 (pss_one (ps_ret (pv 6)))
 pss_nil)))))
 (pss_one (ps_ret (pe_callB call_len (by rfl) T.n_len (by decide +kernel) (pa_cons (pv 2) pa_nil))))))),
 (is_seq (is_asg (im_var 1) (ig_tup (igs_cons (ig_name 3) (igs_cons (ig_name 4) (igs_cons (ig_name 5) igs_nil)))))
 (is_seq (is_asg (im_tup (ia_cons im_int (ia_cons im_int ia_nil))) (ig_tup (igs_cons (ig_name 6) (igs_cons (ig_name 7) igs_nil))))
 (is_seq (is_for (ii_enum (im_var 2)) (ig_tup (igs_cons (ig_name 8) (igs_cons (ig_name 9) igs_nil)))
 (is_seq (is_if (it_test (im_op ro_notIn ((im_var 9)).w ((im_var 5)).w))
 (is_asg (im_var 8) (ig_name 6))
 is_next)
 (is_seq (is_aug 7 ro_ipAdd ((im_op ro_ix ((im_op ro_ix ((im_var 0)).w ((im_var 3)).w)).w ((im_m1 rm_sindex (im_str).w ((im_var 9)).w)).w)).w)
 (is_if (it_test (im_op ro_gt ((im_var 7)).w ((im_var 4)).w))
 (is_ret (im_var 6))
 is_next))))
 (is_ret (im_cb rc_len (iaw_cons ((im_var 2)).w iaw_nil))))))⟩
theorem ok_parts (T : Txt K mg) {f : Addr} {fd : FuncData} (Fn : Fun K "parts" "parts" s_parts f fd) (c_cut_place : Cal P w K mg base 1 "cut_place" ["units", "cut", "word"] (spD K 3 m_cut_place)) : FnG P w K mg base 2 f fd ["units", "cut", "word"] (spD K 3 m_parts) :=
  fnD Fn sc_parts (by decide) fun cdv A outer s H E hr gd => ⟨_, (pss_cons (ps_set (i := 3) sc_parts.nd rfl (Or.inl rfl) (pe_lst pa_nil))
 (pss_cons (ps_while PassesOwn.never (pt_cmpR (op_neA hr.units) (pv 2) pe_str (nomark _))
 (pss_cons (ps_set (i := 4) sc_parts.nd rfl (Or.inl rfl) (pe_callC c_cut_place hr gd (by rfl) (pa_cons (pv 0) (pa_cons (pv 1) (pa_cons (pv 2) pa_nil)))))
 (pss_cons (ps_if (pt_cmpR (op_eqA hr.units) (pv 4) pe_int (nomark _))
 (pss_one (ps_ret pe_non))
 pss_nil)
 (pss_cons (ps_expr (pe_bm PySem.F.plainAttrs_list PySem.F.slot_list_append PySem.F.type_list_append mt_append (pv 3) (pa_cons (pe_slice sl_any (pv 2) po_none (po_some (pv 4))) pa_nil)))
 (pss_one (ps_set (i := 2) sc_parts.nd rfl (Or.inl rfl) (pe_slice sl_any (pv 2) (po_some (pv 4)) po_none)))))))
 (pss_one (ps_ret (pe_callTy (call_tupA rfl) (by rfl) T.n_tuple (by decide +kernel) (pa_cons (pv 3) pa_nil)))))),
 (is_seq (is_own 3 (if_lst ia_nil))
 (is_seq (is_while (it_test (im_op ro_ne ((im_var 2)).w (im_str).w))
 (is_seq (is_asg (im_call (ia_cons (im_var 0) (ia_cons (im_var 1) (ia_cons (im_var 2) ia_nil))) (an_cons (an_cons (an_cons an_nil)))) (ig_name 4))
 (is_seq (is_if (it_test (im_op ro_eq ((im_var 4)).w (im_int).w))
 (is_ret im_non)
 is_next)
 (is_seq (is_app 3 (im_sl rs_any ((im_var 2)).w io_none (io_some ((im_var 4)).w)))
 (is_asg (im_sl rs_any ((im_var 2)).w (io_some ((im_var 4)).w) io_none) (ig_name 2))))))
 (is_ret (im_cb rc_tupA (iaw_cons (im_own 3) iaw_nil)))))⟩
theorem ok__law_count (T : Txt K mg) {f : Addr} {fd : FuncData} (Fn : Fun K "_law_count" "_law_count" s__law_count f fd)  : FnG P w K mg base 1 f fd ["_law_unit_here", "_law_word"] (spD K 2 m__law_count) :=
  fnD Fn sc__law_count (by decide) fun cdv A outer s H E hr gd => ⟨_, (pss_one (ps_ret (pe_callB (cr_sum rfl) (by rfl) T.n_sum (by decide +kernel) (pa_cons (pe_lc (own := [("_law_letter", 2)]) (g := (gName 2)) rfl sc__law_count.nd (pi_seq (pv 1)) (blkOk_by (own := [("_law_letter", 2)]) (N := ["_law_unit_here", "_law_word", "_law_letter"]) (sc := defScope s__law_count) (by decide +kernel)) (fun _ _ _ _ _ => (pg_name (i := 2) sc__law_count.nd rfl (Or.inl rfl))) (fun _ _ _ _ _ => pts_nil) (fun _ _ _ _ _ => (pe_ix ix_seq (pv 0) (pe_m1 PySem.F.slot_str_index PySem.F.type_str_index mt_sindex pe_str (pv 2)) (fun _ _ => rfl)))) pa_nil)))),
 (is_ret (im_cb rc_sum (iaw_cons ((if_comp (vs := [2]) (ii_seq (im_var 1)) (ig_name 2) it_yes (im_op ro_ix ((im_var 0)).w ((im_m1 rm_sindex (im_str).w ((im_var 2)).w)).w) (by decide))).w iaw_nil)))⟩
theorem ok__law_fewest (T : Txt K mg) {f : Addr} {fd : FuncData} (Fn : Fun K "_law_fewest" "_law_fewest" s__law_fewest f fd) (c__law_count : Cal P w K mg base 1 "_law_count" ["_law_unit_here", "_law_word"] (spD K 2 m__law_count)) : FnG P w K mg base 2 f fd ["_law_unit_here", "_law_cut_here", "_law_word"] (spD K 3 m__law_fewest) :=
  fnD Fn sc__law_fewest (by decide) fun cdv A outer s H E hr gd => ⟨_, (pss_cons (ps_set (i := 3) sc__law_fewest.nd rfl (Or.inr rfl) (pe_disp (pps_cons pe_int pe_int pps_nil) (by rfl) (by rfl) (fun z => nomatch z) (by decide)))
 (pss_cons (ps_for PassesOwn.never rfl (pi_range2 (by rfl) T.n_range (pa_cons pe_int (pa_cons (pe_op op_addA (pe_callB call_len (by rfl) T.n_len (by decide +kernel) (pa_cons (pv 2) pa_nil)) pe_int) pa_nil))) (pg_name (i := 4) sc__law_fewest.nd rfl (Or.inr rfl))
 (pss_one (ps_if (PW.pt (pw_or (pt_cmpR (op_eqA hr.units) (pv 4) (pe_callB call_len (by rfl) T.n_len (by decide +kernel) (pa_cons (pv 2) pa_nil)) (nomark _)) (pw_or1 (pt_cmpR op_notInA (pe_ix ix_seq (pv 2) (pv 4) (fun _ _ => rfl)) (pe_ix ix_seq (pv 1) pe_int (fun _ _ => rfl)) (by rfl)))))
 (pss_cons (lckA (ps_lock (ps_setLc (i := 5) (own := [("_law_begin", 6)]) (g := (gName 6)) rfl sc__law_fewest.nd rfl rfl (sw_true rfl rfl rfl (by decide +kernel)) (pi_keys (pv 3)) (blkOk_by (own := [("_law_begin", 6)]) (N := ["_law_unit_here", "_law_cut_here", "_law_word", "_law_best", "_law_end", "_law_some", "_law_begin"]) (sc := defScope s__law_fewest) (by decide +kernel)) (fun _ _ _ _ _ => (pg_name (i := 6) sc__law_fewest.nd rfl (Or.inl rfl))) (fun _ _ _ _ _ => (pts_one (pt_cmpR op_le (pe_callC c__law_count hr gd (by rfl) (pa_cons (pv 0) (pa_cons (pe_slice sl_any (pv 2) (po_some (pv 6)) (po_some (pv 4))) pa_nil))) (pe_ix ix_seq (pv 1) pe_int (fun _ _ => rfl)) (nomark _)))) (fun _ _ _ _ _ => (pe_dget (units1 hr.units) (pv 3) (pv 6) (fun _ _ => rfl))))))
 (pss_one (ps_if (pt_cmpR (op_neA hr.units) (pv 5) (pe_lst pa_nil) (nomark _))
 (pss_one (ps_dput (units1 hr.units) (pv 3) (pv 4) (pe_op op_addA (pe_callB (cr_min rfl) (by rfl) T.n_min (by decide +kernel) (pa_cons (pv 5) pa_nil)) pe_int) (by rfl)))
 pss_nil)))
 pss_nil)))
 (pss_one (ps_ret (pe_dget1 (units1 hr.units) (pv 3) (pe_callB call_len (by rfl) T.n_len (by decide +kernel) (pa_cons (pv 2) pa_nil)) ⟨by rfl, by rfl, by rfl, by rfl⟩))))),
 (is_seq (is_disp 3 (ip_cons im_int im_int ip_nil))
 (is_seq (is_for (ii_range2 (iaw_cons (im_int).w (iaw_cons ((im_op ro_addA ((im_cb rc_len (iaw_cons ((im_var 2)).w iaw_nil))).w (im_int).w)).w iaw_nil))) (ig_name 4)
 (is_if (it_or (it_test (im_op ro_eq ((im_var 4)).w ((im_cb rc_len (iaw_cons ((im_var 2)).w iaw_nil))).w)) (it_test (im_op ro_notIn ((im_op ro_ix ((im_var 2)).w ((im_var 4)).w)).w ((im_op ro_ix ((im_var 1)).w (im_int).w)).w)))
 (is_seq (is_asg ((if_lck 3 (if_compX (vs := [6]) (ix_keys 3) (ig_name 6) (it_test (im_op ro_le ((im_call (ia_cons (im_var 0) (ia_cons (im_sl rs_any ((im_var 2)).w (io_some ((im_var 6)).w) (io_some ((im_var 4)).w)) ia_nil)) (an_cons (an_cons an_nil)))).w ((im_op ro_ix ((im_var 1)).w (im_int).w)).w)) (im_dget 3 ((im_var 6)).w) (by decide)))).im (ig_name 5))
 (is_if (it_test (im_op ro_ne ((im_var 5)).w ((if_lst ia_nil)).w))
 (is_dput 3 ((im_var 4)).w (im_op ro_addA ((im_cb rc_min (iaw_cons ((im_var 5)).w iaw_nil))).w (im_int).w))
 is_next))
 is_next))
 (is_ret (im_dget1 3 ((im_cb rc_len (iaw_cons ((im_var 2)).w iaw_nil))).w))))⟩
theorem ok_law (T : Txt K mg) {f : Addr} {fd : FuncData} (Fn : Fun K "law" "law" s_law f fd) (c__law_deck : Cal P w K mg base 1 "_law_deck" ["_law_script"] (spDeck K)) (c__law_draw : Cal P w K mg base 1 "_law_draw" ["_law_deck_here", "_law_most"] (spD K 2 m__law_draw)) (c__law_units : Cal P w K mg base 4 "_law_units" ["_law_deck_here", "_law_letters"] (spD K 2 m__law_units)) (c__law_cut : Cal P w K mg base 2 "_law_cut" ["_law_deck_here", "_law_letters", "_law_units_here", "_law_most"] (spD K 4 m__law_cut)) (c__law_one : Cal P w K mg base 2 "_law_one" ["_law_deck_here", "_law_items"] (spD K 2 m__law_one)) (c_parts : Cal P w K mg base 2 "parts" ["units", "cut", "word"] (spD K 3 m_parts)) (c__law_fewest : Cal P w K mg base 2 "_law_fewest" ["_law_unit_here", "_law_cut_here", "_law_word"] (spD K 3 m__law_fewest)) (c__law_count : Cal P w K mg base 1 "_law_count" ["_law_unit_here", "_law_word"] (spD K 2 m__law_count)) (hb : ∀ ns : List Int, ns.length ≤ 63 → ∃ s1, b_law (env0 11) ⟨ns.map absI, 0⟩ = some (.rt (.bl true), s1)) : FnG P w K mg base 5 f fd ["_law_script"] (spLaw K) :=
  fn_law Fn sc_law (by decide) rfl hb fun cdv A outer s H E hr gd => ⟨_, pss_cons (ps_set (i := 1) sc_law.nd rfl (Or.inr rfl) (pe_callC c__law_deck hr gd (by rfl) (pa_cons (pv 0) pa_nil)))
 (pss_cons (ps_for PassesOwn.never rfl (pi_range1 (by rfl) T.n_range (pa_cons pe_int pa_nil)) (pg_name (i := 2) sc_law.nd rfl (Or.inl rfl))
 (pss_cons (ps_set (i := 3) sc_law.nd rfl (Or.inr rfl) (pe_op op_addA pe_int (pe_callC c__law_draw hr gd (by rfl) (pa_cons (pv 1) (pa_cons pe_int pa_nil)))))
 (pss_cons (ps_set (i := 4) sc_law.nd rfl (Or.inr rfl) (pe_callC c__law_units hr gd (by rfl) (pa_cons (pv 1) (pa_cons (pv 3) pa_nil))))
 (pss_cons (ps_set (i := 5) sc_law.nd rfl (Or.inr rfl) (pe_callC c__law_cut hr gd (by rfl) (pa_cons (pv 1) (pa_cons (pv 3) (pa_cons (pv 4) (pa_cons pe_int pa_nil))))))
 (pss_cons (ps_set (i := 6) sc_law.nd rfl (Or.inl rfl) (pe_join pe_str (pe_lc (own := [("_law_k", 9)]) (g := (gName 9)) rfl sc_law.nd (pi_range1 (by rfl) T.n_range (pa_cons (pe_callC c__law_one hr gd (by rfl) (pa_cons (pv 1) (pa_cons (pe_lst (pa_cons pe_int (pa_cons pe_int (pa_cons pe_int (pa_cons (pe_callC c__law_draw hr gd (by rfl) (pa_cons (pv 1) (pa_cons pe_int pa_nil))) pa_nil))))) pa_nil))) pa_nil)) (blkOk_by (own := [("_law_k", 9)]) (N := ["_law_script", "_law_deck_here", "_law_turn", "_law_letters", "_law_units_here", "_law_cut_here", "_law_word", "_law_told", "_law_due", "_law_k", "_law_piece"]) (sc := defScope s_law) (by decide +kernel)) (fun _ _ _ _ _ => (pg_name (i := 9) sc_law.nd rfl (Or.inl rfl))) (fun _ _ _ _ _ => pts_nil) (fun _ _ _ _ _ => (pe_callC c__law_one hr gd (by rfl) (pa_cons (pv 1) (pa_cons (pe_slice sl_any pe_str po_none (po_some (pv 3))) pa_nil)))))))
 (pss_cons (ps_par (i := 7) (j := 8) rfl sc_law.nd rfl rfl (by decide) rfl rfl (pa_cons (pe_callC c_parts hr gd (by rfl) (pa_cons (pv 4) (pa_cons (pv 5) (pa_cons (pv 6) pa_nil)))) (pa_cons (pe_callC c__law_fewest hr gd (by rfl) (pa_cons (pe_ix ix_seq (pv 4) (pe_ix ix_seq (pv 5) pe_int (fun _ _ => rfl)) (fun _ _ => rfl)) (pa_cons (pv 5) (pa_cons (pv 6) pa_nil)))) pa_nil)) (by rfl))
 (pss_cons (ps_if (pt_cmpR (op_neA hr.units) (pe_cmpR op_isN (pv 7) pe_non (nomark _)) (pe_cmpR op_isN (pv 8) pe_non (nomark _)) (nomark _))
 (pss_one (ps_ret pe_bl))
 pss_nil)
 (pss_one (ps_if (pt_cmpR op_notN (pv 7) pe_non (nomark _))
 (pss_cons (ps_if (PW.pt (pw_or (pt_cmpR (op_neA hr.units) (pe_callB call_len (by rfl) T.n_len (by decide +kernel) (pa_cons (pv 7) pa_nil)) (pv 8) (nomark _)) (pw_or (pt_cmpR (op_neA hr.units) (pe_join pe_str (pv 7)) (pv 6) (nomark _)) (pw_or1 (pt_cmpR op_inA pe_str (pv 7) (by rfl))))))
 (pss_one (ps_ret pe_bl))
 pss_nil)
 (pss_cons (ps_if (pt_cmpR (op_neA hr.units) (pe_lc (own := [("_law_piece", 10)]) (g := (gName 10)) rfl sc_law.nd (pi_seq (pv 7)) (blkOk_by (own := [("_law_piece", 10)]) (N := ["_law_script", "_law_deck_here", "_law_turn", "_law_letters", "_law_units_here", "_law_cut_here", "_law_word", "_law_told", "_law_due", "_law_k", "_law_piece"]) (sc := defScope s_law) (by decide +kernel)) (fun _ _ _ _ _ => (pg_name (i := 10) sc_law.nd rfl (Or.inl rfl))) (fun _ _ _ _ _ => (pts_one (pt_cmpR op_gt (pe_callC c__law_count hr gd (by rfl) (pa_cons (pe_ix ix_seq (pv 4) (pe_ix ix_seq (pv 5) pe_int (fun _ _ => rfl)) (fun _ _ => rfl)) (pa_cons (pv 10) pa_nil))) (pe_ix ix_seq (pv 5) pe_int (fun _ _ => rfl)) (nomark _)))) (fun _ _ _ _ _ => (pv 10))) (pe_lst pa_nil) (nomark _))
 (pss_one (ps_ret pe_bl))
 pss_nil)
 (pss_one (ps_if (pt_cmpR (op_neA hr.units) (pe_lc (own := [("_law_piece", 10)]) (g := (gName 10)) rfl sc_law.nd (pi_seq (pe_slice sl_any (pv 7) (po_some pe_int) po_none)) (blkOk_by (own := [("_law_piece", 10)]) (N := ["_law_script", "_law_deck_here", "_law_turn", "_law_letters", "_law_units_here", "_law_cut_here", "_law_word", "_law_told", "_law_due", "_law_k", "_law_piece"]) (sc := defScope s_law) (by decide +kernel)) (fun _ _ _ _ _ => (pg_name (i := 10) sc_law.nd rfl (Or.inl rfl))) (fun _ _ _ _ _ => (pts_one (pt_cmpR op_inA (pe_ix ix_seq (pv 10) pe_int (fun _ _ => rfl)) (pe_ix ix_seq (pv 5) pe_int (fun _ _ => rfl)) (by rfl)))) (fun _ _ _ _ _ => (pv 10))) (pe_lst pa_nil) (nomark _))
 (pss_one (ps_ret pe_bl))
 pss_nil))))
 pss_nil)))))))))
 (pss_one (ps_ret pe_bl))),
 (is_seq (is_for (ii_range1 (iaw_cons (im_int).w iaw_nil)) (ig_name 2)
 (is_seq (is_asg (im_op ro_addA (im_int).w ((im_call (ia_cons (im_var 1) (ia_cons im_int ia_nil)) (an_cons (an_cons an_nil)))).w) (ig_name 3))
 (is_seq (is_asg (im_call (ia_cons (im_var 1) (ia_cons (im_var 3) ia_nil)) (an_cons (an_cons an_nil))) (ig_name 4))
 (is_seq (is_asg (im_call (ia_cons (im_var 1) (ia_cons (im_var 3) (ia_cons (im_var 4) (ia_cons im_int ia_nil)))) (an_cons (an_cons (an_cons (an_cons an_nil))))) (ig_name 5))
 (is_seq (is_asg (im_m1 rm_join (im_str).w ((if_comp (vs := [9]) (ii_range1 (iaw_cons ((im_call (ia_cons (im_var 1) (ia_cons ((if_lst (ia_cons im_int (ia_cons im_int (ia_cons im_int (ia_cons (im_call (ia_cons (im_var 1) (ia_cons im_int ia_nil)) (an_cons (an_cons an_nil))) ia_nil)))))).im ia_nil)) (an_cons (an_cons an_nil)))).w iaw_nil)) (ig_name 9) it_yes (im_call (ia_cons (im_var 1) (ia_cons (im_sl rs_any (im_str).w io_none (io_some ((im_var 3)).w)) ia_nil)) (an_cons (an_cons an_nil))) (by decide))).w) (ig_name 6))
 (is_seq (is_par 7 8 (ia_cons (im_call (ia_cons (im_var 4) (ia_cons (im_var 5) (ia_cons (im_var 6) ia_nil))) (an_cons (an_cons (an_cons an_nil)))) (ia_cons (im_call (ia_cons (im_op ro_ix ((im_var 4)).w ((im_op ro_ix ((im_var 5)).w (im_int).w)).w) (ia_cons (im_var 5) (ia_cons (im_var 6) ia_nil))) (an_cons (an_cons (an_cons an_nil)))) ia_nil)))
 (is_seq (is_if (it_test (im_op ro_ne ((im_op ro_is ((im_var 7)).w (im_non).w)).w ((im_op ro_is ((im_var 8)).w (im_non).w)).w))
 (is_ret im_bl)
 is_next)
 (is_if (it_test (im_op ro_isNot ((im_var 7)).w (im_non).w))
 (is_seq (is_if (it_or (it_test (im_op ro_ne ((im_cb rc_len (iaw_cons ((im_var 7)).w iaw_nil))).w ((im_var 8)).w)) (it_or (it_test (im_op ro_ne ((im_m1 rm_join (im_str).w ((im_var 7)).w)).w ((im_var 6)).w)) (it_test (im_op ro_in (im_str).w ((im_var 7)).w))))
 (is_ret im_bl)
 is_next)
 (is_seq (is_if (it_test (im_op ro_ne ((if_comp (vs := [10]) (ii_seq (im_var 7)) (ig_name 10) (it_test (im_op ro_gt ((im_call (ia_cons (im_op ro_ix ((im_var 4)).w ((im_op ro_ix ((im_var 5)).w (im_int).w)).w) (ia_cons (im_var 10) ia_nil)) (an_cons (an_cons an_nil)))).w ((im_op ro_ix ((im_var 5)).w (im_int).w)).w)) (im_var 10) (by decide))).w ((if_lst ia_nil)).w))
 (is_ret im_bl)
 is_next)
 (is_if (it_test (im_op ro_ne ((if_comp (vs := [10]) (ii_seq (im_sl rs_any ((im_var 7)).w (io_some (im_int).w) io_none)) (ig_name 10) (it_test (im_op ro_in ((im_op ro_ix ((im_var 10)).w (im_int).w)).w ((im_op ro_ix ((im_var 5)).w (im_int).w)).w)) (im_var 10) (by decide))).w ((if_lst ia_nil)).w))
 (is_ret im_bl)
 is_next)))
 is_next))))))))
 (is_ret im_bl))⟩
end
/-! ### what the top has written -/
theorem all_mk {l : PySem.W.OpenLaw} {w : World} {K : Fg} {h : Heap} {mg : Str → Option Value} {fa : Addr} (hb : ∀ ns : List Int, ns.length ≤ 63 → ∃ s1, b_law (env0 11) ⟨ns.map absI, 0⟩ = some (.rt (.bl true), s1)) (X : K.In h) (G : h.Ns mainGlobals mg) (hfa : mg "law" = some (.ref fa))
    {f__law_deck : Addr} {odx0 anx0 : Option Addr} {slx0 : Array (Option Value)} {ocx0 kVx0 dcx0 pmx0 cdx0 ctx0 : Value} (ax0 : PySem.W.nsIn K mainGlobals "_law_deck" = some (some (.ref f__law_deck))) (lx0 : K.lookup f__law_deck = some ⟨ocx0, odx0, .func (PySem.W.fnOf "_law_deck" "_law_deck" (defArgs s__law_deck) (defBody s__law_deck) (defScope s__law_deck) .none kVx0 dcx0 pmx0 anx0 cdx0 ctx0), slx0⟩) (ccx0 : PySem.W.codeIn K cdx0 "_law_deck" = true) (kx0 : PySem.W.keepIn K (.ref f__law_deck) = true)
    {f__law_draw : Addr} {odx1 anx1 : Option Addr} {slx1 : Array (Option Value)} {ocx1 kVx1 dcx1 pmx1 cdx1 ctx1 : Value} (ax1 : PySem.W.nsIn K mainGlobals "_law_draw" = some (some (.ref f__law_draw))) (lx1 : K.lookup f__law_draw = some ⟨ocx1, odx1, .func (PySem.W.fnOf "_law_draw" "_law_draw" (defArgs s__law_draw) (defBody s__law_draw) (defScope s__law_draw) .none kVx1 dcx1 pmx1 anx1 cdx1 ctx1), slx1⟩) (ccx1 : PySem.W.codeIn K cdx1 "_law_draw" = true) (kx1 : PySem.W.keepIn K (.ref f__law_draw) = true)
    {f__law_one : Addr} {odx2 anx2 : Option Addr} {slx2 : Array (Option Value)} {ocx2 kVx2 dcx2 pmx2 cdx2 ctx2 : Value} (ax2 : PySem.W.nsIn K mainGlobals "_law_one" = some (some (.ref f__law_one))) (lx2 : K.lookup f__law_one = some ⟨ocx2, odx2, .func (PySem.W.fnOf "_law_one" "_law_one" (defArgs s__law_one) (defBody s__law_one) (defScope s__law_one) .none kVx2 dcx2 pmx2 anx2 cdx2 ctx2), slx2⟩) (ccx2 : PySem.W.codeIn K cdx2 "_law_one" = true) (kx2 : PySem.W.keepIn K (.ref f__law_one) = true)
    {f__law_unit : Addr} {odx3 anx3 : Option Addr} {slx3 : Array (Option Value)} {ocx3 kVx3 dcx3 pmx3 cdx3 ctx3 : Value} (ax3 : PySem.W.nsIn K mainGlobals "_law_unit" = some (some (.ref f__law_unit))) (lx3 : K.lookup f__law_unit = some ⟨ocx3, odx3, .func (PySem.W.fnOf "_law_unit" "_law_unit" (defArgs s__law_unit) (defBody s__law_unit) (defScope s__law_unit) .none kVx3 dcx3 pmx3 anx3 cdx3 ctx3), slx3⟩) (ccx3 : PySem.W.codeIn K cdx3 "_law_unit" = true) (kx3 : PySem.W.keepIn K (.ref f__law_unit) = true)
    {f__law_units : Addr} {odx4 anx4 : Option Addr} {slx4 : Array (Option Value)} {ocx4 kVx4 dcx4 pmx4 cdx4 ctx4 : Value} (ax4 : PySem.W.nsIn K mainGlobals "_law_units" = some (some (.ref f__law_units))) (lx4 : K.lookup f__law_units = some ⟨ocx4, odx4, .func (PySem.W.fnOf "_law_units" "_law_units" (defArgs s__law_units) (defBody s__law_units) (defScope s__law_units) .none kVx4 dcx4 pmx4 anx4 cdx4 ctx4), slx4⟩) (ccx4 : PySem.W.codeIn K cdx4 "_law_units" = true) (kx4 : PySem.W.keepIn K (.ref f__law_units) = true)
    {f__law_cut : Addr} {odx5 anx5 : Option Addr} {slx5 : Array (Option Value)} {ocx5 kVx5 dcx5 pmx5 cdx5 ctx5 : Value} (ax5 : PySem.W.nsIn K mainGlobals "_law_cut" = some (some (.ref f__law_cut))) (lx5 : K.lookup f__law_cut = some ⟨ocx5, odx5, .func (PySem.W.fnOf "_law_cut" "_law_cut" (defArgs s__law_cut) (defBody s__law_cut) (defScope s__law_cut) .none kVx5 dcx5 pmx5 anx5 cdx5 ctx5), slx5⟩) (ccx5 : PySem.W.codeIn K cdx5 "_law_cut" = true) (kx5 : PySem.W.keepIn K (.ref f__law_cut) = true)
    {f_cut_place : Addr} {odx6 anx6 : Option Addr} {slx6 : Array (Option Value)} {ocx6 kVx6 dcx6 pmx6 cdx6 ctx6 : Value} (ax6 : PySem.W.nsIn K mainGlobals "cut_place" = some (some (.ref f_cut_place))) (lx6 : K.lookup f_cut_place = some ⟨ocx6, odx6, .func (PySem.W.fnOf "cut_place" "cut_place" (defArgs s_cut_place) (defBody s_cut_place) (defScope s_cut_place) .none kVx6 dcx6 pmx6 anx6 cdx6 ctx6), slx6⟩) (ccx6 : PySem.W.codeIn K cdx6 "cut_place" = true) (kx6 : PySem.W.keepIn K (.ref f_cut_place) = true)
    {f_parts : Addr} {odx7 anx7 : Option Addr} {slx7 : Array (Option Value)} {ocx7 kVx7 dcx7 pmx7 cdx7 ctx7 : Value} (ax7 : PySem.W.nsIn K mainGlobals "parts" = some (some (.ref f_parts))) (lx7 : K.lookup f_parts = some ⟨ocx7, odx7, .func (PySem.W.fnOf "parts" "parts" (defArgs s_parts) (defBody s_parts) (defScope s_parts) .none kVx7 dcx7 pmx7 anx7 cdx7 ctx7), slx7⟩) (ccx7 : PySem.W.codeIn K cdx7 "parts" = true) (kx7 : PySem.W.keepIn K (.ref f_parts) = true)
    {f__law_count : Addr} {odx8 anx8 : Option Addr} {slx8 : Array (Option Value)} {ocx8 kVx8 dcx8 pmx8 cdx8 ctx8 : Value} (ax8 : PySem.W.nsIn K mainGlobals "_law_count" = some (some (.ref f__law_count))) (lx8 : K.lookup f__law_count = some ⟨ocx8, odx8, .func (PySem.W.fnOf "_law_count" "_law_count" (defArgs s__law_count) (defBody s__law_count) (defScope s__law_count) .none kVx8 dcx8 pmx8 anx8 cdx8 ctx8), slx8⟩) (ccx8 : PySem.W.codeIn K cdx8 "_law_count" = true) (kx8 : PySem.W.keepIn K (.ref f__law_count) = true)
    {f__law_fewest : Addr} {odx9 anx9 : Option Addr} {slx9 : Array (Option Value)} {ocx9 kVx9 dcx9 pmx9 cdx9 ctx9 : Value} (ax9 : PySem.W.nsIn K mainGlobals "_law_fewest" = some (some (.ref f__law_fewest))) (lx9 : K.lookup f__law_fewest = some ⟨ocx9, odx9, .func (PySem.W.fnOf "_law_fewest" "_law_fewest" (defArgs s__law_fewest) (defBody s__law_fewest) (defScope s__law_fewest) .none kVx9 dcx9 pmx9 anx9 cdx9 ctx9), slx9⟩) (ccx9 : PySem.W.codeIn K cdx9 "_law_fewest" = true) (kx9 : PySem.W.keepIn K (.ref f__law_fewest) = true)
    {f_law : Addr} {odx10 anx10 : Option Addr} {slx10 : Array (Option Value)} {ocx10 kVx10 dcx10 pmx10 cdx10 ctx10 : Value} (ax10 : PySem.W.nsIn K mainGlobals "law" = some (some (.ref f_law))) (lx10 : K.lookup f_law = some ⟨ocx10, odx10, .func (PySem.W.fnOf "law" "law" (defArgs s_law) (defBody s_law) (defScope s_law) .none kVx10 dcx10 pmx10 anx10 cdx10 ctx10), slx10⟩) (ccx10 : PySem.W.codeIn K cdx10 "law" = true) (kx10 : PySem.W.keepIn K (.ref f_law) = true)
    (z_n_len : PySem.W.nsIn K mainGlobals "len" = some none)
    (z_n_tuple : PySem.W.nsIn K mainGlobals "tuple" = some none)
    (z_n_range : PySem.W.nsIn K mainGlobals "range" = some none)
    (z_n_enumerate : PySem.W.nsIn K mainGlobals "enumerate" = some none)
    {t_c_LETTERS : Tok} (z_c_LETTERS : PySem.W.nsIn K mainGlobals "LETTERS" = some (some (.str "abcd" t_c_LETTERS)))
    (z_n_sum : PySem.W.nsIn K mainGlobals "sum" = some none)
    (z_n_min : PySem.W.nsIn K mainGlobals "min" = some none)
    (z_n_int : PySem.W.nsIn K mainGlobals "int" = some none)
    (z_n_abs : PySem.W.nsIn K mainGlobals "abs" = some none) :
    ∃ fd : FuncData, (∀ (s : Shared) (v : Value), BindsTo s fd ⟨[v], []⟩ [("_law_script", v)]) ∧ ∀ base : Heap, K.In base → base.Ns mainGlobals mg → FnG l.prog w K mg base 5 fa fd ["_law_script"] (spLaw K) := by
  have e := hfa.symm.trans (PySem.W.mg_of X G ax10)
  cases e
  have T : Txt K mg := ⟨PySem.W.mg_none_of X G z_n_len, PySem.W.mg_none_of X G z_n_tuple, PySem.W.mg_none_of X G z_n_range, PySem.W.mg_none_of X G z_n_enumerate, ⟨_, PySem.W.mg_of X G z_c_LETTERS⟩, PySem.W.mg_none_of X G z_n_sum, PySem.W.mg_none_of X G z_n_min, PySem.W.mg_none_of X G z_n_int, PySem.W.mg_none_of X G z_n_abs⟩
  refine ⟨PySem.W.fnOf "law" "law" (defArgs s_law) (defBody s_law) (defScope s_law) .none kVx10 dcx10 pmx10 anx10 cdx10 ctx10, fun s v => .of_eq rfl, fun base _ _ => ?_⟩
  have F__law_deck := fun_mk (st := s__law_deck) lx0 ccx0 kx0
  have b__law_deck := F__law_deck.binds (ps := ["_law_script"]) fun _ _ _ _ _ _ us hl => match us, hl with | [_], _ => rfl
  have C__law_deck : Cal l.prog w K mg base 1 "_law_deck" ["_law_script"] (spDeck K) := ⟨_, _, ok__law_deck T F__law_deck , PySem.W.mg_of X G ax0, F__law_deck.kp, b__law_deck⟩
  have F__law_draw := fun_mk (st := s__law_draw) lx1 ccx1 kx1
  have b__law_draw := F__law_draw.binds (ps := ["_law_deck_here", "_law_most"]) fun _ _ _ _ _ _ us hl => match us, hl with | [_, _], _ => rfl
  have C__law_draw : Cal l.prog w K mg base 1 "_law_draw" ["_law_deck_here", "_law_most"] (spD K 2 m__law_draw) := ⟨_, _, ok__law_draw T F__law_draw , PySem.W.mg_of X G ax1, F__law_draw.kp, b__law_draw⟩
  have F__law_one := fun_mk (st := s__law_one) lx2 ccx2 kx2
  have b__law_one := F__law_one.binds (ps := ["_law_deck_here", "_law_items"]) fun _ _ _ _ _ _ us hl => match us, hl with | [_, _], _ => rfl
  have C__law_one : Cal l.prog w K mg base 2 "_law_one" ["_law_deck_here", "_law_items"] (spD K 2 m__law_one) := ⟨_, _, ok__law_one T F__law_one C__law_draw, PySem.W.mg_of X G ax2, F__law_one.kp, b__law_one⟩
  have F__law_unit := fun_mk (st := s__law_unit) lx3 ccx3 kx3
  have b__law_unit := F__law_unit.binds (ps := ["_law_deck_here", "_law_letters", "_law_least"]) fun _ _ _ _ _ _ us hl => match us, hl with | [_, _, _], _ => rfl
  have C__law_unit : Cal l.prog w K mg base 3 "_law_unit" ["_law_deck_here", "_law_letters", "_law_least"] (spD K 3 m__law_unit) := ⟨_, _, ok__law_unit T F__law_unit C__law_draw C__law_one, PySem.W.mg_of X G ax3, F__law_unit.kp, b__law_unit⟩
  have F__law_units := fun_mk (st := s__law_units) lx4 ccx4 kx4
  have b__law_units := F__law_units.binds (ps := ["_law_deck_here", "_law_letters"]) fun _ _ _ _ _ _ us hl => match us, hl with | [_, _], _ => rfl
  have C__law_units : Cal l.prog w K mg base 4 "_law_units" ["_law_deck_here", "_law_letters"] (spD K 2 m__law_units) := ⟨_, _, ok__law_units T F__law_units C__law_draw C__law_unit, PySem.W.mg_of X G ax4, F__law_units.kp, b__law_units⟩
  have F__law_cut := fun_mk (st := s__law_cut) lx5 ccx5 kx5
  have b__law_cut := F__law_cut.binds (ps := ["_law_deck_here", "_law_letters", "_law_units_here", "_law_most"]) fun _ _ _ _ _ _ us hl => match us, hl with | [_, _, _, _], _ => rfl
  have C__law_cut : Cal l.prog w K mg base 2 "_law_cut" ["_law_deck_here", "_law_letters", "_law_units_here", "_law_most"] (spD K 4 m__law_cut) := ⟨_, _, ok__law_cut T F__law_cut C__law_draw, PySem.W.mg_of X G ax5, F__law_cut.kp, b__law_cut⟩
  have F_cut_place := fun_mk (st := s_cut_place) lx6 ccx6 kx6
  have b_cut_place := F_cut_place.binds (ps := ["units", "cut", "word"]) fun _ _ _ _ _ _ us hl => match us, hl with | [_, _, _], _ => rfl
  have C_cut_place : Cal l.prog w K mg base 1 "cut_place" ["units", "cut", "word"] (spD K 3 m_cut_place) := ⟨_, _, ok_cut_place T F_cut_place , PySem.W.mg_of X G ax6, F_cut_place.kp, b_cut_place⟩
  have F_parts := fun_mk (st := s_parts) lx7 ccx7 kx7
  have b_parts := F_parts.binds (ps := ["units", "cut", "word"]) fun _ _ _ _ _ _ us hl => match us, hl with | [_, _, _], _ => rfl
  have C_parts : Cal l.prog w K mg base 2 "parts" ["units", "cut", "word"] (spD K 3 m_parts) := ⟨_, _, ok_parts T F_parts C_cut_place, PySem.W.mg_of X G ax7, F_parts.kp, b_parts⟩
  have F__law_count := fun_mk (st := s__law_count) lx8 ccx8 kx8
  have b__law_count := F__law_count.binds (ps := ["_law_unit_here", "_law_word"]) fun _ _ _ _ _ _ us hl => match us, hl with | [_, _], _ => rfl
  have C__law_count : Cal l.prog w K mg base 1 "_law_count" ["_law_unit_here", "_law_word"] (spD K 2 m__law_count) := ⟨_, _, ok__law_count T F__law_count , PySem.W.mg_of X G ax8, F__law_count.kp, b__law_count⟩
  have F__law_fewest := fun_mk (st := s__law_fewest) lx9 ccx9 kx9
  have b__law_fewest := F__law_fewest.binds (ps := ["_law_unit_here", "_law_cut_here", "_law_word"]) fun _ _ _ _ _ _ us hl => match us, hl with | [_, _, _], _ => rfl
  have C__law_fewest : Cal l.prog w K mg base 2 "_law_fewest" ["_law_unit_here", "_law_cut_here", "_law_word"] (spD K 3 m__law_fewest) := ⟨_, _, ok__law_fewest T F__law_fewest C__law_count, PySem.W.mg_of X G ax9, F__law_fewest.kp, b__law_fewest⟩
  have F_law := fun_mk (st := s_law) lx10 ccx10 kx10
  exact ok_law T F_law C__law_deck C__law_draw C__law_units C__law_cut C__law_one C_parts C__law_fewest C__law_count hb
end Lw

set_option Elab.async false
set_option linter.all false
set_option maxRecDepth 100000
set_option maxHeartbeats 1000000
namespace Lw
open PySem MD
/-! ### words and units -/
def uu (us : List Int) (c : Nat) : Int := us.getD (c - 97) 0
def cnt (us : List Int) (ws : List Nat) : Int := (ws.map (uu us)).sum
def Lets (k : Nat) (ws : List Nat) : Prop := ∀ c ∈ ws, Let k c
abbrev tI (us : List Int) : D := .tup (us.map D.int)
theorem Let.four {k c : Nat} (h : Let k c) (hk : k ≤ 4) : Let 4 c := ⟨h.1, by have := h.2; omega⟩
theorem unit_at {us : List Int} {c : Nat} (h : Let us.length c) : L2.atI (us.map D.int) ((c - 97 : Nat) : Int) = some (.int (uu us c)) := by
  rw [atI_nn (by omega)]
  have h1 := h.1
  have h2 := h.2
  have hl : c - 97 < us.length := by omega
  simp only [Int.toNat_natCast, List.getElem?_map, List.getElem?_eq_getElem hl, Option.map_some]
  unfold uu
  rw [List.getD_eq_getElem?_getD, List.getElem?_eq_getElem hl]
  rfl
theorem count_comp {us : List Int} (h4 : us.length ≤ 4) (x : Sl) (st : S) : ∀ (ws : List Nat), Lets us.length ws →
    compL (nameT 2) yesM (opM ixM (rd 0) (m1M sindexM (cst (.str "abcd")) (rd 2))) [.val (tI us), x, .un] (ws.map fun c => D.str (W [c])) st = some ((ws.map (uu us)).map D.int, st)
  | [], _ => rfl
  | c :: ws, h => by
    have hc := h c List.mem_cons_self
    have ih := count_comp h4 x st ws fun d hd => h d (List.mem_cons_of_mem _ hd)
    rw [List.map_cons, v_compL]
    simp [idx_abcd (Let.four hc h4), unit_at hc, ih]
theorem count_ok {us : List Int} (h4 : us.length ≤ 4) {ws : List Nat} (hw : Lets us.length ws) (hz : ws.length ≤ 1000000) (st : S) : m__law_count [tI us, .str (W ws)] st = some (.int (cnt us ws), st) := by
  have h := count_comp h4 (.val (.str (W ws))) st ws hw
  simp [m__law_count, b__law_count, grd_of hz, Function.comp_def]
  rw [h]
  simp only [Option.map_some, Option.bind_some, v_sumM, intsOf_map]
  rfl
structure Fit (k : Nat) (uss : List (List Int)) (ws : List Nat) : Prop where
  k4 : k ≤ 4
  us : ∀ us ∈ uss, us.length = k ∧ ∀ x ∈ us, 0 ≤ x
  len : ws.length ≤ 60
  ws : Lets k ws
theorem Fit.sz {k : Nat} {uss : List (List Int)} {ws : List Nat} (h : Fit k uss ws) : ws.length ≤ 1000000 := Nat.le_trans h.len (by decide)
abbrev tU (uss : List (List Int)) : D := .tup (uss.map tI)
theorem uss_at {uss : List (List Int)} {r : Nat} {us : List Int} (h : uss[r]? = some us) : L2.atI (uss.map tI) ((r : Nat) : Int) = some (tI us) := by
  rw [atI_nn (by omega), Int.toNat_natCast, List.getElem?_map, h]; rfl
theorem W_at {ws : List Nat} {p c : Nat} (h : ws[p]? = some c) : L2.atI ws ((p : Nat) : Int) = some c := by
  rw [atI_nn (by omega), Int.toNat_natCast, h]
def un (uss : List (List Int)) (r : Nat) : List Int := uss.getD r []
theorem un_at {uss : List (List Int)} {r : Nat} (h : r < uss.length) : uss[r]? = some (un uss r) := by
  unfold un
  rw [List.getD_eq_getElem?_getD, List.getElem?_eq_getElem h]; rfl
theorem un_fit {k : Nat} {uss : List (List Int)} {ws : List Nat} (ft : Fit k uss ws) {r : Nat} (hr : r < uss.length) : (un uss r).length = k ∧ ∀ x ∈ un uss r, 0 ≤ x := ft.us _ (List.mem_of_getElem? (un_at hr))
theorem Lets.take {k : Nat} {ws : List Nat} (h : Lets k ws) (n : Nat) : Lets k (ws.take n) := fun c hc => h c (List.mem_of_mem_take hc)
theorem Lets.drop {k : Nat} {ws : List Nat} (h : Lets k ws) (n : Nat) : Lets k (ws.drop n) := fun c hc => h c (List.mem_of_mem_drop hc)
theorem Fit.take {k : Nat} {uss : List (List Int)} {ws : List Nat} (h : Fit k uss ws) (n : Nat) : Fit k uss (ws.take n) := ⟨h.k4, h.us, Nat.le_trans (by rw [List.length_take]; exact Nat.min_le_right _ _) h.len, h.ws.take n⟩
theorem Fit.drop {k : Nat} {uss : List (List Int)} {ws : List Nat} (h : Fit k uss ws) (n : Nat) : Fit k uss (ws.drop n) := ⟨h.k4, h.us, by have := h.len; rw [List.length_drop]; omega, h.ws.drop n⟩
/-! ### prefixes -/
theorem cnt_take_succ {us : List Int} {ws : List Nat} {p x : Nat} (h : ws[p]? = some x) : cnt us (ws.take (p + 1)) = cnt us (ws.take p) + uu us x := by
  unfold cnt
  rw [List.take_add_one, h, List.map_append, List.sum_append]
  simp
theorem uu_nn {us : List Int} (h : ∀ x ∈ us, 0 ≤ x) (c : Nat) : 0 ≤ uu us c := by
  unfold uu
  rw [List.getD_eq_getElem?_getD]
  cases e : us[c - 97]? with
  | none => simp
  | some x => exact h x (List.mem_of_getElem? e)
theorem cnt_mono {us : List Int} (h : ∀ x ∈ us, 0 ≤ x) {ws : List Nat} {p q : Nat} (hpq : p ≤ q) : cnt us (ws.take p) ≤ cnt us (ws.take q) := by
  induction hpq with
  | refl => exact Int.le_refl _
  | @step q hq ih =>
    cases e : ws[q]? with
    | none =>
      have hl : ws.length ≤ q := by
        by_cases hl : ws.length ≤ q
        · exact hl
        · rw [List.getElem?_eq_getElem (by omega)] at e; cases e
      rw [List.take_of_length_le (i := q + 1) (by omega)]
      rw [List.take_of_length_le hl] at ih
      exact ih
    | some x =>
      rw [cnt_take_succ e]
      have := uu_nn h x
      omega
/-! ### cuts -/
abbrev tC (u : Nat) (most : Int) (cl : List Nat) : D := .tup [.int ((u : Nat) : Int), .int most, .str (W cl)]
theorem notIn_W (x : Nat) (cl : List Nat) : notInM (.str (W [x])) (.str (W cl)) = some (.bl (!decide (x ∈ cl))) := by
  have e : signOf (W [x]) = some x := by unfold signOf; rw [W_list]
  unfold notInM notInSign
  simp [e]
def cpo (us : List Int) (most : Int) (cl : List Nat) : Nat → Int → Nat → List Nat → Option Nat
  | _, _, _, [] => none
  | f, c, k, x :: xs => if most < c + uu us x then some (if x ∈ cl then f else k) else cpo us most cl (if x ∈ cl then f else k) (c + uu us x) (k + 1) xs
def cp (us : List Int) (most : Int) (cl ws : List Nat) : Nat := (cpo us most cl 0 0 0 ws).getD ws.length
def cpB : MS := (seqM (ifS (tstM (opM notInM (rd 9) (rd 5)))
 (asgM (nameT 6) (rd 8))
 nxM)
 (seqM (augM 7 (iI fun i j => .int (i + j)) (opM ixM (opM ixM (rd 0) (rd 3)) (m1M sindexM (cst (.str "abcd")) (rd 9))))
 (ifS (tstM (opM gtM (rd 7) (rd 4)))
 (retM (rd 6))
 nxM)))
theorem cp_loop {uss : List (List Int)} {u : Nat} {us : List Int} (hu : uss[u]? = some us) (h4 : us.length ≤ 4) (x1 x2 : Sl) (most : Int) (cl : List Nat) (st : S) : ∀ (ws : List Nat) (f : Nat) (c : Int) (k : Nat) (s8 s9 : Sl), Lets us.length ws →
    (∀ p, cpo us most cl f c k ws = some p → forL (tupT 2 (consT (nameT 8) (consT (nameT 9) nilT))) cpB (((ws.map fun c => D.str (W [c])).zipIdx k).map fun p => .tup [.int ((p.2 : Nat) : Int), p.1]) [.val (tU uss), x1, x2, .val (.int (u : Nat)), .val (.int most), .val (.str (W cl)), .val (.int (f : Nat)), .val (.int c), s8, s9] st = some (.rt (.int (p : Nat)), st)) ∧
    (cpo us most cl f c k ws = none → ∃ f' c' s8' s9', forL (tupT 2 (consT (nameT 8) (consT (nameT 9) nilT))) cpB (((ws.map fun c => D.str (W [c])).zipIdx k).map fun p => .tup [.int ((p.2 : Nat) : Int), p.1]) [.val (tU uss), x1, x2, .val (.int (u : Nat)), .val (.int most), .val (.str (W cl)), .val (.int (f : Nat)), .val (.int c), s8, s9] st = some (.nx [.val (tU uss), x1, x2, .val (.int (u : Nat)), .val (.int most), .val (.str (W cl)), f', c', s8', s9'], st))
  | [], f, c, k, s8, s9, _ => ⟨fun p h => (by cases h), fun _ => ⟨_, _, _, _, rfl⟩⟩
  | x :: ws, f, c, k, s8, s9, h => by
    have hc := h x List.mem_cons_self
    obtain ⟨i1, i2⟩ := cp_loop hu h4 x1 x2 most cl st ws (if x ∈ cl then f else k) (c + uu us x) (k + 1) (.val (.int (k : Nat))) (.val (.str (W [x]))) fun d hd => h d (List.mem_cons_of_mem _ hd)
    have e : ∀ rest, forL (tupT 2 (consT (nameT 8) (consT (nameT 9) nilT))) cpB (.tup [.int ((k : Nat) : Int), .str (W [x])] :: rest) [.val (tU uss), x1, x2, .val (.int (u : Nat)), .val (.int most), .val (.str (W cl)), .val (.int (f : Nat)), .val (.int c), s8, s9] st =
        if most < c + uu us x then some (.rt (.int ((if x ∈ cl then f else k : Nat) : Nat)), st) else forL (tupT 2 (consT (nameT 8) (consT (nameT 9) nilT))) cpB rest [.val (tU uss), x1, x2, .val (.int (u : Nat)), .val (.int most), .val (.str (W cl)), .val (.int ((if x ∈ cl then f else k : Nat) : Nat)), .val (.int (c + uu us x)), .val (.int (k : Nat)), .val (.str (W [x]))] st := fun rest => by
      rw [v_forL]
      by_cases hm : x ∈ cl
      · by_cases hn : most < c + uu us x
        · simp [cpB, notIn_W, uss_at hu, idx_abcd (Let.four hc h4), unit_at hc, hn, hm]
        · simp [cpB, notIn_W, uss_at hu, idx_abcd (Let.four hc h4), unit_at hc, hn, hm]
      · by_cases hn : most < c + uu us x
        · simp [cpB, notIn_W, uss_at hu, idx_abcd (Let.four hc h4), unit_at hc, hn, hm]
        · simp [cpB, notIn_W, uss_at hu, idx_abcd (Let.four hc h4), unit_at hc, hn, hm]
    rw [List.map_cons, List.zipIdx_cons, List.map_cons, e]
    unfold cpo
    by_cases hn : most < c + uu us x
    · rw [if_pos hn, if_pos hn]
      exact ⟨fun p hp => (by cases hp; rfl), fun hp => (by cases hp)⟩
    · rw [if_neg hn, if_neg hn]
      exact ⟨i1, i2⟩
theorem cp_ok {k : Nat} {uss : List (List Int)} {ws : List Nat} (ft : Fit k uss ws) {u : Nat} (hu : u < uss.length) (most : Int) (cl : List Nat) (st : S) : m_cut_place [tU uss, tC u most cl, .str (W ws)] st = some (.int (cp (un uss u) most cl ws : Nat), st) := by
  have hf := un_fit ft hu
  obtain ⟨i1, i2⟩ := cp_loop (un_at hu) (by rw [hf.1]; exact ft.k4) (.val (tC u most cl)) (.val (.str (W ws))) most cl st ws 0 0 0 .un .un (by rw [hf.1]; exact ft.ws)
  have hb : b_cut_place = seqM (asgM (tupT 3 (consT (nameT 3) (consT (nameT 4) (consT (nameT 5) nilT)))) (rd 1))
    (seqM (asgM (tupT 2 (consT (nameT 6) (consT (nameT 7) nilT))) (tupM (aCons (cst (.int 0)) (aCons (cst (.int 0)) aNil))))
    (seqM (forM (enumI (rd 2)) (tupT 2 (consT (nameT 8) (consT (nameT 9) nilT))) cpB) (retM (cbM lenM (aCons (rd 2) aNil))))) := rfl
  unfold m_cut_place
  rw [hb]
  generalize hg : cpB = B at i1 i2
  simp [enumD, Function.comp_def, grd_of (show 2 ≤ 1000000 by decide)]
  unfold cp
  cases hr : cpo (un uss u) most cl 0 0 0 ws with
  | some p =>
    have := i1 p hr
    simp at this
    rw [this]
    simp
  | none =>
    obtain ⟨f', c', s8, s9, h⟩ := i2 hr
    simp at h
    rw [h]
    simp [grd_of ft.sz]
/-! ### borders -/
def isB (cl ws : List Nat) (p : Nat) : Bool := decide (p = 0) || (decide (p = ws.length) || !decide (ws.getD p 0 ∈ cl))
theorem cpo_spec {us : List Int} (h : ∀ x ∈ us, 0 ≤ x) {most : Int} {cl ws : List Nat} : ∀ (rest : List Nat) (k f : Nat), ws.drop k = rest → k ≤ ws.length → f ≤ k → isB cl ws f = true → (∀ q, f < q → q < k → isB cl ws q = false) → cnt us (ws.take k) ≤ most →
    ∀ j, (cpo us most cl f (cnt us (ws.take k)) k rest).getD ws.length = j → j ≤ ws.length ∧ isB cl ws j = true ∧ cnt us (ws.take j) ≤ most ∧ ∀ q, j < q → q ≤ ws.length → isB cl ws q = true → most < cnt us (ws.take q)
  | [], k, f, hd, hk, hf, hb, hn, hc => by
    have e : k = ws.length := by
      have := congrArg List.length hd
      rw [List.length_drop] at this
      simp at this
      omega
    subst e
    rintro j rfl
    refine ⟨Nat.le_refl _, ?_, hc, fun q h1 h2 => ?_⟩
    · show isB cl ws ws.length = true
      simp [isB]
    · have : ws.length < q := h1
      omega
  | x :: rest, k, f, hd, hk, hf, hb, hn, hc => by
    have hlt : k < ws.length := by
      by_cases h : k < ws.length
      · exact h
      · rw [List.drop_eq_nil_of_le (by omega)] at hd; cases hd
    have hx : ws[k]? = some x := by
      rw [List.drop_eq_getElem_cons hlt] at hd
      rw [List.getElem?_eq_getElem hlt]
      rw [(List.cons.inj hd).1]
    have hd2 : ws.drop (k + 1) = rest := by
      rw [List.drop_eq_getElem_cons hlt] at hd
      exact (List.cons.inj hd).2
    have es := cnt_take_succ (us := us) hx
    have hgx : ws.getD k 0 = x := by rw [List.getD_eq_getElem?_getD, hx]; rfl
    obtain ⟨f', hf', hb', hn'⟩ : ∃ f', (if x ∈ cl then f else k) = f' ∧ (isB cl ws f' = true ∧ f' ≤ k) ∧ ∀ q, f' < q → q < k + 1 → isB cl ws q = false := by
      by_cases hm : x ∈ cl
      · refine ⟨f, if_pos hm, ⟨hb, hf⟩, fun q h1 h2 => ?_⟩
        by_cases hq : q < k
        · exact hn q h1 hq
        · have : q = k := by omega
          subst this
          unfold isB
          rw [hgx]
          simp [hm]
          omega
      · refine ⟨k, if_neg hm, ⟨?_, Nat.le_refl _⟩, fun q h1 h2 => by omega⟩
        unfold isB
        rw [hgx]
        simp [hm]
    unfold cpo
    rw [← es, hf']
    by_cases hm : most < cnt us (ws.take (k + 1))
    · rw [if_pos hm]
      rintro j rfl
      refine ⟨by show f' ≤ _; omega, hb'.1, Int.le_trans (cnt_mono h hb'.2) hc, fun q h1 h2 h3 => ?_⟩
      by_cases hq : q < k + 1
      · rw [hn' q h1 hq] at h3; cases h3
      · have := cnt_mono h (ws := ws) (show k + 1 ≤ q by omega)
        omega
    · rw [if_neg hm]
      exact cpo_spec h rest (k + 1) f' hd2 hlt (by omega) hb'.1 hn' (by omega)
theorem cp_spec {us : List Int} (h : ∀ x ∈ us, 0 ≤ x) {most : Int} (hm : 0 ≤ most) {cl ws : List Nat} : cp us most cl ws ≤ ws.length ∧ isB cl ws (cp us most cl ws) = true ∧ cnt us (ws.take (cp us most cl ws)) ≤ most ∧ ∀ q, cp us most cl ws < q → q ≤ ws.length → isB cl ws q = true → most < cnt us (ws.take q) :=
  cpo_spec h ws 0 0 rfl (Nat.zero_le _) (Nat.le_refl _) rfl (fun q _ h => absurd h (Nat.not_lt_zero q)) (by simpa [cnt] using hm) _ rfl
def lastG (good : Nat → Bool) : Nat → Nat
  | 0 => 0
  | n + 1 => if good n then n else lastG good n
theorem lastG_is {good : Nat → Bool} {j : Nat} (hj : good j = true) : ∀ n, j < n → (∀ q, j < q → q < n → good q = false) → lastG good n = j
  | 0, h, _ => absurd h (Nat.not_lt_zero _)
  | n + 1, h, hq => by
    unfold lastG
    by_cases e : j = n
    · subst e; rw [if_pos hj]
    · rw [hq n (by omega) (by omega), lastG_is hj n (by omega) fun q h1 h2 => hq q h1 (by omega)]
      rfl
def good (us : List Int) (most : Int) (cl ws : List Nat) (p : Nat) : Bool := isB cl ws p && decide (cnt us (ws.take p) ≤ most)
theorem last_cp {us : List Int} (h : ∀ x ∈ us, 0 ≤ x) {most : Int} (hm : 0 ≤ most) {cl ws : List Nat} : lastG (good us most cl ws) (ws.length + 1) = cp us most cl ws := by
  obtain ⟨h1, h2, h3, h4⟩ := cp_spec h hm (cl := cl) (ws := ws)
  refine lastG_is (by simp [good, h2, h3]) _ (by omega) fun q hq1 hq2 => ?_
  unfold good
  cases hb : isB cl ws q with
  | false => rfl
  | true =>
    have := h4 q hq1 (by omega) hb
    have : ¬ cnt us (ws.take q) ≤ most := by omega
    simp [this]
end Lw

set_option Elab.async false
set_option linter.all false
set_option maxRecDepth 100000
set_option maxHeartbeats 1000000
namespace Lw
open PySem MD
theorem tC0 (u : Nat) (most : Int) (cl : List Nat) : L2.atI [D.int ((u : Nat) : Int), .int most, .str (W cl)] 0 = some (.int ((u : Nat) : Int)) := atI_of (j := 0) rfl
theorem tC1 (u : Nat) (most : Int) (cl : List Nat) : L2.atI [D.int ((u : Nat) : Int), .int most, .str (W cl)] 1 = some (.int most) := atI_of (j := 1) rfl
theorem tC2 (u : Nat) (most : Int) (cl : List Nat) : L2.atI [D.int ((u : Nat) : Int), .int most, .str (W cl)] 2 = some (.str (W cl)) := atI_of (j := 2) rfl
abbrev CC := Nat × Int × List Nat
abbrev tCC (c : CC) : D := tC c.1 c.2.1 c.2.2
def OkC (uss : List (List Int)) (c : CC) : Prop := c.1 < uss.length ∧ 0 ≤ c.2.1
/-! ### parts -/
def partsP (g : List Nat → Nat) : Nat → List Nat → List (List Nat) → Option (List (List Nat))
  | 0, _, acc => some acc
  | _ + 1, [], acc => some acc
  | n + 1, x :: xs, acc => if g (x :: xs) = 0 then none else partsP g n ((x :: xs).drop (g (x :: xs))) (acc ++ [(x :: xs).take (g (x :: xs))])
abbrev tW (ps : List (List Nat)) : List D := ps.map fun p => D.str (W p)
theorem ne_e0 : neM (.str (W [])) (.str "") = some (.bl false) := by rw [empty_W, ne_str]; simp
theorem ne_e1 (x : Nat) (xs : List Nat) : neM (.str (W (x :: xs))) (.str "") = some (.bl true) := by
  rw [empty_W, ne_str]
  have : ¬ W (x :: xs) = W [] := fun z => by have := W_inj z; cases this
  simp [this]
noncomputable def ptC : MT := (tstM (opM neM (rd 2) (cst (.str ""))))
noncomputable def ptB : MS := (seqM (asgM (nameT 4) (callM m_cut_place (aCons (rd 0) (aCons (rd 1) (aCons (rd 2) aNil)))))
 (seqM (ifS (tstM (opM eqM (rd 4) (cst (.int 0))))
 (retM (cst .non))
 nxM)
 (seqM (appM 3 (slM slAny (rd 2) noP (prt (rd 4))))
 (asgM (nameT 2) (slM slAny (rd 2) (prt (rd 4)) noP)))))
abbrev gC (uss : List (List Int)) (c : CC) (ws : List Nat) : Nat := cp (un uss c.1) c.2.1 c.2.2 ws
theorem pt_turn0 {k : Nat} {uss : List (List Int)} {ws : List Nat} (ft : Fit k uss ws) {c : CC} (hc : OkC uss c) (st : S) (acc : List (List Nat)) (x4 : Sl) (h : gC uss c ws = 0) :
    ptB [.val (tU uss), .val (tCC c), .val (.str (W ws)), .own (.lst, tW acc), x4] st = some (.rt .non, st) := by
  have e1 := cp_ok ft hc.1 c.2.1 c.2.2 st
  have h' : cp (un uss c.1) c.2.1 c.2.2 ws = 0 := h
  rw [h'] at e1
  simp [ptB, e1]
theorem pt_turn1 {k : Nat} {uss : List (List Int)} {ws : List Nat} (ft : Fit k uss ws) {c : CC} (hc : OkC uss c) (st : S) (acc : List (List Nat)) (ha : acc.length ≤ 100) (x4 : Sl) (h : gC uss c ws ≠ 0) :
    ptB [.val (tU uss), .val (tCC c), .val (.str (W ws)), .own (.lst, tW acc), x4] st = some (.nx [.val (tU uss), .val (tCC c), .val (.str (W (ws.drop (gC uss c ws)))), .own (.lst, tW (acc ++ [ws.take (gC uss c ws)])), .val (.int (gC uss c ws : Nat))], st) := by
  have e1 : m_cut_place [tU uss, tCC c, .str (W ws)] st = some (.int (gC uss c ws : Nat), st) := cp_ok ft hc.1 c.2.1 c.2.2 st
  have e2 : gC uss c ws ≤ ws.length := (cp_spec (un_fit ft hc.1).2 hc.2 (cl := c.2.2) (ws := ws)).1
  generalize gC uss c ws = j at e1 e2 h ⊢
  have h1 : ¬ ((j : Nat) : Int) = 0 := by omega
  have e3 : L2.cutS (W ws) none (some ((j : Nat) : Int)) = W (ws.take j) := by rw [cutW_to (by omega) (by omega)]; simp
  have e4 : L2.cutS (W ws) (some ((j : Nat) : Int)) none = W (ws.drop j) := by rw [cutW_from (by omega) (by omega)]; simp
  simp [ptB, e1, h1, e3, e4, grd_of ft.sz, h, grd_of (show acc.length + 1 ≤ 1000000 by omega)]
theorem pt_loop {k : Nat} {uss : List (List Int)} {c : CC} (hc : OkC uss c) (st : S) : ∀ (n : Nat) (ws : List Nat) (acc : List (List Nat)) (x4 : Sl), Fit k uss ws → ws.length ≤ n → acc.length + ws.length ≤ 100 →
    (∀ ps, partsP (gC uss c) n ws acc = some ps → ∃ y2 y4, whF ptC ptB (n + 1) [.val (tU uss), .val (tCC c), .val (.str (W ws)), .own (.lst, tW acc), x4] st = some (.nx [.val (tU uss), .val (tCC c), y2, .own (.lst, tW ps), y4], st)) ∧
    (partsP (gC uss c) n ws acc = none → whF ptC ptB (n + 1) [.val (tU uss), .val (tCC c), .val (.str (W ws)), .own (.lst, tW acc), x4] st = some (.rt .non, st))
  | n, [], acc, x4, ft, hn, ha => by
    have e : partsP (gC uss c) n [] acc = some acc := by cases n <;> rfl
    have ec : ptC [.val (tU uss), .val (tCC c), .val (.str (W [])), .own (.lst, tW acc), x4] st = some (false, st) := by simp [ptC, empty_W]
    have ew : whF ptC ptB (n + 1) [.val (tU uss), .val (tCC c), .val (.str (W [])), .own (.lst, tW acc), x4] st = some (.nx [.val (tU uss), .val (tCC c), .val (.str (W [])), .own (.lst, tW acc), x4], st) := by
      unfold whF
      rw [ec]; rfl
    rw [e]
    exact ⟨fun ps hp => (by cases hp; exact ⟨_, _, ew⟩), fun hp => (by cases hp)⟩
  | 0, x :: xs, acc, x4, ft, hn, ha => by simp at hn
  | n + 1, x :: xs, acc, x4, ft, hn, ha => by
    have ec : ptC [.val (tU uss), .val (tCC c), .val (.str (W (x :: xs))), .own (.lst, tW acc), x4] st = some (true, st) := by
      have := ne_e1 x xs
      simp [ptC] at this ⊢
      simp [this]
    have ew : ∀ r, ptB [.val (tU uss), .val (tCC c), .val (.str (W (x :: xs))), .own (.lst, tW acc), x4] st = r → whF ptC ptB (n + 1 + 1) [.val (tU uss), .val (tCC c), .val (.str (W (x :: xs))), .own (.lst, tW acc), x4] st = r.bind fun p => match p.1 with
      | .nx e => whF ptC ptB (n + 1) e p.2
      | .ct e => whF ptC ptB (n + 1) e p.2
      | .bk e => some (.nx e, p.2)
      | .rt r => some (.rt r, p.2) := by
      rintro r rfl
      rw [whF, ec]; rfl
    rw [List.length_cons] at hn ha
    show (∀ ps, (if gC uss c (x :: xs) = 0 then none else partsP (gC uss c) n ((x :: xs).drop (gC uss c (x :: xs))) (acc ++ [(x :: xs).take (gC uss c (x :: xs))])) = some ps → _) ∧ ((if gC uss c (x :: xs) = 0 then none else partsP (gC uss c) n ((x :: xs).drop (gC uss c (x :: xs))) (acc ++ [(x :: xs).take (gC uss c (x :: xs))])) = none → _)
    by_cases hg : gC uss c (x :: xs) = 0
    · rw [if_pos hg]
      refine ⟨fun ps hp => (by cases hp), fun _ => ?_⟩
      rw [ew _ (pt_turn0 ft hc st acc x4 hg)]
      rfl
    · rw [if_neg hg]
      rw [ew _ (pt_turn1 ft hc st acc (by omega) x4 hg)]
      have hl : ((x :: xs).drop (gC uss c (x :: xs))).length ≤ n ∧ (acc ++ [(x :: xs).take (gC uss c (x :: xs))]).length + ((x :: xs).drop (gC uss c (x :: xs))).length ≤ 100 := by
        rw [List.length_drop, List.length_append, List.length_cons, List.length_singleton]
        omega
      exact pt_loop hc st n _ _ _ (ft.drop _) hl.1 hl.2
def optT : Option (List (List Nat)) → D
  | some ps => .tup (tW ps)
  | none => .non
theorem parts_ok {k : Nat} {uss : List (List Int)} {ws : List Nat} (ft : Fit k uss ws) {c : CC} (hc : OkC uss c) (st : S) : m_parts [tU uss, tCC c, .str (W ws)] st = some (optT (partsP (gC uss c) ws.length ws []), st) := by
  obtain ⟨i1, i2⟩ := pt_loop hc st ws.length ws [] .un ft (Nat.le_refl _) (by have := ft.len; simp; omega)
  have hb : b_parts = seqM (ownM 3 (lstM aNil)) (seqM (whM ptC ptB) (retM (cbM tupleM (aCons (rdW 3) aNil)))) := rfl
  unfold m_parts
  rw [hb]
  cases hr : partsP (gC uss c) ws.length ws [] with
  | some ps =>
    obtain ⟨y2, y4, e⟩ := i1 ps hr
    have e := whM_of e
    generalize hg : whM ptC ptB = B at e
    simp [grd_of (show 0 ≤ 1000000 by decide)]
    simp at e
    rw [e]
    simp [optT]
  | none =>
    have e := whM_of (i2 hr)
    generalize hg : whM ptC ptB = B at e
    simp [grd_of (show 0 ≤ 1000000 by decide)]
    simp at e
    rw [e]
    simp [optT]
end Lw

set_option Elab.async false
set_option linter.all false
set_option maxRecDepth 100000
set_option maxHeartbeats 1000000
namespace Lw
open PySem MD
/-! ### what is drawn -/
theorem one_eq {x : D} {n : Int} (h : lenM [x] = some (.int n)) (st : S) : m__law_one [.deck, x] st = (m__law_draw [.deck, .int n] st).bind fun p => (ixM x p.1).map fun z => (z, p.2) := by
  simp [m__law_one, b__law_one, h]
  cases m__law_draw [D.deck, D.int n] st with
  | none => rfl
  | some p =>
    simp
    cases ixM x p.1 <;> rfl
theorem one_lst {ds : List D} (h0 : ds ≠ []) (h1 : ds.length ≤ 1000) : Yes 1 (m__law_one [.deck, .lst ds]) fun d => d ∈ ds := by
  refine (Yes.bind (c := 1) (c' := 0) (draw_yes (c := dc) (many := (ds.length : Int)) (by have := List.length_pos_iff.mpr h0; omega) (by omega)) (g := fun p => (ixM (.lst ds) p.1).map fun z => (z, p.2)) fun d hd => ?_).congr fun st => one_eq (n := (ds.length : Int)) (v_lenL) st
  obtain ⟨r, rfl, r0, r1⟩ := hd
  have hl : r.toNat < ds.length := by omega
  have e : ixM (.lst ds) (.int r) = some ds[r.toNat] := by
    rw [v_ixL, atI_nn r0, List.getElem?_eq_getElem hl]
  refine Yes.of_eq (a := ds[r.toNat]) (fun st => ?_) (List.getElem_mem hl)
  show (ixM (.lst ds) (.int r)).map _ = _
  rw [e]; rfl
theorem one_str {ls : List Nat} (h0 : ls ≠ []) (h1 : ls.length ≤ 1000) : Yes 1 (m__law_one [.deck, .str (W ls)]) fun d => ∃ c ∈ ls, d = .str (W [c]) := by
  have hlen : lenM [.str (W ls)] = some (.int (ls.length : Int)) := by rw [v_lenS, W_len, grd_of (by omega)]
  refine (Yes.bind (c := 1) (c' := 0) (draw_yes (c := dc) (many := (ls.length : Int)) (by have := List.length_pos_iff.mpr h0; omega) (by omega)) (g := fun p => (ixM (.str (W ls)) p.1).map fun z => (z, p.2)) fun d hd => ?_).congr fun st => one_eq hlen st
  obtain ⟨r, rfl, r0, r1⟩ := hd
  have hl : r.toNat < ls.length := by omega
  have e : ixM (.str (W ls)) (.int r) = some (.str (W [ls[r.toNat]])) := by
    rw [v_ixS, W_len, grd_of (by omega), W_list, atI_nn r0, List.getElem?_eq_getElem hl]
    rfl
  refine Yes.of_eq (a := .str (W [ls[r.toNat]])) (fun st => ?_) ⟨_, List.getElem_mem hl, rfl⟩
  show (ixM (.str (W ls)) (.int r)).map _ = _
  rw [e]; rfl
theorem ints_of {P : Int → Prop} : ∀ (l : List D), (∀ x ∈ l, ∃ i, x = .int i ∧ P i) → ∃ ns : List Int, l = ns.map D.int ∧ ∀ i ∈ ns, P i
  | [], _ => ⟨[], rfl, fun _ h => nomatch h⟩
  | x :: l, h => by
    obtain ⟨i, rfl, hi⟩ := h x List.mem_cons_self
    obtain ⟨ns, rfl, hns⟩ := ints_of l fun y hy => h y (List.mem_cons_of_mem _ hy)
    exact ⟨i :: ns, rfl, fun j hj => by
      rcases List.mem_cons.mp hj with z | z
      · rw [z]; exact hi
      · exact hns j z⟩
theorem maps_of {α : Type} {f : α → D} {P : α → Prop} : ∀ (l : List D), (∀ x ∈ l, ∃ i, x = f i ∧ P i) → ∃ ns : List α, l = ns.map f ∧ ∀ i ∈ ns, P i
  | [], _ => ⟨[], rfl, fun _ h => nomatch h⟩
  | x :: l, h => by
    obtain ⟨i, rfl, hi⟩ := h x List.mem_cons_self
    obtain ⟨ns, rfl, hns⟩ := maps_of l fun y hy => h y (List.mem_cons_of_mem _ hy)
    exact ⟨i :: ns, rfl, fun j hj => by
      rcases List.mem_cons.mp hj with z | z
      · rw [z]; exact hi
      · exact hns j z⟩
theorem rng_of {k : Nat} (h : k ≤ 1000) : rng1 [.int ((k : Nat) : Int)] = some (rngD 0 k) := by rw [rng1_of (by omega) (by omega)]; simp
/-! units -/
noncomputable def unE : ME := (callM m__law_one (aCons (rd 0) (aCons (frz (lstM (aCons (rd 2) (aCons (cst (.int 1)) (aCons (cst (.int 1)) (aCons (cst (.int 2)) (aCons (cst (.int 3)) (aCons (opM addM (callM m__law_draw (aCons (rd 0) (aCons (cst (.int 9)) aNil))) (cst (.int 1))) aNil)))))))) aNil)))
theorem unE_yes (e : Sg) (h : e[0]? = some (.val .deck)) (h2 : e[2]? = some (.val (.int 0))) : Yes 2 (unE e) fun d => ∃ i : Int, d = .int i ∧ 0 ≤ i := by
  intro st h0 hn
  obtain ⟨d1, s1, e1, ⟨r, rfl, r0, r1⟩, l1, l2⟩ := draw_yes (c := dc) (many := 9) (by decide) (by decide) st h0 (by omega)
  obtain ⟨d2, s2, e2, m2, l3, l4⟩ := one_lst (ds := [.int 0, .int 1, .int 1, .int 2, .int 3, .int (r + 1)]) (by simp) (by simp) s1 (by omega) (by omega)
  refine ⟨d2, s2, ?_, ?_, by omega, by omega⟩
  · have e1' : m__law_draw [D.deck, D.int 9] st = some (.int r, s1) := e1
    simp [unE, h, h2, e1', grd_of (show 6 ≤ 1000000 by decide), e2]
  · simp only [List.mem_cons, List.mem_nil_iff, or_false] at m2
    rcases m2 with rfl | rfl | rfl | rfl | rfl | rfl <;> exact ⟨_, rfl, by omega⟩
theorem unit_yes {k : Nat} (hk : k ≤ 4) : Yes 8 (m__law_unit [.deck, .int (k : Nat), .int 0]) fun d => ∃ us : List Int, d = tI us ∧ us.length = k ∧ ∀ x ∈ us, 0 ≤ x := by
  intro st h0 hn
  have hc := compL_yes (t := nameT 3) (f := unE) (env := [.val .deck, .val (.int (k : Nat)), .val (.int 0), .un]) (k := 2) (P := fun d => ∃ i : Int, d = .int i ∧ 0 ≤ i) (rngD 0 k) fun d _ => ⟨_, rfl, unE_yes _ rfl rfl⟩
  rw [rngD_len] at hc
  obtain ⟨l, s1, e1, ⟨hl, hp⟩, l1, l2⟩ := hc st h0 (by omega)
  obtain ⟨us, rfl, hus⟩ := ints_of l hp
  refine ⟨tI us, s1, ?_, ⟨us, rfl, by simpa using hl, hus⟩, l1, by omega⟩
  have hb : b__law_unit = retM (cbM tupleM (aCons (frz (compM (r1M (aCons (rd 1) aNil)) (nameT 3) yesM unE [3])) aNil)) := rfl
  unfold m__law_unit
  rw [hb]
  generalize hg : unE = B at e1
  simp [rng_of (show k ≤ 1000 by omega), rngD_len, grd_of (show k ≤ 1000000 by omega)]
  rw [e1]
  simp
theorem uE_yes {k : Nat} (hk : k ≤ 4) (e : Sg) (h0 : e[0]? = some (.val .deck)) (h1 : e[1]? = some (.val (.int (k : Nat)))) : Yes 8 (callM m__law_unit (aCons (rd 0) (aCons (rd 1) (aCons (cst (.int 0)) aNil))) e) fun d => ∃ us : List Int, d = tI us ∧ us.length = k ∧ ∀ x ∈ us, 0 ≤ x := by
  refine (unit_yes hk).congr fun st => ?_
  have ea : (aCons (rd 0) (aCons (rd 1) (aCons (cst (.int 0)) aNil))) e st = some ([.deck, .int (k : Nat), .int 0], st) := by simp only [v_aCons, v_rd, h0, h1, v_cst, v_aNil, Option.bind_some, Option.map_some]
  rw [v_callM, ea, Option.bind_some]
theorem units_yes {k : Nat} (hk : k ≤ 4) : Yes 17 (m__law_units [.deck, .int (k : Nat)]) fun d => ∃ uss : List (List Int), d = tU uss ∧ 0 < uss.length ∧ uss.length ≤ 2 ∧ ∀ us ∈ uss, us.length = k ∧ ∀ x ∈ us, 0 ≤ x := by
  intro st h0 hn
  obtain ⟨d, s1, e1, ⟨r, rfl, r0, r1⟩, l1, l2⟩ := draw_yes (c := dc) (many := 2) (by decide) (by decide) st h0 (by omega)
  obtain ⟨n, hnn⟩ : ∃ n : Nat, 1 + r = ((n : Nat) : Int) := ⟨(1 + r).toNat, by omega⟩
  have hc := compL_yes (t := nameT 2) (f := callM m__law_unit (aCons (rd 0) (aCons (rd 1) (aCons (cst (.int 0)) aNil)))) (env := [.val .deck, .val (.int (k : Nat)), .un]) (k := 8) (P := fun d => ∃ us : List Int, d = tI us ∧ us.length = k ∧ ∀ x ∈ us, 0 ≤ x) (rngD 0 n) fun d _ => ⟨_, rfl, uE_yes hk _ rfl rfl⟩
  rw [rngD_len] at hc
  obtain ⟨l, s2, e2, ⟨hl, hp⟩, l3, l4⟩ := hc s1 (by omega) (by omega)
  obtain ⟨uss, rfl, hus⟩ := maps_of l hp
  have hlen : uss.length = n := by simpa using hl
  refine ⟨tU uss, s2, ?_, ⟨uss, rfl, by omega, by omega, hus⟩, by omega, by omega⟩
  have e1' : m__law_draw [D.deck, D.int 2] st = some (.int r, s1) := e1
  have hr : rng1 [.int (1 + r)] = some (rngD 0 n) := by rw [hnn]; exact rng_of (by omega)
  have hb : b__law_units = retM (cbM tupleM (aCons (frz (compM (r1M (aCons (opM addM (cst (.int 1)) (callM m__law_draw (aCons (rd 0) (aCons (cst (.int 2)) aNil)))) aNil)) (nameT 2) yesM (callM m__law_unit (aCons (rd 0) (aCons (rd 1) (aCons (cst (.int 0)) aNil)))) [2])) aNil)) := rfl
  unfold m__law_units
  rw [hb]
  generalize hg : (callM m__law_unit (aCons (rd 0) (aCons (rd 1) (aCons (cst (.int 0)) aNil)))) = B at e2
  simp [e1', hr, rngD_len, grd_of (show n ≤ 1000000 by omega)]
  rw [e2]
  simp
/-! cuts -/
theorem compL_yesT {t : MG} {c : MT} {f : ME} {env : Sg} {k : Nat} {P : D → Prop} : ∀ (ds : List D), (∀ d ∈ ds, ∃ e, t d env = some e ∧ Yes k (c e) (fun _ => True) ∧ ∃ a, (∀ st, f e st = some (a, st)) ∧ P a) → Yes (ds.length * k) (compL t c f env ds) fun l => l.length ≤ ds.length ∧ ∀ x ∈ l, P x
  | [], _ => (Yes.of_eq (fun _ => rfl) ⟨Nat.le_refl _, fun _ h => nomatch h⟩).mono (Nat.zero_le _) fun _ h => h
  | d :: ds, h => by
    obtain ⟨e, h1, h2, a, h3, h4⟩ := h d List.mem_cons_self
    have ih := compL_yesT ds fun x hx => h x (List.mem_cons_of_mem _ hx)
    intro st h0 hn
    have en : ((d :: ds).length * k : Nat) = k + ds.length * k := by rw [List.length_cons, Nat.succ_mul]; omega
    rw [en] at hn ⊢
    obtain ⟨y, s1, e1, p1, l1, l2⟩ := h2 st h0 (by omega)
    obtain ⟨l, s2, e2, p2, l3, l4⟩ := ih s1 (by omega) (by omega)
    cases y with
    | true =>
      refine ⟨a :: l, s2, ?_, ⟨by simp [p2.1], fun x hx => ?_⟩, by omega, by omega⟩
      · rw [v_compL, h1]
        simp [e1, h3, e2]
      · rcases List.mem_cons.mp hx with z | z
        · rw [z]; exact h4
        · exact p2.2 x z
    | false =>
      refine ⟨l, s2, ?_, ⟨Nat.le_trans p2.1 (Nat.le_succ _), p2.2⟩, by omega, by omega⟩
      rw [v_compL, h1]
      simp [e1, e2]
theorem cut_abcd {k : Nat} (h : k ≤ 4) : L2.cutS ("abcd" : Str) none (some ((k : Nat) : Int)) = W ([97, 98, 99, 100].take k) := by
  rw [abcd_W, cutW_to (by omega) (by simp; omega)]
  simp
theorem abcd_len : ("abcd" : Str).length ≤ 1000000 := by rw [abcd_W, W_len]; decide
theorem joinL_flat : ∀ (ps : List (List Nat)), TL.joinL [] ps = ps.flatten
  | [] => rfl
  | [p] => by simp [TL.joinL]
  | p :: q :: r => by
    show p ++ ([] ++ TL.joinL [] (q :: r)) = _
    rw [joinL_flat (q :: r)]
    rfl
theorem join_str (ps : List (List Nat)) : Txt.join "" (ps.map W) = W ps.flatten := by
  apply TL.ext_tl
  rw [TL.join_eq, TL.tl_join, empty_W]
  show TL.joinL (W []).cps.toList ((ps.map W).map fun x => x.cps.toList) = (W ps.flatten).cps.toList
  rw [W_list, W_list, List.map_map]
  have e : ((fun (x : Str) => x.cps.toList) ∘ W) = id := by funext x; simp
  rw [e, List.map_id, joinL_flat]
theorem flat_one (ws : List Nat) : (ws.map fun c => [c]).flatten = ws := by
  induction ws with
  | nil => rfl
  | cons x r ih => simp [ih]
theorem join_W (ws : List Nat) (h : ws.length ≤ 1000000) : joinM (.str "") [.lst (ws.map fun c => D.str (W [c]))] = some (.str (W ws)) := by
  have e : (ws.map fun c => D.str (W [c])) = ((ws.map fun c => [c]).map W).map D.str := by rw [List.map_map, List.map_map]; rfl
  rw [e]
  show ((strsOf (((ws.map fun c => [c]).map W).map D.str)).bind fun ys => if (ys.map (·.length)).sum + ys.length * ("" : Str).length ≤ 16777216 then some (D.str (Txt.join "" ys)) else none) = _
  rw [strsOf_map]
  show (if ((((ws.map fun c => [c]).map W)).map (·.length)).sum + (((ws.map fun c => [c]).map W)).length * ("" : Str).length ≤ 16777216 then some (D.str (Txt.join "" ((ws.map fun c => [c]).map W))) else none) = _
  rw [if_pos, join_str, flat_one]
  have e1 : ("" : Str).length = 0 := by rw [empty_W, W_len]; rfl
  have e2 : ∀ (l : List Nat), ((((l.map fun c => [c]).map W)).map (·.length)).sum = l.length := fun l => by
    induction l with
    | nil => rfl
    | cons x r ih => simp at ih ⊢; omega
  rw [e1, e2, Nat.mul_zero]
  omega
theorem cut_yes {k : Nat} (hk : k ≤ 4) {uss : List (List Int)} (hu0 : 0 < uss.length) (hu2 : uss.length ≤ 2) : Yes 6 (m__law_cut [.deck, .int (k : Nat), tU uss, .int 20]) fun d => ∃ c : CC, d = tCC c ∧ OkC uss c := by
  intro st h0 hn
  have hc := compL_yesT (t := nameT 5) (c := tstM (opM eqM (callM m__law_draw (aCons (rd 0) (aCons (cst (.int 4)) aNil))) (cst (.int 0)))) (f := rd 5) (env := [.val .deck, .val (.int (k : Nat)), .val (tU uss), .val (.int 20), .un, .un]) (k := 1) (P := fun d => ∃ c : Nat, d = .str (W [c]) ∧ True) ((([97, 98, 99, 100].take k).map fun c => W [c]).map D.str) fun d hd => by
    rw [List.map_map] at hd
    obtain ⟨c, hc, rfl⟩ := List.mem_map.mp hd
    refine ⟨_, rfl, ?_, .str (W [c]), fun st => rfl, c, rfl, trivial⟩
    intro st h0 hn
    obtain ⟨d, s1, e1, ⟨r, rfl, r0, r1⟩, l1, l2⟩ := draw_yes (c := dc) (many := 4) (by decide) (by decide) st h0 (by omega)
    have e1' : m__law_draw [D.deck, D.int 4] st = some (.int r, s1) := e1
    exact ⟨decide (r = 0), s1, by simp [e1'], trivial, l1, l2⟩
  rw [List.length_map, List.length_map, List.length_take, List.length_cons, List.length_cons, List.length_cons, List.length_cons, List.length_nil] at hc
  obtain ⟨l, s1, e1, ⟨hl, hp⟩, l1, l2⟩ := hc st h0 (by omega)
  obtain ⟨cl, rfl, _⟩ := maps_of l hp
  obtain ⟨d2, s2, e2, ⟨r2, rfl, r20, r21⟩, l3, l4⟩ := draw_yes (c := dc) (many := (uss.length : Int)) (by omega) (by omega) s1 (by omega) (by omega)
  obtain ⟨d3, s3, e3, ⟨r3, rfl, r30, r31⟩, l5, l6⟩ := draw_yes (c := dc) (many := 21) (by decide) (by decide) s2 (by omega) (by omega)
  refine ⟨tCC (r2.toNat, r3, cl), s3, ?_, ⟨_, rfl, ?_⟩, by omega, by omega⟩
  · have hj := join_W cl (by rw [List.length_map] at hl; omega)
    have e2' : m__law_draw [D.deck, D.int (uss.length : Int)] s1 = some (.int r2, s2) := e2
    have e3' : m__law_draw [D.deck, D.int 21] s2 = some (.int r3, s3) := e3
    simp [m__law_cut, b__law_cut, grd_of abcd_len, cut_abcd hk]
    rw [grd_of (by omega)]
    simp at e1
    rw [e1]
    simp [hj, e2', e3', grd_of (show 3 ≤ 1000000 by decide)]
    exact (Int.max_eq_left r20).symm
  · exact ⟨by show r2.toNat < uss.length; omega, r30⟩
end Lw

set_option Elab.async false
set_option linter.all false
set_option maxRecDepth 100000
set_option maxHeartbeats 1000000
namespace Lw
open PySem MD
/-! ### the greedy places -/
section
variable (us : List Int) (most : Int) (cl w : List Nat)
def nx (p : Nat) : Nat := p + cp us most cl (w.drop p)
def gs : Nat → Nat
  | 0 => 0
  | j + 1 => nx us most cl w (gs j)
def Lv (e j : Nat) : Prop := e ≤ gs us most cl w j ∧ ∀ i, i < j → gs us most cl w i < e
abbrev seg (b e : Nat) : List Nat := (w.drop b).take (e - b)
end
section
variable {us : List Int} {most : Int} {cl w : List Nat}
theorem isB_drop {p q : Nat} (hq : 0 < q) (hp : p ≤ w.length) : isB cl (w.drop p) q = isB cl w (p + q) := by
  unfold isB
  have e1 : (w.drop p).getD q 0 = w.getD (p + q) 0 := by
    rw [List.getD_eq_getElem?_getD, List.getD_eq_getElem?_getD, List.getElem?_drop]
  have e2 : decide (q = (w.drop p).length) = decide (p + q = w.length) := by
    rw [List.length_drop]
    exact decide_eq_decide.mpr ⟨fun h => by omega, fun h => by omega⟩
  have e3 : decide (q = 0) = false := decide_eq_false (by omega)
  have e4 : decide (p + q = 0) = false := decide_eq_false (by omega)
  rw [e1, e2, e3, e4]
theorem nx_spec (h : ∀ x ∈ us, 0 ≤ x) (hm : 0 ≤ most) {p : Nat} (hp : p ≤ w.length) : p ≤ nx us most cl w p ∧ nx us most cl w p ≤ w.length ∧ (isB cl w p = true → isB cl w (nx us most cl w p) = true) ∧
    ∀ e, isB cl w e = true → p ≤ e → e ≤ w.length → (e ≤ nx us most cl w p ↔ cnt us (seg w p e) ≤ most) := by
  obtain ⟨h1, h2, h3, h4⟩ := cp_spec h hm (cl := cl) (ws := w.drop p)
  rw [List.length_drop] at h1 h4
  refine ⟨by unfold nx; omega, by unfold nx; omega, fun hb => ?_, fun e he hpe hen => ⟨fun hle => ?_, fun hc => ?_⟩⟩
  · by_cases h0 : cp us most cl (w.drop p) = 0
    · unfold nx; rw [h0, Nat.add_zero]; exact hb
    · rw [isB_drop (by omega) hp] at h2; exact h2
  · unfold nx at hle
    exact Int.le_trans (cnt_mono h (show e - p ≤ cp us most cl (w.drop p) by omega)) h3
  · by_cases hle : e ≤ nx us most cl w p
    · exact hle
    · exfalso
      unfold nx at hle
      have := h4 (e - p) (by omega) (by omega) (by rw [isB_drop (by omega) hp, show p + (e - p) = e by omega]; exact he)
      exact absurd hc (by show ¬ cnt us ((w.drop p).take (e - p)) ≤ most; omega)
theorem gs_ok (h : ∀ x ∈ us, 0 ≤ x) (hm : 0 ≤ most) : ∀ j, gs us most cl w j ≤ w.length ∧ isB cl w (gs us most cl w j) = true
  | 0 => ⟨Nat.zero_le _, rfl⟩
  | j + 1 => by
    obtain ⟨i1, i2⟩ := gs_ok h hm j
    obtain ⟨n1, n2, n3, n4⟩ := nx_spec h hm i1 (cl := cl)
    exact ⟨n2, n3 i2⟩
theorem gs_step (h : ∀ x ∈ us, 0 ≤ x) (hm : 0 ≤ most) (j : Nat) : gs us most cl w j ≤ gs us most cl w (j + 1) := (nx_spec h hm (gs_ok h hm j).1).1
theorem gs_mono (h : ∀ x ∈ us, 0 ≤ x) (hm : 0 ≤ most) {i j : Nat} (hij : i ≤ j) : gs us most cl w i ≤ gs us most cl w j := by
  induction hij with
  | refl => exact Nat.le_refl _
  | step _ ih => exact Nat.le_trans ih (gs_step h hm _)
theorem ex_lv {e : Nat} : ∀ j, e ≤ gs us most cl w j → ∃ i, i ≤ j ∧ Lv us most cl w e i
  | 0, hj => ⟨0, Nat.le_refl _, hj, fun i hi => absurd hi (Nat.not_lt_zero i)⟩
  | j + 1, hj => by
    by_cases hp : e ≤ gs us most cl w j
    · obtain ⟨i, h1, h2⟩ := ex_lv j hp
      exact ⟨i, by omega, h2⟩
    · by_cases hall : ∀ i, i < j + 1 → gs us most cl w i < e
      · exact ⟨j + 1, Nat.le_refl _, hj, hall⟩
      · have : ∃ i, i < j + 1 ∧ ¬ gs us most cl w i < e := by
          apply Classical.byContradiction
          intro hn
          exact hall fun i hi => Classical.byContradiction fun z => hn ⟨i, hi, z⟩
        obtain ⟨i, hi, hz⟩ := this
        by_cases hij : i = j
        · subst hij; omega
        · obtain ⟨i', h1, h2⟩ := ex_lv_aux i j (by omega) (by omega)
          exact ⟨i', by omega, h2⟩
where
  ex_lv_aux : ∀ i j, i < j → e ≤ gs us most cl w i → ∃ i', i' ≤ i ∧ Lv us most cl w e i' := fun i j _ hi => by
    induction i using Nat.strongRecOn with
    | _ i ih =>
      by_cases hall : ∀ i', i' < i → gs us most cl w i' < e
      · exact ⟨i, Nat.le_refl _, hi, hall⟩
      · have : ∃ i', i' < i ∧ ¬ gs us most cl w i' < e := by
          apply Classical.byContradiction
          intro hn
          exact hall fun i' hi' => Classical.byContradiction fun z => hn ⟨i', hi', z⟩
        obtain ⟨i', h1, h2⟩ := this
        obtain ⟨k, h3, h4⟩ := ih i' h1 (by omega) (by omega)
        exact ⟨k, by omega, h4⟩
theorem lv_one {e i j : Nat} (h1 : Lv us most cl w e i) (h2 : Lv us most cl w e j) : i = j := by
  rcases Nat.lt_trichotomy i j with h | h | h
  · have := h2.2 i h; have := h1.1; omega
  · exact h
  · have := h1.2 j h; have := h2.1; omega
/-- counts of a part of a part -/
theorem cnt_app (a b : List Nat) : cnt us (a ++ b) = cnt us a + cnt us b := by
  unfold cnt; rw [List.map_append, List.sum_append]
theorem cnt_nn (h : ∀ x ∈ us, 0 ≤ x) : ∀ ws : List Nat, 0 ≤ cnt us ws
  | [] => by simp [cnt]
  | c :: ws => by
    have := cnt_nn h ws
    have := uu_nn h c
    unfold cnt at *
    rw [List.map_cons, List.sum_cons]
    omega
theorem seg_le (h : ∀ x ∈ us, 0 ≤ x) {b b' e : Nat} (hb : b ≤ b') (he : b' ≤ e) : cnt us (seg w b' e) ≤ cnt us (seg w b e) := by
  have e1 : seg w b e = (w.drop b).take (b' - b) ++ seg w b' e := by
    show (w.drop b).take (e - b) = _
    have : e - b = (b' - b) + (e - b') := by omega
    rw [this, List.take_add, List.drop_drop, show b + (b' - b) = b' by omega]
  rw [e1, cnt_app]
  have := cnt_nn h ((w.drop b).take (b' - b))
  omega
/-- the place before the last greedy step -/
theorem lv_back (h : ∀ x ∈ us, 0 ≤ x) (hm : 0 ≤ most) {e j : Nat} (he : isB cl w e = true) (h0 : 0 < e) (hen : e ≤ w.length) (hl : Lv us most cl w e j) : ∃ b i, i + 1 ≤ j ∧ b < e ∧ isB cl w b = true ∧ Lv us most cl w b i ∧ cnt us (seg w b e) ≤ most := by
  cases j with
  | zero => have : e ≤ 0 := hl.1; omega
  | succ j =>
    have hb := hl.2 j (Nat.lt_succ_self j)
    obtain ⟨i, h1, h2⟩ := ex_lv (us := us) (most := most) (cl := cl) (w := w) (e := gs us most cl w j) j (Nat.le_refl _)
    refine ⟨gs us most cl w j, i, by omega, hb, (gs_ok h hm j).2, h2, ?_⟩
    exact ((nx_spec h hm (gs_ok h hm j).1).2.2.2 e he (by omega) hen).1 hl.1
theorem lv_next (h : ∀ x ∈ us, 0 ≤ x) (hm : 0 ≤ most) {b e i : Nat} (he : isB cl w e = true) (hen : e ≤ w.length) (hb : Lv us most cl w b i) (hbe : b ≤ e) (hc : cnt us (seg w b e) ≤ most) : e ≤ gs us most cl w (i + 1) := by
  by_cases hg : e ≤ gs us most cl w i
  · exact Nat.le_trans hg (gs_step h hm i)
  · refine ((nx_spec h hm (gs_ok h hm i).1).2.2.2 e he (by omega) hen).2 ?_
    exact Int.le_trans (seg_le h hb.1 (by omega)) hc
/-! ### the law's table -/
def Tab (us : List Int) (most : Int) (cl w : List Nat) (m : Nat) (bs : List (Nat × Nat)) : Prop := ∀ e j, (e, j) ∈ bs ↔ e ≤ m ∧ e ≤ w.length ∧ isB cl w e = true ∧ Lv us most cl w e j
theorem tab0 : Tab us most cl w 0 [(0, 0)] := fun e j => by
  constructor
  · intro h
    cases List.mem_singleton.mp h
    exact ⟨Nat.le_refl _, Nat.zero_le _, rfl, Nat.zero_le _, fun i hi => absurd hi (Nat.not_lt_zero i)⟩
  · rintro ⟨h1, h2, h3, h4⟩
    have : e = 0 := by omega
    subst this
    have := lv_one h4 (⟨Nat.zero_le _, fun i hi => absurd hi (Nat.not_lt_zero i)⟩ : Lv us most cl w 0 0)
    subst this
    exact List.mem_singleton.mpr rfl
theorem tab_no {m : Nat} {bs : List (Nat × Nat)} (t : Tab us most cl w m bs) (hn : ∀ j, e = m + 1 → isB cl w e = true → ¬ Lv us most cl w e j) (he : e = m + 1) : Tab us most cl w (m + 1) bs := fun e' j => by
  rw [t e' j]
  constructor
  · rintro ⟨h1, h2⟩; exact ⟨by omega, h2⟩
  · rintro ⟨h1, h2, h3, h4⟩
    by_cases hx : e' = m + 1
    · subst hx; subst he; exact absurd h4 (hn j rfl h3)
    · exact ⟨by omega, h2, h3, h4⟩
theorem tab_yes {m v : Nat} {bs : List (Nat × Nat)} (t : Tab us most cl w m bs) (hen : m + 1 ≤ w.length) (hb : isB cl w (m + 1) = true) (hl : Lv us most cl w (m + 1) v) : Tab us most cl w (m + 1) (bs ++ [(m + 1, v)]) := fun e' j => by
  rw [List.mem_append, t e' j, List.mem_singleton]
  constructor
  · rintro (⟨h1, h2⟩ | h)
    · exact ⟨by omega, h2⟩
    · cases h; exact ⟨Nat.le_refl _, hen, hb, hl⟩
  · rintro ⟨h1, h2, h3, h4⟩
    by_cases hx : e' = m + 1
    · subst hx
      rw [lv_one h4 hl]
      exact .inr rfl
    · exact .inl ⟨by omega, h2, h3, h4⟩
def someL (us : List Int) (most : Int) (w : List Nat) (e : Nat) (bs : List (Nat × Nat)) : List Nat := (bs.filter fun p => decide (cnt us (seg w p.1 e) ≤ most)).map (·.2)
theorem some_none (h : ∀ x ∈ us, 0 ≤ x) (hm : 0 ≤ most) {m : Nat} {bs : List (Nat × Nat)} (t : Tab us most cl w m bs) (hen : m + 1 ≤ w.length) (hb : isB cl w (m + 1) = true) (hs : someL us most w (m + 1) bs = []) : ∀ j, ¬ Lv us most cl w (m + 1) j := fun j hl => by
  obtain ⟨b, i, h1, h2, h3, h4, h5⟩ := lv_back h hm hb (Nat.succ_pos _) hen hl
  have hmem : (b, i) ∈ bs := (t b i).2 ⟨by omega, by omega, h3, h4⟩
  have : i ∈ someL us most w (m + 1) bs := List.mem_map.mpr ⟨(b, i), List.mem_filter.mpr ⟨hmem, decide_eq_true h5⟩, rfl⟩
  rw [hs] at this
  cases this
theorem some_min (h : ∀ x ∈ us, 0 ≤ x) (hm : 0 ≤ most) {m v : Nat} {bs : List (Nat × Nat)} (t : Tab us most cl w m bs) (hen : m + 1 ≤ w.length) (hb : isB cl w (m + 1) = true) (hv : v ∈ someL us most w (m + 1) bs) (hmin : ∀ x ∈ someL us most w (m + 1) bs, v ≤ x) : Lv us most cl w (m + 1) (v + 1) := by
  obtain ⟨⟨b, i⟩, hf, rfl⟩ := List.mem_map.mp hv
  obtain ⟨hmem, hc⟩ := List.mem_filter.mp hf
  obtain ⟨k1, k2, k3, k4⟩ := (t b i).1 hmem
  have hc' : cnt us (seg w b (m + 1)) ≤ most := of_decide_eq_true hc
  refine ⟨lv_next h hm hb hen k4 (by omega) hc', fun i' hi' => ?_⟩
  by_cases hg : gs us most cl w i' < m + 1
  · exact hg
  · exfalso
    obtain ⟨j, hj1, hj2⟩ := ex_lv (us := us) (most := most) (cl := cl) (w := w) (e := m + 1) i' (by omega)
    obtain ⟨b', i'', h1, h2, h3, h4, h5⟩ := lv_back h hm hb (Nat.succ_pos _) hen hj2
    have hmem' : (b', i'') ∈ bs := (t b' i'').2 ⟨by omega, by omega, h3, h4⟩
    have := hmin i'' (List.mem_map.mpr ⟨(b', i''), List.mem_filter.mpr ⟨hmem', decide_eq_true h5⟩, rfl⟩)
    have : i ≤ i'' := this
    have : i' < i + 1 := hi'
    omega
/-! ### parts are the greedy places -/
theorem parts_lv (h : ∀ x ∈ us, 0 ≤ x) (hm : 0 ≤ most) : ∀ (fuel j : Nat) (acc : List (List Nat)), acc.length = j → (w.drop (gs us most cl w j)).length ≤ fuel → (∀ i, i < j → gs us most cl w i < w.length) →
    (∀ ps, partsP (cp us most cl) fuel (w.drop (gs us most cl w j)) acc = some ps → Lv us most cl w w.length ps.length) ∧ (partsP (cp us most cl) fuel (w.drop (gs us most cl w j)) acc = none → ∀ J, ¬ Lv us most cl w w.length J) := by
  intro fuel
  induction fuel with
  | zero =>
    intro j acc ha hl hi
    have hd : gs us most cl w j = w.length := by
      have := (gs_ok (cl := cl) (w := w) h hm j).1
      rw [List.length_drop] at hl; omega
    refine ⟨fun ps hp => ?_, fun hp => (by cases hp)⟩
    cases hp
    rw [ha]
    exact ⟨by rw [hd]; exact Nat.le_refl _, hi⟩
  | succ fuel ih =>
    intro j acc ha hl hi
    have hj := (gs_ok (cl := cl) (w := w) h hm j).1
    cases hr : w.drop (gs us most cl w j) with
    | nil =>
      have hd : gs us most cl w j = w.length := by
        have := congrArg List.length hr
        rw [List.length_drop] at this
        simp at this; omega
      refine ⟨fun ps hp => ?_, fun hp => (by cases hp)⟩
      cases hp
      rw [ha]
      exact ⟨by rw [hd]; exact Nat.le_refl _, hi⟩
    | cons x xs =>
      have hlt : gs us most cl w j < w.length := by
        have := congrArg List.length hr
        rw [List.length_drop, List.length_cons] at this; omega
      unfold partsP
      rw [← hr]
      by_cases hg : cp us most cl (w.drop (gs us most cl w j)) = 0
      · rw [if_pos hg]
        refine ⟨fun ps hp => (by cases hp), fun _ J hJ => ?_⟩
        have stuck : ∀ d, gs us most cl w (j + d) = gs us most cl w j := fun d => by
          induction d with
          | zero => rfl
          | succ d ihd =>
            show nx us most cl w (gs us most cl w (j + d)) = _
            rw [ihd]
            unfold nx
            rw [hg, Nat.add_zero]
        have : gs us most cl w J ≤ gs us most cl w j := by
          rcases Nat.le_total J j with z | z
          · exact gs_mono h hm z
          · obtain ⟨d, rfl⟩ := Nat.exists_eq_add_of_le z
            rw [stuck]; exact Nat.le_refl _
        have := hJ.1
        omega
      · rw [if_neg hg]
        have e : (w.drop (gs us most cl w j)).drop (cp us most cl (w.drop (gs us most cl w j))) = w.drop (gs us most cl w (j + 1)) := by
          rw [List.drop_drop]; rfl
        rw [e]
        refine ih (j + 1) _ (by rw [List.length_append, ha]; rfl) ?_ fun i hi' => ?_
        · have : gs us most cl w (j + 1) = gs us most cl w j + cp us most cl (w.drop (gs us most cl w j)) := rfl
          rw [List.length_drop] at hl ⊢
          omega
        · by_cases hij : i = j
          · subst hij; exact hlt
          · exact hi i (by omega)
end
end Lw

set_option Elab.async false
set_option linter.all false
set_option maxRecDepth 100000
set_option maxHeartbeats 1000000
namespace Lw
open PySem MD
/-! ### mirrors of dicts, evaluated -/
section
variable {env : Sg} {st : S} {f fk fv : ME} {a : MA} {i : Nat}
@[simp] theorem v_lckM : lckM i a env st = (match env[i]? with | some (.own (.dic ks, ds)) => a (env.set i (.own (.lck ks, ds))) st | _ => none) := (rfl)
@[simp] theorem v_keysM : keysM i env st = (match env[i]? with | some (.own (.lck ks, _)) => some (ks.map keyD, st) | _ => none) := (rfl)
@[simp] theorem v_dgetM : dgetM i f env st = (env[i]?.bind dicOf).bind fun q => (f env st).bind fun p => (keyOf p.1).bind fun k => (getK q.1 q.2 k).map fun d => (d, p.2) := (rfl)
@[simp] theorem v_dget1M : dget1M i f env st = (env[i]?.bind dicOf).bind fun q => (f env st).bind fun p => (keyOf p.1).map fun k => ((getK q.1 q.2 k).getD .non, p.2) := (rfl)
@[simp] theorem v_dputM : dputM i fk fv env st = (match env[i]? with
  | some (.own (.dic ks, ds)) => (fv env st).bind fun p => (fk env p.2).bind fun q => (keyOf q.1).bind fun k => grd (ds.length + 1) (some (.nx (env.set i (.own (.dic (putKs ks k), putVs ks ds k p.1))), q.2))
  | _ => none) := by
  unfold dputM; simp only [grd_lt] <;> rfl
@[simp] theorem v_dicD {ks : List L2.Key} {ds : List D} : dicOf (.own (.dic ks, ds)) = some (ks, ds) := (rfl)
@[simp] theorem v_dicL {ks : List L2.Key} {ds : List D} : dicOf (.own (.lck ks, ds)) = some (ks, ds) := (rfl)
@[simp] theorem v_keyI {j : Int} : keyOf (.int j) = some (.inl j) := (rfl)
end
abbrev kk (bs : List (Nat × Nat)) : List L2.Key := bs.map fun p => Sum.inl ((p.1 : Nat) : Int)
abbrev vv (bs : List (Nat × Nat)) : List D := bs.map fun p => D.int ((p.2 : Nat) : Int)
theorem get_tab {b j : Nat} : ∀ (bs : List (Nat × Nat)), (b, j) ∈ bs → (∀ j', (b, j') ∈ bs → j' = j) → getK (kk bs) (vv bs) (.inl ((b : Nat) : Int)) = some (.int ((j : Nat) : Int))
  | [], h, _ => by cases h
  | (b', j') :: bs, h, hu => by
    show (if (Sum.inl ((b' : Nat) : Int) : L2.Key) = Sum.inl ((b : Nat) : Int) then some (D.int ((j' : Nat) : Int)) else getK (kk bs) (vv bs) (.inl ((b : Nat) : Int))) = _
    by_cases e : b' = b
    · subst e
      rw [if_pos rfl, hu j' List.mem_cons_self]
    · rw [if_neg (fun z => e (by have := Sum.inl.inj z; omega))]
      refine get_tab bs ?_ fun j'' h' => hu j'' (List.mem_cons_of_mem _ h')
      rcases List.mem_cons.mp h with z | z
      · cases z; exact absurd rfl e
      · exact z
theorem get_no {b : Nat} : ∀ (bs : List (Nat × Nat)), (∀ j', (b, j') ∉ bs) → getK (kk bs) (vv bs) (.inl ((b : Nat) : Int)) = none
  | [], _ => rfl
  | (b', j') :: bs, h => by
    show (if (Sum.inl ((b' : Nat) : Int) : L2.Key) = Sum.inl ((b : Nat) : Int) then some (D.int ((j' : Nat) : Int)) else getK (kk bs) (vv bs) (.inl ((b : Nat) : Int))) = _
    rw [if_neg (fun z => h j' (by have := Sum.inl.inj z; have : b' = b := by omega
                                  subst this; exact List.mem_cons_self))]
    exact get_no bs fun j'' h' => h j'' (List.mem_cons_of_mem _ h')
theorem has_no {b : Nat} : ∀ (bs : List (Nat × Nat)), (∀ j', (b, j') ∉ bs) → hasK (kk bs) (.inl ((b : Nat) : Int)) = false
  | [], _ => rfl
  | (b', j') :: bs, h => by
    show (decide ((Sum.inl ((b' : Nat) : Int) : L2.Key) = Sum.inl ((b : Nat) : Int)) || hasK (kk bs) (.inl ((b : Nat) : Int))) = false
    rw [has_no bs fun j'' h' => h j'' (List.mem_cons_of_mem _ h'), Bool.or_false]
    exact decide_eq_false (fun z => h j' (by have := Sum.inl.inj z; have : b' = b := by omega
                                             subst this; exact List.mem_cons_self))
theorem cutW_mid {ws : List Nat} {b e : Nat} (h0 : b ≤ e) (h1 : e ≤ ws.length) : L2.cutS (W ws) (some ((b : Nat) : Int)) (some ((e : Nat) : Int)) = W (seg ws b e) := by
  unfold L2.cutS
  rw [W_list, W_len, sIx_some (by omega) (by omega), sIx_some (by omega) (by omega)]
  simp only [Int.toNat_natCast]
  rfl
theorem Lets.seg {k : Nat} {ws : List Nat} (h : Lets k ws) (b e : Nat) : Lets k (Lw.seg ws b e) := (h.drop b).take (e - b)
/-! ### _law_fewest -/
noncomputable def fwC : MT := (tstM (opM leM (callM m__law_count (aCons (rd 0) (aCons (slM slAny (rd 2) (prt (rd 6)) (prt (rd 4))) aNil))) (opM ixM (rd 1) (cst (.int 1)))))
theorem fw_comp {us : List Int} (h4 : us.length ≤ 4) {ws : List Nat} (hz : ws.length ≤ 60) (hw : Lets us.length ws) (u : Nat) (most : Int) (cl : List Nat) (st : S) (bs : List (Nat × Nat)) (hf : ∀ b j j', (b, j) ∈ bs → (b, j') ∈ bs → j = j') {e : Nat} (he : e ≤ ws.length) (hb : ∀ b j, (b, j) ∈ bs → b ≤ e) (x5 : Sl) :
    ∀ bs' : List (Nat × Nat), (∀ p ∈ bs', p ∈ bs) →
    compL (nameT 6) fwC (dgetM 3 (rd 6)) [.val (tI us), .val (tC u most cl), .val (.str (W ws)), .own (.lck (kk bs), vv bs), .val (.int (e : Nat)), x5, .un] (bs'.map fun p => D.int ((p.1 : Nat) : Int)) st = some ((someL us most ws e bs').map fun j => D.int ((j : Nat) : Int), st)
  | [], _ => rfl
  | (b, j) :: bs', h => by
    have hm := h (b, j) List.mem_cons_self
    have ih := fw_comp h4 hz hw u most cl st bs hf he hb x5 bs' fun p hp => h p (List.mem_cons_of_mem _ hp)
    have hbe := hb b j hm
    have e1 := cutW_mid (ws := ws) hbe he
    have e2 := count_ok h4 (hw.seg b e) (by show (seg ws b e).length ≤ 1000000; rw [List.length_take, List.length_drop]; omega) st
    have e3 := get_tab bs hm fun j' hj' => hf b j' j hj' hm
    have hz2 : ws.length ≤ 1000000 := by omega
    have ec : fwC [.val (tI us), .val (tC u most cl), .val (.str (W ws)), .own (.lck (kk bs), vv bs), .val (.int (e : Nat)), x5, .val (.int (b : Nat))] st = some (decide (cnt us (seg ws b e) ≤ most), st) := by
      simp [fwC, grd_of hz2, e1, e2, atI_of (xs := [D.int ((u : Nat) : Int), D.int most, D.str (W cl)]) (j := 1) rfl]
      rw [show L2.atI [D.int ((u : Nat) : Int), D.int most, D.str (W cl)] 1 = some (.int most) from atI_of (j := 1) rfl]
      simp
    have ed : dgetM 3 (rd 6) [.val (tI us), .val (tC u most cl), .val (.str (W ws)), .own (.lck (kk bs), vv bs), .val (.int (e : Nat)), x5, .val (.int (b : Nat))] st = some (.int (j : Nat), st) := by
      simp only [v_dgetM, v_rd, List.getElem?_cons_succ, List.getElem?_cons_zero, Option.bind_some, v_dicL, v_keyI, e3, Option.map_some]
    rw [List.map_cons, v_compL]
    simp only [v_nameT, Option.bind_some, List.set_cons_succ, List.set_cons_zero]
    rw [ec]
    simp only [Option.bind_some]
    unfold someL at ih ⊢
    by_cases hc : cnt us (seg ws b e) ≤ most
    · rw [List.filter_cons_of_pos (by simpa using hc)]
      simp only [hc, decide_true, if_true]
      rw [ed]
      simp only [Option.bind_some]
      rw [ih]
      rfl
    · rw [List.filter_cons_of_neg (by simpa using hc)]
      simp only [hc, decide_false]
      exact ih
noncomputable def fwB : MS := (ifS (orM (tstM (opM eqM (rd 4) (cbM lenM (aCons (rd 2) aNil)))) (tstM (opM notInM (opM ixM (rd 2) (rd 4)) (opM ixM (rd 1) (cst (.int 2))))))
 (seqM (asgM (nameT 5) (frz (lckM 3 (compM (keysM 3) (nameT 6) fwC (dgetM 3 (rd 6)) [6]))))
 (ifS (tstM (opM neM (rd 5) (frz (lstM aNil))))
 (dputM 3 (rd 4) (opM addM (cbM minM (aCons (rd 5) aNil)) (cst (.int 1))))
 nxM))
 nxM)
theorem fw_bord {us : List Int} {ws : List Nat} (hz : ws.length ≤ 60) (u : Nat) (most : Int) (cl : List Nat) (st : S) {e : Nat} (he0 : 0 < e) (he : e ≤ ws.length) (x3 x5 x6 : Sl) :
    orM (tstM (opM eqM (rd 4) (cbM lenM (aCons (rd 2) aNil)))) (tstM (opM notInM (opM ixM (rd 2) (rd 4)) (opM ixM (rd 1) (cst (.int 2))))) [.val (tI us), .val (tC u most cl), .val (.str (W ws)), x3, .val (.int (e : Nat)), x5, x6] st = some (isB cl ws e, st) := by
  unfold isB
  have hz2 : ws.length ≤ 1000000 := by omega
  have h0 : ¬ e = 0 := by omega
  by_cases hl : e = ws.length
  · subst hl
    simp [h0, grd_of hz2]
  · have h2 : ¬ ((e : Nat) : Int) = (ws.length : Int) := by omega
    have hlt : e < ws.length := by omega
    have hx : ws[e]? = some (ws.getD e 0) := by rw [List.getD_eq_getElem?_getD, List.getElem?_eq_getElem hlt]; rfl
    generalize ws.getD e 0 = x at hx
    have hw : (⟨#[x]⟩ : Str) = W [x] := rfl
    simp [h2, h0, hl, grd_of hz2, W_at hx, hw, tC2, notIn_W]
theorem min_ints {l : List Int} (h : l ≠ []) : minM [.lst (l.map D.int)] = some (.int (botI l)) := by
  obtain ⟨x, r, hx⟩ := List.exists_cons_of_ne_nil h
  rw [hx, List.map_cons, v_minM, ← List.map_cons, intsOf_map]
  rfl
/-- one turn of the table -/
theorem fw_turn {us : List Int} (h : ∀ x ∈ us, 0 ≤ x) (h4 : us.length ≤ 4) {ws : List Nat} (hz : ws.length ≤ 60) (hw : Lets us.length ws) (u : Nat) {most : Int} (hm : 0 ≤ most) (cl : List Nat) (st : S) {m : Nat} {bs : List (Nat × Nat)} (hl : bs.length ≤ m + 1) (t : Tab us most cl ws m bs) (he : m + 1 ≤ ws.length) (x5 x6 : Sl) :
    ∃ bs' y5 y6, fwB [.val (tI us), .val (tC u most cl), .val (.str (W ws)), .own (.dic (kk bs), vv bs), .val (.int ((m + 1 : Nat) : Int)), x5, x6] st = some (.nx [.val (tI us), .val (tC u most cl), .val (.str (W ws)), .own (.dic (kk bs'), vv bs'), .val (.int ((m + 1 : Nat) : Int)), y5, y6], st) ∧ bs'.length ≤ m + 2 ∧ Tab us most cl ws (m + 1) bs' := by
  have hbd := fw_bord hz u most cl st (us := us) (Nat.succ_pos m) he (.own (.dic (kk bs), vv bs)) x5 x6
  have hf : ∀ b j j', (b, j) ∈ bs → (b, j') ∈ bs → j = j' := fun b j j' h1 h2 => lv_one ((t b j).1 h1).2.2.2 ((t b j').1 h2).2.2.2
  have hb : ∀ b j, (b, j) ∈ bs → b ≤ m + 1 := fun b j h1 => by have := ((t b j).1 h1).1; omega
  have hno : ∀ j', (m + 1, j') ∉ bs := fun j' h1 => by have := ((t _ _).1 h1).1; omega
  have hc := fw_comp h4 hz hw u most cl st bs hf he hb x5 bs fun p hp => hp
  have ek : (kk bs).map keyD = bs.map fun p => D.int ((p.1 : Nat) : Int) := by rw [List.map_map]; rfl
  have hlen : bs.length ≤ 1000000 := by omega
  unfold fwB
  generalize hg : orM (tstM (opM eqM (rd 4) (cbM lenM (aCons (rd 2) aNil)))) (tstM (opM notInM (opM ixM (rd 2) (rd 4)) (opM ixM (rd 1) (cst (.int 2))))) = B at hbd
  by_cases hB : isB cl ws (m + 1) = true
  · rw [hB] at hbd
    have ecomp : asgM (nameT 5) (frz (lckM 3 (compM (keysM 3) (nameT 6) fwC (dgetM 3 (rd 6)) [6]))) [.val (tI us), .val (tC u most cl), .val (.str (W ws)), .own (.dic (kk bs), vv bs), .val (.int ((m + 1 : Nat) : Int)), x5, x6] st =
        some (.nx [.val (tI us), .val (tC u most cl), .val (.str (W ws)), .own (.dic (kk bs), vv bs), .val (.int ((m + 1 : Nat) : Int)), .val (.lst ((someL us most ws (m + 1) bs).map fun j => D.int ((j : Nat) : Int))), x6], st) := by
      simp only [v_asgM, v_frz, v_lckM, List.getElem?_cons_succ, List.getElem?_cons_zero, List.set_cons_succ, List.set_cons_zero, v_compM, v_keysM, Option.bind_some, ek, List.length_map, grd_of hlen, v_wipe1, v_wipe0]
      rw [hc]
      rfl
    have el : ((someL us most ws (m + 1) bs).map fun j => D.int ((j : Nat) : Int)) = ((someL us most ws (m + 1) bs).map fun (j : Nat) => ((j : Nat) : Int)).map D.int := by rw [List.map_map]; rfl
    by_cases hs : someL us most ws (m + 1) bs = []
    · refine ⟨bs, .val (.lst []), x6, ?_, by omega, tab_no t (fun j _ _ => some_none h hm t he hB hs j) rfl⟩
      rw [hs] at ecomp
      have hne := ne_ints [] []
      simp only [List.map_nil] at hne
      simp only [v_ifS, hbd, Option.bind_some, if_true, v_seqM]
      rw [ecomp]
      simp [hne, grd_of (show 0 ≤ 1000000 by decide)]
    · have hne0 : ((someL us most ws (m + 1) bs).map fun (j : Nat) => ((j : Nat) : Int)) ≠ [] := fun z => hs (List.map_eq_nil_iff.mp z)
      obtain ⟨b1, b2⟩ := botI_spec _ hne0
      obtain ⟨v, hv, ev⟩ := List.mem_map.mp b1
      have hmin : ∀ x ∈ someL us most ws (m + 1) bs, v ≤ x := fun x hx => by
        have := b2 ((x : Nat) : Int) (List.mem_map.mpr ⟨x, hx, rfl⟩)
        rw [← ev] at this
        omega
      have hL := some_min h hm t he hB hv hmin
      refine ⟨bs ++ [(m + 1, v + 1)], .val (.lst ((someL us most ws (m + 1) bs).map fun j => D.int ((j : Nat) : Int))), x6, ?_, by rw [List.length_append, List.length_singleton]; omega, tab_yes t he hB hL⟩
      have hne := ne_ints ((someL us most ws (m + 1) bs).map fun (j : Nat) => ((j : Nat) : Int)) []
      simp only [List.map_nil] at hne
      have hmn := min_ints hne0
      rw [← ev] at hmn
      rw [← el] at hne hmn
      simp only [v_ifS, hbd, Option.bind_some, if_true, v_seqM]
      rw [ecomp]
      have hno' := has_no bs hno
      have e1 : putKs (kk bs) (.inl ((m + 1 : Nat) : Int)) = kk (bs ++ [(m + 1, v + 1)]) := by
        unfold putKs
        rw [hno', if_neg (by decide)]
        simp
      have e2 : putVs (kk bs) (vv bs) (.inl ((m + 1 : Nat) : Int)) (.int ((v : Nat) + 1)) = vv (bs ++ [(m + 1, v + 1)]) := by
        unfold putVs
        rw [hno', if_neg (by decide)]
        simp
      generalize ((someL us most ws (m + 1) bs).map fun j => D.int ((j : Nat) : Int)) = ll at *
      have hdec : decide (((someL us most ws (m + 1) bs).map fun (j : Nat) => ((j : Nat) : Int)) = []) = false := decide_eq_false hne0
      rw [hdec] at hne
      simp only [Option.bind_some, v_ifS, v_tstM, v_opM, v_rd, List.getElem?_cons_succ, List.getElem?_cons_zero, v_frz, v_lstM, v_aNil, List.length_nil, grd_of (Nat.zero_le 1000000), Option.map_some, hne, v_blOf, Bool.not_false, if_true, v_dputM, v_cbM, v_aCons, hmn, v_cst, v_addI, v_keyI, List.length_map, grd_of (show bs.length + 1 ≤ 1000000 by omega), e1, e2, List.set_cons_succ, List.set_cons_zero]
  · have hB' : isB cl ws (m + 1) = false := by simpa using hB
    rw [hB'] at hbd
    refine ⟨bs, x5, x6, ?_, by omega, tab_no t (fun j _ hb2 => absurd hb2 hB) rfl⟩
    simp only [v_ifS, hbd, Option.bind_some]
    rfl
end Lw

set_option Elab.async false
set_option linter.all false
set_option maxRecDepth 100000
set_option maxHeartbeats 1000000
namespace Lw
open PySem MD
theorem rngD_cons (lo : Int) (r : Nat) : rngD lo (r + 1) = .int lo :: rngD (lo + 1) r := by
  unfold rngD
  rw [List.range_succ_eq_map, List.map_cons, List.map_map]
  simp
  intro a _
  omega
def optN : Option Nat → D
  | some j => .int ((j : Nat) : Int)
  | none => .non
theorem fw_loop {us : List Int} (h : ∀ x ∈ us, 0 ≤ x) (h4 : us.length ≤ 4) {ws : List Nat} (hz : ws.length ≤ 60) (hw : Lets us.length ws) (u : Nat) {most : Int} (hm : 0 ≤ most) (cl : List Nat) (st : S) : ∀ (r m : Nat) (bs : List (Nat × Nat)) (x4 x5 x6 : Sl), m + r = ws.length → bs.length ≤ m + 1 → Tab us most cl ws m bs →
    ∃ bs' y4 y5 y6, forL (nameT 4) fwB (rngD ((m + 1 : Nat) : Int) r) [.val (tI us), .val (tC u most cl), .val (.str (W ws)), .own (.dic (kk bs), vv bs), x4, x5, x6] st = some (.nx [.val (tI us), .val (tC u most cl), .val (.str (W ws)), .own (.dic (kk bs'), vv bs'), y4, y5, y6], st) ∧ Tab us most cl ws ws.length bs'
  | 0, m, bs, x4, x5, x6, hr, hl, t => ⟨bs, x4, x5, x6, rfl, by rw [← hr]; exact t⟩
  | r + 1, m, bs, x4, x5, x6, hr, hl, t => by
    obtain ⟨bs1, y5, y6, e1, l1, t1⟩ := fw_turn h h4 hz hw u hm cl st hl t (by omega) x5 x6
    obtain ⟨bs2, z4, z5, z6, e2, t2⟩ := fw_loop h h4 hz hw u hm cl st r (m + 1) bs1 (.val (.int ((m + 1 : Nat) : Int))) y5 y6 (by omega) l1 t1
    refine ⟨bs2, z4, z5, z6, ?_, t2⟩
    rw [rngD_cons, v_forL]
    simp only [v_nameT, Option.bind_some, List.set_cons_succ, List.set_cons_zero]
    rw [e1]
    exact e2
theorem fewest_ok {us : List Int} (h : ∀ x ∈ us, 0 ≤ x) (h4 : us.length ≤ 4) {ws : List Nat} (hz : ws.length ≤ 60) (hw : Lets us.length ws) (u : Nat) {most : Int} (hm : 0 ≤ most) (cl : List Nat) (st : S) :
    ∃ o, m__law_fewest [tI us, tC u most cl, .str (W ws)] st = some (optN o, st) ∧ ∀ J, o = some J ↔ Lv us most cl ws ws.length J := by
  obtain ⟨bs, y4, y5, y6, e1, t⟩ := fw_loop h h4 hz hw u hm cl st ws.length 0 [(0, 0)] .un .un .un (by omega) (by simp) tab0
  have hz2 : ws.length ≤ 1000000 := by omega
  have hB : isB cl ws ws.length = true := by simp [isB]
  have main : ∀ o, getK (kk bs) (vv bs) (.inl ((ws.length : Nat) : Int)) = o.map (fun (j : Nat) => D.int ((j : Nat) : Int)) → m__law_fewest [tI us, tC u most cl, .str (W ws)] st = some (optN o, st) := fun o ho => by
    have hb : b__law_fewest = seqM (dispM 3 (pCons (cst (.int 0)) (cst (.int 0)) pNil)) (seqM (forM (r2M (aCons (cst (.int 1)) (aCons (opM addM (cbM lenM (aCons (rd 2) aNil)) (cst (.int 1))) aNil))) (nameT 4) fwB) (retM (dget1M 3 (cbM lenM (aCons (rd 2) aNil))))) := rfl
    have hd : dispM 3 (pCons (cst (.int 0)) (cst (.int 0)) pNil) [.val (tI us), .val (tC u most cl), .val (.str (W ws)), .un, .un, .un, .un] st = some (.nx [.val (tI us), .val (tC u most cl), .val (.str (W ws)), .own (.dic (kk [(0, 0)]), vv [(0, 0)]), .un, .un, .un], st) := rfl
    have hr : rng2 [.int 1, .int ((ws.length : Int) + 1)] = some (rngD ((0 + 1 : Nat) : Int) ws.length) := by
      rw [rng2_of (by decide) (by decide) (by omega) (by omega)]
      have : ((ws.length : Int) + 1 - 1).toNat = ws.length := by omega
      rw [this]
      rfl
    have hf : forM (r2M (aCons (cst (.int 1)) (aCons (opM addM (cbM lenM (aCons (rd 2) aNil)) (cst (.int 1))) aNil))) (nameT 4) fwB [.val (tI us), .val (tC u most cl), .val (.str (W ws)), .own (.dic (kk [(0, 0)]), vv [(0, 0)]), .un, .un, .un] st = some (.nx [.val (tI us), .val (tC u most cl), .val (.str (W ws)), .own (.dic (kk bs), vv bs), y4, y5, y6], st) := by
      simp only [v_forM, v_r2M, v_aCons, v_aNil, v_cst, v_opM, v_cbM, v_rd, List.getElem?_cons_succ, List.getElem?_cons_zero, Option.bind_some, Option.map_some, v_lenS, W_len, grd_of hz2, v_addI, hr]
      exact e1
    have hg : retM (dget1M 3 (cbM lenM (aCons (rd 2) aNil))) [.val (tI us), .val (tC u most cl), .val (.str (W ws)), .own (.dic (kk bs), vv bs), y4, y5, y6] st = some (.rt (optN o), st) := by
      simp only [v_retM, v_dget1M, v_aCons, v_aNil, v_cbM, v_rd, List.getElem?_cons_succ, List.getElem?_cons_zero, Option.bind_some, Option.map_some, v_lenS, W_len, grd_of hz2, v_dicD, v_keyI, ho]
      cases o <;> rfl
    have hm : b__law_fewest [.val (tI us), .val (tC u most cl), .val (.str (W ws)), .un, .un, .un, .un] st = some (.rt (optN o), st) := by
      rw [hb, v_seqM, hd]
      simp only [Option.bind_some, v_seqM]
      rw [hf]
      simp only [Option.bind_some]
      rw [hg]
    unfold m__law_fewest
    rw [v_runM]
    show (b__law_fewest [.val (tI us), .val (tC u most cl), .val (.str (W ws)), .un, .un, .un, .un] st).bind _ = _
    rw [hm]
    rfl
  by_cases hex : ∃ J, Lv us most cl ws ws.length J
  · obtain ⟨J, hJ⟩ := hex
    refine ⟨some J, main (some J) (get_tab bs ((t _ _).2 ⟨Nat.le_refl _, Nat.le_refl _, hB, hJ⟩) fun j' hj' => lv_one ((t _ _).1 hj').2.2.2 hJ), fun J' => ⟨fun e => (by cases e; exact hJ), fun e => by rw [lv_one hJ e]⟩⟩
  · refine ⟨none, main none (get_no bs fun j' hj' => hex ⟨j', ((t _ _).1 hj').2.2.2⟩), fun J' => ⟨fun e => (by cases e), fun e => absurd ⟨J', e⟩ hex⟩⟩
/-! ### what parts are -/
theorem parts_props {us : List Int} (h : ∀ x ∈ us, 0 ≤ x) {most : Int} (hm : 0 ≤ most) {cl : List Nat} : ∀ (fuel : Nat) (ws : List Nat) (acc ps : List (List Nat)), partsP (cp us most cl) fuel ws acc = some ps → ws.length ≤ fuel →
    ∃ qs, ps = acc ++ qs ∧ qs.flatten = ws ∧ (∀ q ∈ qs, q ≠ [] ∧ cnt us q ≤ most) ∧ (∀ q ∈ qs.tail, ∃ x r, q = x :: r ∧ x ∉ cl) ∧ (∀ q r, qs = q :: r → ∃ x t t', q = x :: t ∧ ws = x :: t')
  | fuel, [], acc, ps, e, hl => by
    have : partsP (cp us most cl) fuel [] acc = some acc := by cases fuel <;> rfl
    rw [this] at e
    cases e
    exact ⟨[], by simp, rfl, fun q hq => (by cases hq), fun q hq => (by cases hq), fun q r hq => (by cases hq)⟩
  | 0, x :: xs, acc, ps, e, hl => by simp at hl
  | fuel + 1, x :: xs, acc, ps, e, hl => by
    unfold partsP at e
    split at e
    · cases e
    · rename_i hg
      obtain ⟨c1, c2, c3, c4⟩ := cp_spec h hm (cl := cl) (ws := x :: xs)
      rw [List.length_cons] at hl
      obtain ⟨qs, h1, h2, h3, h4, h5⟩ := parts_props h hm fuel _ _ ps e (by rw [List.length_drop, List.length_cons]; omega)
      obtain ⟨j, hj⟩ : ∃ j, cp us most cl (x :: xs) = j + 1 := ⟨cp us most cl (x :: xs) - 1, by omega⟩
      refine ⟨(x :: xs).take (cp us most cl (x :: xs)) :: qs, by rw [h1, List.append_assoc]; rfl, by rw [List.flatten_cons, h2, List.take_append_drop], fun q hq => ?_, fun q hq => ?_, fun q r hq => ?_⟩
      · rcases List.mem_cons.mp hq with z | z
        · subst z
          refine ⟨?_, c3⟩
          rw [hj, List.take_succ_cons]
          exact List.cons_ne_nil _ _
        · exact h3 q z
      · rw [List.tail_cons] at hq
        cases qs with
        | nil => cases hq
        | cons q0 r0 =>
          rcases List.mem_cons.mp hq with z | z
          · subst z
            obtain ⟨y, t, t', e1, e2⟩ := h5 q r0 rfl
            refine ⟨y, t, e1, fun hy => ?_⟩
            -- the place is a border
            have hlt : cp us most cl (x :: xs) < (x :: xs).length := by
              have := congrArg List.length e2
              rw [List.length_drop, List.length_cons (as := t')] at this
              omega
            have hgy : (x :: xs).getD (cp us most cl (x :: xs)) 0 = y := by
              rw [List.getD_eq_getElem?_getD]
              have := congrArg (fun l => l[0]?) e2
              simp only [List.getElem?_drop, Nat.add_zero, List.getElem?_cons_zero] at this
              rw [this]
              rfl
            unfold isB at c2
            rw [hgy] at c2
            simp [hy] at c2
            rcases c2 with z | z
            · exact hg z
            · rw [List.length_cons] at hlt; omega
          · exact h4 q z
      · cases hq
        exact ⟨x, xs.take j, xs, by rw [hj, List.take_succ_cons], rfl⟩
end Lw

set_option Elab.async false
set_option linter.all false
set_option maxRecDepth 100000
set_option maxHeartbeats 4000000
namespace Lw
open PySem MD
/-! the word -/
noncomputable def wdE : ME := (callM m__law_one (aCons (rd 1) (aCons (slM slAny (cst (.str "abcd")) noP (prt (rd 3))) aNil)))
theorem wdE_yes {k : Nat} (h1 : 1 ≤ k) (h4 : k ≤ 4) {e : Sg} (he1 : e[1]? = some (.val .deck)) (he3 : e[3]? = some (.val (.int (k : Nat)))) : Yes 1 (wdE e) fun d => ∃ c, d = .str (W [c]) ∧ Let k c := by
  refine ((one_str (ls := [97, 98, 99, 100].take k) (fun z => ?_) (by rw [List.length_take]; simp; omega)).mono (Nat.le_refl _) fun d hd => ?_).congr fun st => ?_
  · have := congrArg List.length z
    rw [List.length_take] at this
    simp at this
    omega
  · obtain ⟨c, hc, rfl⟩ := hd
    refine ⟨c, rfl, ?_⟩
    have : k = 1 ∨ k = 2 ∨ k = 3 ∨ k = 4 := by omega
    rcases this with rfl | rfl | rfl | rfl <;> simp at hc
    · subst hc; exact ⟨by decide, by decide⟩
    · rcases hc with rfl | rfl <;> exact ⟨by decide, by decide⟩
    · rcases hc with rfl | rfl | rfl <;> exact ⟨by decide, by decide⟩
    · rcases hc with rfl | rfl | rfl | rfl <;> exact ⟨by decide, by decide⟩
  · simp [wdE, he1, he3, grd_of abcd_len, cut_abcd h4]
noncomputable def wdM : ME := (m1M joinM (cst (.str "")) (frz (compM (r1M (aCons (callM m__law_one (aCons (rd 1) (aCons (frz (lstM (aCons (cst (.int 0)) (aCons (cst (.int 1)) (aCons (cst (.int 5)) (aCons (callM m__law_draw (aCons (rd 1) (aCons (cst (.int 41)) aNil))) aNil)))))) aNil))) aNil)) (nameT 9) yesM wdE [9])))
theorem wdM_yes {k : Nat} (h1 : 1 ≤ k) (h4 : k ≤ 4) (a2 a4 a5 a6 a7 a8 a9 a10 : Sl) : Yes 42 (wdM [.un, .val .deck, a2, .val (.int (k : Nat)), a4, a5, a6, a7, a8, a9, a10]) fun d => ∃ ws : List Nat, d = .str (W ws) ∧ ws.length ≤ 40 ∧ Lets k ws := by
  intro st h0 hn
  obtain ⟨d2, s2, e2, ⟨i2, rfl, i20, i21⟩, l3, l4⟩ := draw_yes (c := dc) (many := 41) (by decide) (by decide) st (by omega) (by omega)
  obtain ⟨d3, s3, e3, m3, l5, l6⟩ := one_lst (ds := [.int 0, .int 1, .int 5, .int i2]) (by simp) (by simp) s2 (by omega) (by omega)
  obtain ⟨z, rfl, z0, z1⟩ : ∃ z : Nat, d3 = .int (z : Nat) ∧ 0 ≤ z ∧ z ≤ 40 := by
    simp only [List.mem_cons, List.mem_nil_iff, or_false] at m3
    rcases m3 with rfl | rfl | rfl | rfl
    · exact ⟨0, rfl, by omega, by omega⟩
    · exact ⟨1, rfl, by omega, by omega⟩
    · exact ⟨5, rfl, by omega, by omega⟩
    · exact ⟨i2.toNat, by rw [Int.toNat_of_nonneg i20], by omega, by omega⟩
  have hc := compL_yes (t := nameT 9) (f := wdE) (env := [.un, .val .deck, a2, .val (.int (k : Nat)), a4, a5, a6, a7, a8, .un, a10]) (k := 1) (P := fun d => ∃ c, d = .str (W [c]) ∧ Let k c) (rngD 0 z) fun d _ => ⟨_, rfl, wdE_yes h1 h4 rfl rfl⟩
  rw [rngD_len] at hc
  obtain ⟨l, s4, e4, ⟨hl, hp⟩, l7, l8⟩ := hc s3 (by omega) (by omega)
  obtain ⟨ws, rfl, hws⟩ := maps_of l hp
  have hwl : ws.length = z := by simpa using hl
  refine ⟨.str (W ws), s4, ?_, ⟨ws, rfl, by omega, hws⟩, by omega, by omega⟩
  have e2' : m__law_draw [D.deck, D.int 41] st = some (.int i2, s2) := e2
  have hj := join_W ws (by omega)
  unfold wdM
  generalize hg : wdE = B at e4
  simp [e2', grd_of (show 4 ≤ 1000000 by decide), e3, rng_of (show z ≤ 1000 by omega), rngD_len, grd_of (show z ≤ 1000000 by omega)]
  rw [e4]
  simp [hj]
/-! the checks -/
@[simp] theorem ne_bl (i j : Bool) : neM (.bl i) (.bl j) = some (.bl (!decide (i = j))) := (rfl)
theorem compL_none {t : MG} {c : MT} {f : ME} {env : Sg} {st : S} : ∀ (ds : List D), (∀ d ∈ ds, ∃ e, t d env = some e ∧ c e st = some (false, st)) → compL t c f env ds st = some ([], st)
  | [], _ => rfl
  | d :: ds, h => by
    obtain ⟨e, h1, h2⟩ := h d List.mem_cons_self
    have ih := compL_none (f := f) ds fun x hx => h x (List.mem_cons_of_mem _ hx)
    rw [v_compL, h1]
    simp only [Option.bind_some, h2]
    exact ih
noncomputable def ck1 : MS := (ifS (orM (tstM (opM neM (cbM lenM (aCons (rd 7) aNil)) (rd 8))) (orM (tstM (opM neM (m1M joinM (cst (.str "")) (rd 7)) (rd 6))) (tstM (opM inM (cst (.str "")) (rd 7)))))
 (retM (cst (.bl false)))
 nxM)
noncomputable def c2 : MT := (tstM (opM gtM (callM m__law_count (aCons (opM ixM (rd 4) (opM ixM (rd 5) (cst (.int 0)))) (aCons (rd 10) aNil))) (opM ixM (rd 5) (cst (.int 1)))))
noncomputable def ck2 : MS := (ifS (tstM (opM neM (frz (compM (seqI (rd 7)) (nameT 10) c2 (rd 10) [10])) (frz (lstM aNil))))
 (retM (cst (.bl false)))
 nxM)
noncomputable def c3 : MT := (tstM (opM inM (opM ixM (rd 10) (cst (.int 0))) (opM ixM (rd 5) (cst (.int 2)))))
noncomputable def ck3 : MS := (ifS (tstM (opM neM (frz (compM (seqI (slM slAny (rd 7) (prt (cst (.int 1))) noP)) (nameT 10) c3 (rd 10) [10])) (frz (lstM aNil))))
 (retM (cst (.bl false)))
 nxM)
noncomputable def ckB : MS := (seqM (ifS (tstM (opM neM (opM isM (rd 7) (cst .non)) (opM isM (rd 8) (cst .non))))
 (retM (cst (.bl false)))
 nxM)
 (ifS (tstM (opM isNotM (rd 7) (cst .non)))
 (seqM ck1
 (seqM ck2 ck3))
 nxM))
theorem join_tW (ps : List (List Nat)) (h : ps.flatten.length ≤ 1000000) : joinM (.str "") [.tup (tW ps)] = some (.str (W ps.flatten)) := by
  have e : tW ps = (ps.map W).map D.str := by rw [List.map_map]; rfl
  rw [e]
  show ((strsOf ((ps.map W).map D.str)).bind fun ys => if (ys.map (·.length)).sum + ys.length * ("" : Str).length ≤ 16777216 then some (D.str (Txt.join "" ys)) else none) = _
  rw [strsOf_map]
  show (if ((ps.map W).map (·.length)).sum + (ps.map W).length * ("" : Str).length ≤ 16777216 then some (D.str (Txt.join "" (ps.map W))) else none) = _
  rw [if_pos, join_str]
  have e1 : ("" : Str).length = 0 := by rw [empty_W, W_len]; rfl
  have e2 : ((ps.map W).map (·.length)).sum = ps.flatten.length := by
    clear h e
    induction ps with
    | nil => rfl
    | cons x r ih => simp at ih ⊢; omega
  rw [e1, e2, Nat.mul_zero]
  omega
theorem in_tW (ps : List (List Nat)) (h : ∀ q ∈ ps, q ≠ []) : inM (.str "") (.tup (tW ps)) = some (.bl false) := by
  have hf : (tW ps).all flatD = true := by rw [List.all_map]; simp [Function.comp_def, flatD]
  have hb : inB (.str "") (tW ps) = false := by
    unfold inB
    rw [List.any_eq_false]
    intro x hx
    obtain ⟨q, hq, rfl⟩ := List.mem_map.mp hx
    show ¬ ((W q == ("" : Str)) = true)
    rw [beq_iff_eq, empty_W]
    exact fun z => h q hq (W_inj z)
  show (if (flatD (.str "") && (tW ps).all flatD) = true then some (D.bl (if false = true then !inB (.str "") (tW ps) else inB (.str "") (tW ps))) else none) = _
  rw [hf, hb]
  simp [flatD]
theorem inSign_W (x : Nat) (cl : List Nat) : inM (.str (W [x])) (.str (W cl)) = some (.bl (decide (x ∈ cl))) := by
  have e : signOf (W [x]) = some x := by unfold signOf; rw [W_list]
  unfold inM inSign
  simp [e]
theorem len_flat : ∀ ps : List (List Nat), (∀ q ∈ ps, q ≠ []) → ps.length ≤ ps.flatten.length
  | [], _ => Nat.le_refl _
  | x :: r, h => by
    have i1 := len_flat r fun q hq => h q (List.mem_cons_of_mem _ hq)
    have i2 := List.length_pos_iff.mpr (h x List.mem_cons_self)
    rw [List.flatten_cons, List.length_append, List.length_cons]
    omega
theorem mem_flat {q : List Nat} : ∀ ps : List (List Nat), q ∈ ps → q.length ≤ ps.flatten.length
  | [], h => by cases h
  | x :: r, h => by
    rw [List.flatten_cons, List.length_append]
    rcases List.mem_cons.mp h with z | z
    · subst z; omega
    · have := mem_flat r z; omega
theorem ck_ok {k : Nat} {uss : List (List Int)} {ws : List Nat} (ft : Fit k uss ws) {c : CC} (hc : OkC uss c) {o : Option Nat} (ho : ∀ J, o = some J ↔ Lv (un uss c.1) c.2.1 c.2.2 ws ws.length J) (st : S) (a2 a3 a9 a10 : Sl) :
    ckB [.un, .val .deck, a2, a3, .val (tU uss), .val (tCC c), .val (.str (W ws)), .val (optT (partsP (gC uss c) ws.length ws [])), .val (optN o), a9, a10] st = some (.nx [.un, .val .deck, a2, a3, .val (tU uss), .val (tCC c), .val (.str (W ws)), .val (optT (partsP (gC uss c) ws.length ws [])), .val (optN o), a9, a10], st) := by
  have hf := un_fit ft hc.1
  obtain ⟨p1, p2⟩ := parts_lv (cl := c.2.2) (w := ws) hf.2 hc.2 ws.length 0 [] rfl (by rw [List.length_drop]; omega) fun i hi => absurd hi (Nat.not_lt_zero i)
  have e0 : ws.drop (gs (un uss c.1) c.2.1 c.2.2 ws 0) = ws := rfl
  rw [e0] at p1 p2
  have hg : gC uss c = cp (un uss c.1) c.2.1 c.2.2 := rfl
  rw [hg]
  cases hr : partsP (cp (un uss c.1) c.2.1 c.2.2) ws.length ws [] with
  | none =>
    have hn : o = none := by
      cases o with
      | none => rfl
      | some J => exact absurd ((ho J).1 rfl) (p2 hr J)
    subst hn
    simp [ckB, optT, optN, nonD]
  | some ps =>
    have hJ := (ho ps.length).2 (p1 ps hr)
    subst hJ
    obtain ⟨qs, q1, q2, q3, q4, _⟩ := parts_props hf.2 hc.2 ws.length ws [] ps hr (Nat.le_refl _)
    have : ps = qs := q1
    subst this
    have hl := ft.len
    have ej := join_tW ps (by rw [q2]; omega)
    rw [q2] at ej
    have ei := in_tW ps fun q hq => (q3 q hq).1
    have hpl : ps.length ≤ 1000000 := by
      have hs := len_flat ps fun q hq => (q3 q hq).1
      rw [q2] at hs; omega
    have hne := ne_ints [] []
    simp only [List.map_nil] at hne
    have hww : Lets k ps.flatten := by rw [q2]; exact ft.ws
    have hsub : ∀ q ∈ ps, Lets k q ∧ q.length ≤ 60 := fun q hq => by
      refine ⟨fun x hx => hww x (List.mem_flatten.mpr ⟨q, hq, hx⟩), ?_⟩
      have := mem_flat ps hq
      rw [q2] at this; omega
    have k1 : ck1 [.un, .val .deck, a2, a3, .val (tU uss), .val (tCC c), .val (.str (W ws)), .val (.tup (tW ps)), .val (.int (ps.length : Nat)), a9, a10] st = some (.nx [.un, .val .deck, a2, a3, .val (tU uss), .val (tCC c), .val (.str (W ws)), .val (.tup (tW ps)), .val (.int (ps.length : Nat)), a9, a10], st) := by
      simp [ck1, ej, ei]
    have d2 := compL_none (t := nameT 10) (c := c2) (f := rd 10) (env := [.un, .val .deck, a2, a3, .val (tU uss), .val (tCC c), .val (.str (W ws)), .val (.tup (tW ps)), .val (.int (ps.length : Nat)), a9, .un]) (st := st) (tW ps) fun d hd => by
      obtain ⟨q, hq, rfl⟩ := List.mem_map.mp hd
      refine ⟨_, rfl, ?_⟩
      have e2 := count_ok (us := un uss c.1) (by rw [hf.1]; exact ft.k4) (ws := q) (by rw [hf.1]; exact (hsub q hq).1) (by have := (hsub q hq).2; omega) st
      have hcn : ¬ c.2.1 < cnt (un uss c.1) q := by have := (q3 q hq).2; omega
      simp [c2, uss_at (un_at hc.1), tC0, tC1, e2, hcn]
    have k2 : ck2 [.un, .val .deck, a2, a3, .val (tU uss), .val (tCC c), .val (.str (W ws)), .val (.tup (tW ps)), .val (.int (ps.length : Nat)), a9, a10] st = some (.nx [.un, .val .deck, a2, a3, .val (tU uss), .val (tCC c), .val (.str (W ws)), .val (.tup (tW ps)), .val (.int (ps.length : Nat)), a9, a10], st) := by
      unfold ck2
      generalize c2 = B at d2
      simp [grd_of hpl, d2, hne, grd_of (show 0 ≤ 1000000 by decide)]
    have ecut : ps ≠ [] → cutD (tW ps) (some 1) none = tW ps.tail := fun hp => by
      have := List.length_pos_iff.mpr hp
      rw [cutD_from (by decide) (by rw [List.length_map]; omega)]
      show (tW ps).drop 1 = tW ps.tail
      cases ps with
      | nil => rfl
      | cons x r => rfl
    have ecut' : cutD (tW ps) (some 1) none = tW ps.tail := by
      by_cases hp : ps = []
      · subst hp; unfold cutD; simp
      · exact ecut hp
    have d3 := compL_none (t := nameT 10) (c := c3) (f := rd 10) (env := [.un, .val .deck, a2, a3, .val (tU uss), .val (tCC c), .val (.str (W ws)), .val (.tup (tW ps)), .val (.int (ps.length : Nat)), a9, .un]) (st := st) (tW ps.tail) fun d hd => by
      obtain ⟨q, hq, rfl⟩ := List.mem_map.mp hd
      refine ⟨_, rfl, ?_⟩
      obtain ⟨x, r, rfl, hx⟩ := q4 q hq
      have hlq := (hsub _ (List.mem_of_mem_tail hq)).2
      rw [List.length_cons] at hlq
      have e1 : L2.atI (x :: r) 0 = some x := atI_of (j := 0) rfl
      have hw : (⟨#[x]⟩ : Str) = W [x] := rfl
      simp [c3, grd_of (show r.length + 1 ≤ 1000000 by omega), e1, hw, tC2, inSign_W, hx]
    have k3 : ck3 [.un, .val .deck, a2, a3, .val (tU uss), .val (tCC c), .val (.str (W ws)), .val (.tup (tW ps)), .val (.int (ps.length : Nat)), a9, a10] st = some (.nx [.un, .val .deck, a2, a3, .val (tU uss), .val (tCC c), .val (.str (W ws)), .val (.tup (tW ps)), .val (.int (ps.length : Nat)), a9, a10], st) := by
      unfold ck3
      generalize c3 = B at d3
      simp only [v_ifS, v_tstM, v_opM, v_frz, v_compM, v_seqI, v_slM, v_rd, v_prt, v_cst, v_noP, List.getElem?_cons_succ, List.getElem?_cons_zero, Option.bind_some, Option.map_some, v_intOf, v_slT, ecut', v_seqT, List.length_map, v_wipe1, v_wipe0, List.set_cons_succ, List.set_cons_zero]
      rw [grd_of (by rw [List.length_tail]; omega), d3]
      simp [hne, grd_of (show 0 ≤ 1000000 by decide)]
    unfold ckB
    show seqM _ _ [.un, .val .deck, a2, a3, .val (tU uss), .val (tCC c), .val (.str (W ws)), .val (.tup (tW ps)), .val (.int (ps.length : Nat)), a9, a10] st = some (.nx [.un, .val .deck, a2, a3, .val (tU uss), .val (tCC c), .val (.str (W ws)), .val (.tup (tW ps)), .val (.int (ps.length : Nat)), a9, a10], st)
    generalize ck1 = B1 at k1
    generalize ck2 = B2 at k2
    generalize ck3 = B3 at k3
    simp [nonD, k1, k2, k3]
end Lw

set_option Elab.async false
set_option linter.all false
set_option maxRecDepth 100000
set_option maxHeartbeats 4000000
namespace Lw
open PySem MD
/-! one turn -/
noncomputable def outB : MS := (seqM (asgM (nameT 3) (opM addM (cst (.int 1)) (callM m__law_draw (aCons (rd 1) (aCons (cst (.int 4)) aNil)))))
 (seqM (asgM (nameT 4) (callM m__law_units (aCons (rd 1) (aCons (rd 3) aNil))))
 (seqM (asgM (nameT 5) (callM m__law_cut (aCons (rd 1) (aCons (rd 3) (aCons (rd 4) (aCons (cst (.int 20)) aNil))))))
 (seqM (asgM (nameT 6) wdM)
 (seqM (parM 7 8 (aCons (callM m_parts (aCons (rd 4) (aCons (rd 5) (aCons (rd 6) aNil)))) (aCons (callM m__law_fewest (aCons (opM ixM (rd 4) (opM ixM (rd 5) (cst (.int 0)))) (aCons (rd 5) (aCons (rd 6) aNil)))) aNil)))
 ckB)))))
def Shp (e : Sg) : Prop := ∃ a2 a3 a4 a5 a6 a7 a8 a9 a10, e = [.un, .val .deck, a2, a3, a4, a5, a6, a7, a8, a9, a10]
theorem out_ok {e : Sg} (he : Shp e) : Yes 100 (outB e) fun fl => ∃ e', fl = .nx e' ∧ Shp e' := by
  obtain ⟨a2, a3, a4, a5, a6, a7, a8, a9, a10, rfl⟩ := he
  intro st h0 hn
  obtain ⟨d1, s1, e1, ⟨i1, rfl, i10, i11⟩, l1, l2⟩ := draw_yes (c := dc) (many := 4) (by decide) (by decide) st h0 (by omega)
  obtain ⟨k, hk⟩ : ∃ k : Nat, 1 + i1 = ((k : Nat) : Int) := ⟨(1 + i1).toNat, by omega⟩
  have h1 : 1 ≤ k := by omega
  have h4 : k ≤ 4 := by omega
  obtain ⟨d2, s2, e2, ⟨uss, rfl, hu0, hu2, hus⟩, l3, l4⟩ := units_yes h4 s1 (by omega) (by omega)
  obtain ⟨d3, s3, e3, ⟨c, rfl, hc⟩, l5, l6⟩ := cut_yes h4 hu0 hu2 s2 (by omega) (by omega)
  obtain ⟨d4, s4, e4, ⟨ws, rfl, hwl, hws⟩, l7, l8⟩ := wdM_yes h1 h4 a2 (.val (tU uss)) (.val (tCC c)) a6 a7 a8 a9 a10 s3 (by omega) (by omega)
  have ft : Fit k uss ws := ⟨h4, hus, by omega, hws⟩
  have hf := un_fit ft hc.1
  have e5 := parts_ok ft hc s4
  obtain ⟨o, e6, ho⟩ := fewest_ok (us := un uss c.1) hf.2 (by rw [hf.1]; exact h4) ft.len (by rw [hf.1]; exact hws) c.1 hc.2 c.2.2 s4
  have e7 := ck_ok ft hc ho s4 a2 (.val (.int (k : Nat))) a9 a10
  refine ⟨_, s4, ?_, ⟨_, rfl, a2, .val (.int (k : Nat)), .val (tU uss), .val (tCC c), .val (.str (W ws)), .val (optT (partsP (gC uss c) ws.length ws [])), .val (optN o), a9, a10, rfl⟩, by omega, by omega⟩
  have e1' : m__law_draw [D.deck, D.int 4] st = some (.int i1, s1) := e1
  generalize optT (partsP (gC uss c) ws.length ws []) = oo at *
  generalize optN o = oo2 at *
  unfold outB
  generalize hg : ckB = B at e7
  generalize hg2 : wdM = B2 at e4
  simp [e1', hk, e2, e3, e4, e5, uss_at (un_at hc.1), tC0, e6, e7]
theorem law_holds : ∀ ns : List Int, ns.length ≤ 63 → ∃ s1, b_law (env0 11) ⟨ns.map absI, 0⟩ = some (.rt (.bl true), s1) := by
  intro ns _
  have loop := forL_yes (t := nameT 2) (b := outB) (k := 100) (I := Shp) (rngD 0 20) (env0 11) ⟨_, _, _, _, _, _, _, _, _, rfl⟩ fun d hd env he => by
    obtain ⟨a2, a3, a4, a5, a6, a7, a8, a9, a10, rfl⟩ := he
    exact ⟨_, rfl, out_ok ⟨_, _, _, _, _, _, _, _, _, rfl⟩⟩
  rw [rngD_len] at loop
  obtain ⟨fl, s1, e1, ⟨e', rfl, _⟩, _, _⟩ := loop ⟨ns.map absI, 0⟩ (Int.le_refl _) (by show (0 : Int) + ((20 * 100 : Nat) : Int) ≤ nMax; unfold nMax; decide)
  refine ⟨s1, ?_⟩
  have hb : b_law = seqM (forM (r1M (aCons (cst (.int 20)) aNil)) (nameT 2) outB) (retM (cst (.bl true))) := rfl
  have hr1 : rng1 [.int 20] = some (rngD 0 20) := by rw [rng1_of (by decide) (by decide)]; rfl
  rw [hb]
  generalize hg : outB = B at e1
  simp [hr1, e1]
end Lw

open PySem PySem.W PyProof.Rows
set_option maxHeartbeats 0 in
theorem PySem.Challenge.cw_unitlimits_k42_whole_fewest_parts_holds : PySem.Challenge.rw_unitlimits_k42_whole_fewest_parts.Holds := by
  w_on; o_law; k_head; (case hw => w_witness2)
  k_fill
  refine MD.walkG (l := PySem.Challenge.rw_unitlimits_k42_whole_fewest_parts) (n := 63) (k := 5) (x := "_law_script") rfl (by decide) rfl ⟨rfl, by decide, by decide⟩ (fun w h Y => PySem.W.kIn_of Y) ?F
  case F =>
    intro w mg fa h KX G hmg
    refine' Lw.all_mk Lw.law_holds KX G hmg ?ax0 ?lx0 ?ccx0 ?kx0 ?ax1 ?lx1 ?ccx1 ?kx1 ?ax2 ?lx2 ?ccx2 ?kx2 ?ax3 ?lx3 ?ccx3 ?kx3 ?ax4 ?lx4 ?ccx4 ?kx4 ?ax5 ?lx5 ?ccx5 ?kx5 ?ax6 ?lx6 ?ccx6 ?kx6 ?ax7 ?lx7 ?ccx7 ?kx7 ?ax8 ?lx8 ?ccx8 ?kx8 ?ax9 ?lx9 ?ccx9 ?kx9 ?ax10 ?lx10 ?ccx10 ?kx10 ?z_n_len ?z_n_tuple ?z_n_range ?z_n_enumerate ?z_c_LETTERS ?z_n_sum ?z_n_min ?z_n_int ?z_n_abs
    (case ax0 => k_is); (case lx0 => k_is); (case ccx0 => k_is); (case kx0 => k_is); (case ax1 => k_is); (case lx1 => k_is); (case ccx1 => k_is); (case kx1 => k_is); (case ax2 => k_is); (case lx2 => k_is); (case ccx2 => k_is); (case kx2 => k_is); (case ax3 => k_is); (case lx3 => k_is); (case ccx3 => k_is); (case kx3 => k_is); (case ax4 => k_is); (case lx4 => k_is); (case ccx4 => k_is); (case kx4 => k_is); (case ax5 => k_is); (case lx5 => k_is); (case ccx5 => k_is); (case kx5 => k_is); (case ax6 => k_is); (case lx6 => k_is); (case ccx6 => k_is); (case kx6 => k_is); (case ax7 => k_is); (case lx7 => k_is); (case ccx7 => k_is); (case kx7 => k_is); (case ax8 => k_is); (case lx8 => k_is); (case ccx8 => k_is); (case kx8 => k_is); (case ax9 => k_is); (case lx9 => k_is); (case ccx9 => k_is); (case kx9 => k_is); (case ax10 => k_is); (case lx10 => k_is); (case ccx10 => k_is); (case kx10 => k_is); (case z_n_len => k_is); (case z_n_tuple => k_is); (case z_n_range => k_is); (case z_n_enumerate => k_is); (case z_c_LETTERS => k_is); (case z_n_sum => k_is); (case z_n_min => k_is); (case z_n_int => k_is); (case z_n_abs => k_is)

