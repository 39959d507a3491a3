import PyProof.Rows.All
import Wide.All
import OpenK.AllK
import Wide.FinOn
import HandS.ForMost
import HandS.Replace
import HandS.TupAny
import HandS.RaiseMore
import PyProof.TupleOfStr
import KE.GoesMore
import HandS.ForDict
import HandS.More
import HandS.DictComp
import HandS.TupMul
import HandS.IsInst
import HandS.Style
import KE.LtData
import HandS.Conv
import PyProof.ReprRoads
import HandS.Text
import PyProof.ReprBulk
import PySem.Challenge.RW_unitlimits_k21_kinds_with_errors
set_option Elab.async false
set_option linter.all false
set_option maxRecDepth 100000
set_option maxHeartbeats 1000000
namespace MD
open PySem L2

/-! plain data, slots, the deck's state, the store -/
inductive D where
  | non | bl (b : Bool) | int (i : Int) | str (s : Str) | lst (xs : List D) | tup (xs : List D) | deck
  | dic (ks : List Key) (xs : List D) | ref (n : Nat)
/-- things that change and are known to many: by their number -/
inductive Ob where
  | lst (xs : List D) | dic (lk : Bool) (ks : List Key) (xs : List D) | ins (c : Str) (fs : List Str) (xs : List D)
structure S where
  cells : List Int
  n : Int
  ob : List Ob
/-- what a name alone holds and may change: a list, a dict with these keys -/
inductive Ow where
  | lst | dic (ks : List Key)
def Ow.At (H : Hp) (p : Addr) : Ow → List V → Prop
  | .lst, vs => H p = some (.lst vs)
  | .dic ks, vs => H p = some (.dK (ks.zip vs)) ∧ ks.length = vs.length
theorem Ow.At.some {H : Hp} {p : Addr} : ∀ {w : Ow} {vs : List V}, w.At H p vs → ∃ o, H p = some o
  | .lst, _, h => ⟨_, h⟩
  | .dic _, _, h => ⟨_, h.1⟩
/-- an own thing is not locked -/
theorem Ow.At.keep {H H' : Hp} {p : Addr} (e : ∀ o, H p = Option.some o → H' p = Option.some o) : ∀ {w : Ow} {vs : List V}, w.At H p vs → w.At H' p vs
  | .lst, _, h => e _ h
  | .dic _, _, h => ⟨e _ h.1, h.2⟩
abbrev Own := Ow × List D
inductive Sl where
  | un | val (d : D) | own (xs : Own)
abbrev Sg := List Sl
abbrev Dk := Addr × Addr
abbrev Fg := PySem.W.Frag
/-- the frozen things, and where the store's things stand -/
structure Fz where
  hp : Hp
  mu : List Addr
instance : CoeFun Fz fun _ => Hp := ⟨Fz.hp⟩
def Fz.up (F : Fz) (p : Addr) (o : HO) : Fz := ⟨upd F.hp p o, F.mu⟩
def Fz.out (F : Fz) (p : Addr) : Prop := F.hp p = none ∧ p ∉ F.mu
theorem Fz.up_same {F : Fz} {p : Addr} {o : HO} : F.up p o p = some o := upd_same
theorem Fz.up_ne {F : Fz} {p q : Addr} {o : HO} (h : q ≠ p) : F.up p o q = F q := upd_ne h

mutual
inductive Rp (K : Fg) (dk : Dk) (F : Fz) : V → D → Prop
  | non : Rp K dk F .non .non
  | bl (b : Bool) : Rp K dk F (.bl b) (.bl b)
  | int (i : Int) : Rp K dk F (.int i) (.int i)
  | str (x : Str) : Rp K dk F (.str x) (.str x)
  | lst {a : Addr} {vs : List V} {ds : List D} : F a = some (.lst vs) → Rps K dk F vs ds → Rp K dk F (.ref a) (.lst ds)
  | tup {a : Addr} {vs : List V} {ds : List D} : SqT K F.hp a vs → Rps K dk F vs ds → Rp K dk F (.ref a) (.tup ds)
  | deck : Rp K dk F (.ref dk.1) .deck
  | dic {a : Addr} {ks : List Key} {vs : List V} {ds : List D} : F a = some (.dK (ks.zip vs)) → ks.length = vs.length → Rps K dk F vs ds → Rp K dk F (.ref a) (.dic ks ds)
  | ref {a : Addr} {n : Nat} : F.mu[n]? = some a → Rp K dk F (.ref a) (.ref n)
inductive Rps (K : Fg) (dk : Dk) (F : Fz) : List V → List D → Prop
  | nil : Rps K dk F [] []
  | cons {v : V} {vs : List V} {d : D} {ds : List D} : Rp K dk F v d → Rps K dk F vs ds → Rps K dk F (v :: vs) (d :: ds)
end

/-- a heap that keeps another's things -/
def Lh (F F' : Hp) : Prop := ∀ a o, F a = some o → F' a = some o
theorem Lh.refl (F : Hp) : Lh F F := fun _ _ h => h
theorem Lh.trans {A B C : Hp} (x : Lh A B) (y : Lh B C) : Lh A C := fun a o h => y a o (x a o h)
theorem Lh.rd {F F' : Hp} {a : Addr} {u : HO} (e : Lh F F') (h : Rd F a u) : Rd F' a u := by
  rcases h with h | ⟨o, h⟩
  · exact .inl (e _ _ h)
  · exact .inr ⟨o, e _ _ h⟩
theorem Lh.sqT {K : Fg} {F F' : Hp} {a : Addr} {xs : List V} (e : Lh F F') (h : SqT K F a xs) : SqT K F' a xs := by
  rcases h with h | h
  · exact .inl (e.rd h)
  · exact .inr h
theorem Lh.free {F F' : Hp} {a : Addr} (e : Lh F F') (h : F' a = none) : F a = none := by
  cases q : F a with
  | none => rfl
  | some o => rw [e _ _ q] at h; cases h
theorem Lh.new {F : Hp} {p : Addr} {o : HO} (h : F p = none) : Lh F (upd F p o) := fun a u e => by
  rw [upd_ne (ne_of_none e h)]; exact e
/-- more is frozen, more stands in the store -/
structure Le (F F' : Fz) : Prop where
  h : Lh F.hp F'.hp
  m : ∃ l, F'.mu = F.mu ++ l
theorem Le.refl (F : Fz) : Le F F := ⟨Lh.refl _, [], by simp⟩
theorem Le.trans {A B C : Fz} (x : Le A B) (y : Le B C) : Le A C := ⟨x.h.trans y.h, by
  obtain ⟨l, e⟩ := x.m
  obtain ⟨l', e'⟩ := y.m
  exact ⟨l ++ l', by rw [e', e, List.append_assoc]⟩⟩
theorem Le.sqT {K : Fg} {F F' : Fz} {a : Addr} {xs : List V} (e : Le F F') (h : SqT K F.hp a xs) : SqT K F'.hp a xs := e.h.sqT h
theorem Le.new {F : Fz} {p : Addr} {o : HO} (h : F p = none) : Le F (F.up p o) := ⟨Lh.new h, [], by simp [Fz.up]⟩
theorem Le.at {F F' : Fz} (e : Le F F') {n : Nat} {a : Addr} (h : F.mu[n]? = some a) : F'.mu[n]? = some a := by
  obtain ⟨l, e⟩ := e.m
  rw [e, List.getElem?_append_left (by
    by_cases hl : n < F.mu.length
    · exact hl
    · rw [List.getElem?_eq_none (by omega)] at h; cases h)]
  exact h
theorem Le.mem {F F' : Fz} (e : Le F F') {a : Addr} (h : a ∈ F.mu) : a ∈ F'.mu := by
  obtain ⟨l, e⟩ := e.m
  rw [e]; exact List.mem_append_left _ h
/-- what is frozen stands in the heap; a dict may be locked -/
def Sb (F : Fz) (H : Hp) : Prop := ∀ a o, F a = some o → H a = some o ∨ ∃ od kvs, o = .dK kvs ∧ H a = some (.frz od o)
section
variable {F F' : Fz} {H H' : Hp} {K : Fg} {a : Addr}
theorem Sb.lst {vs : List V} (s : Sb F H) (h : F a = some (.lst vs)) : H a = some (.lst vs) := by
  rcases s a _ h with z | ⟨od, kvs, z, _⟩
  · exact z
  · cases z
theorem Sb.dK {kvs : List (Key × V)} (s : Sb F H) (h : F a = some (.dK kvs)) : Rd H a (.dK kvs) := by
  rcases s a _ h with z | ⟨od, _, _, z⟩
  · exact .inl z
  · exact .inr ⟨od, z⟩
theorem Sb.sqT {xs : List V} (s : Sb F H) (h : SqT K F.hp a xs) : SqT K H a xs := by
  rcases h with h | h
  · rcases h with h | ⟨o, h⟩
    · rcases s a _ h with z | ⟨_, _, z, _⟩
      · exact .inl (.inl z)
      · cases z
    · rcases s a _ h with z | ⟨_, _, z, _⟩
      · exact .inl (.inr ⟨o, z⟩)
      · cases z
  · exact .inr h
theorem Sb.free (s : Sb F H) (h : H a = none) : F a = none := by
  cases q : F a with
  | none => rfl
  | some o =>
    rcases s a _ q with z | ⟨_, _, _, z⟩ <;> rw [z] at h <;> cases h
theorem Sb.some (s : Sb F H) {o : HO} (h : F a = some o) : H a ≠ none := fun z => by rw [s.free z] at h; cases h
theorem Le.sb (e : Le F F') (s : Sb F' H) : Sb F H := fun a o h => s a o (e.h a o h)
theorem Sb.lh (s : Sb F H) (e : Lh H H') : Sb F H' := fun a o h => by
  rcases s a o h with z | ⟨od, kvs, z1, z⟩
  · exact .inl (e _ _ z)
  · exact .inr ⟨od, kvs, z1, e _ _ z⟩
end

mutual
theorem Rp.mono {K : Fg} {dk : Dk} {F F' : Fz} (e : Le F F') : ∀ {v : V} {d : D}, Rp K dk F v d → Rp K dk F' v d
  | _, _, .non => .non
  | _, _, .bl b => .bl b
  | _, _, .int i => .int i
  | _, _, .str x => .str x
  | _, _, .lst h r => .lst (e.h _ _ h) (Rps.mono e r)
  | _, _, .tup h r => .tup (e.sqT h) (Rps.mono e r)
  | _, _, .deck => .deck
  | _, _, .dic h l r => .dic (e.h _ _ h) l (Rps.mono e r)
  | _, _, .ref h => .ref (e.at h)
theorem Rps.mono {K : Fg} {dk : Dk} {F F' : Fz} (e : Le F F') : ∀ {vs : List V} {ds : List D}, Rps K dk F vs ds → Rps K dk F' vs ds
  | _, _, .nil => .nil
  | _, _, .cons a b => .cons (Rp.mono e a) (Rps.mono e b)
end

section
variable {K : Fg} {dk : Dk} {F F' : Fz} {H H' : Hp}
theorem Rps.length : ∀ {vs : List V} {ds : List D}, Rps K dk F vs ds → vs.length = ds.length
  | _, _, .nil => rfl
  | _, _, .cons _ r => by simp [Rps.length r]
theorem Rps.get : ∀ {vs : List V} {ds : List D} {i : Nat} {d : D}, Rps K dk F vs ds → ds[i]? = some d → ∃ v, vs[i]? = some v ∧ Rp K dk F v d
  | _, _, _, _, .nil, e => by simp at e
  | _, _, 0, _, .cons a _, e => by simp at e; subst e; exact ⟨_, rfl, a⟩
  | _, _, i + 1, _, .cons _ r, e => by
    obtain ⟨v, h1, h2⟩ := Rps.get (i := i) r (by simpa using e)
    exact ⟨v, by simpa using h1, h2⟩
theorem Rps.getV : ∀ {vs : List V} {ds : List D} {i : Nat} {v : V}, Rps K dk F vs ds → vs[i]? = some v → ∃ d, ds[i]? = some d ∧ Rp K dk F v d
  | _, _, _, _, .nil, e => by simp at e
  | _, _, 0, _, .cons a _, e => by simp at e; subst e; exact ⟨_, rfl, a⟩
  | _, _, i + 1, _, .cons _ r, e => by
    obtain ⟨v, h1, h2⟩ := Rps.getV (i := i) r (by simpa using e)
    exact ⟨v, by simpa using h1, h2⟩
theorem Rps.append : ∀ {vs us : List V} {ds es : List D}, Rps K dk F vs ds → Rps K dk F us es → Rps K dk F (vs ++ us) (ds ++ es)
  | _, _, _, _, .nil, s => s
  | _, _, _, _, .cons a r, s => .cons a (Rps.append r s)
theorem Rps.take : ∀ {vs : List V} {ds : List D} (n : Nat), Rps K dk F vs ds → Rps K dk F (vs.take n) (ds.take n)
  | _, _, 0, _ => .nil
  | _, _, _ + 1, .nil => .nil
  | _, _, n + 1, .cons a r => .cons a (Rps.take n r)
theorem Rps.drop : ∀ {vs : List V} {ds : List D} (n : Nat), Rps K dk F vs ds → Rps K dk F (vs.drop n) (ds.drop n)
  | _, _, 0, r => r
  | _, _, _ + 1, .nil => .nil
  | _, _, n + 1, .cons _ r => Rps.drop n r
theorem Rps.set {v : V} {d : D} (r : Rp K dk F v d) : ∀ {vs : List V} {ds : List D} (n : Nat), Rps K dk F vs ds → Rps K dk F (vs.set n v) (ds.set n d)
  | _, _, _, .nil => .nil
  | _, _, 0, .cons _ t => .cons r t
  | _, _, n + 1, .cons a t => .cons a (Rps.set r n t)
theorem Rps.one {v : V} {d : D} (r : Rp K dk F v d) : Rps K dk F [v] [d] := .cons r .nil

/-! the store's things -/
def clsOf (K : Fg) (c : Str) : Option Addr := match PySem.W.nsIn K mainGlobals c with
  | some (some (.ref C)) => some C
  | _ => none
inductive ObAt (K : Fg) (dk : Dk) (F : Fz) (H : Hp) (a : Addr) : Ob → Prop
  | lst {vs : List V} {ds : List D} : H a = some (.lst vs) → Rps K dk F vs ds → ObAt K dk F H a (.lst ds)
  | dic {ks : List Key} {vs : List V} {ds : List D} : H a = some (.dK (ks.zip vs)) → ks.length = vs.length → Rps K dk F vs ds → ObAt K dk F H a (.dic false ks ds)
  | lck {od : Obj} {ks : List Key} {vs : List V} {ds : List D} : H a = some (.frz od (.dK (ks.zip vs))) → ks.length = vs.length → Rps K dk F vs ds → ObAt K dk F H a (.dic true ks ds)
  | ins {c : Str} {C dx : Addr} {fs : List Str} {vs : List V} {ds : List D} : clsOf K c = some C → H a = some (.ins C dx (fs.zip vs)) → fs.length = vs.length → Rps K dk F vs ds → ObAt K dk F H a (.ins c fs ds)
theorem ObAt.some {a : Addr} {o : Ob} (h : ObAt K dk F H a o) : H a ≠ none := by
  cases h <;> (rename_i h _ <;> intro z) <;> simp_all
theorem ObAt.keep {a : Addr} {o : Ob} (h : ObAt K dk F H a o) (e : ∀ o, H a = Option.some o → H' a = Option.some o) (le : Le F F') : ObAt K dk F' H' a o := by
  cases h with
  | lst h r => exact .lst (e _ h) (r.mono le)
  | dic h l r => exact .dic (e _ h) l (r.mono le)
  | lck h l r => exact .lck (e _ h) l (r.mono le)
  | ins c h l r => exact .ins c (e _ h) l (r.mono le)

structure Wd (K : Fg) (dk : Dk) (F : Fz) (H : Hp) (st : S) : Prop where
  sub : Sb F H
  d1 : H dk.1 = some (.lst [.ref dk.2, .int st.n])
  d2 : H dk.2 = some (.lst (st.cells.map V.int))
  f1 : F.out dk.1
  f2 : F.out dk.2
  ne : dk.1 ≠ dk.2
  ml : F.mu.length = st.ob.length
  nd : F.mu.Nodup
  ob : ∀ (n : Nat) (a : Addr) (o : Ob), F.mu[n]? = some a → st.ob[n]? = some o → F a = none ∧ ObAt K dk F H a o
theorem Wd.mu {st : S} (w : Wd K dk F H st) {a : Addr} (h : a ∈ F.mu) : ∃ (n : Nat) (o : Ob), F.mu[n]? = some a ∧ st.ob[n]? = some o ∧ F a = none ∧ ObAt K dk F H a o := by
  obtain ⟨n, hn, e⟩ := List.getElem_of_mem h
  have hn' : n < st.ob.length := by rw [← w.ml]; exact hn
  have e1 : F.mu[n]? = some a := by rw [List.getElem?_eq_getElem hn, e]
  have e2 := List.getElem?_eq_getElem hn'
  exact ⟨n, _, e1, e2, w.ob n a _ e1 e2⟩
theorem Wd.nomu {st : S} (w : Wd K dk F H st) {a : Addr} (h : H a = none) : a ∉ F.mu := fun z => by
  obtain ⟨n, o, _, _, _, q⟩ := w.mu z
  exact q.some h
theorem Wd.out {st : S} (w : Wd K dk F H st) {a : Addr} (h : H a = none) : F.out a := ⟨w.sub.free h, w.nomu h⟩

/-- locked -/
def Fro (o : HO) : Prop := ∃ od u, o = .frz od u
structure Ext (dk : Dk) (F : Fz) (H : Hp) (F' : Fz) (H' : Hp) : Prop where
  h : ∀ a o, H a = some o → a ≠ dk.1 → a ≠ dk.2 → a ∉ F.mu ∨ Fro o → H' a = some o
  f : Le F F'
  n : ∀ a, F a = none → H a ≠ none → F' a = none
  m : ∀ a, H a ≠ none → H' a ≠ none
  u : ∀ a, a ∈ F'.mu → a ∈ F.mu ∨ H a = none
  k : ∀ a o, H' a = some o → Fro o → H a = some o
theorem Ext.refl (F : Fz) (H : Hp) : Ext dk F H F H := ⟨fun _ _ h _ _ _ => h, Le.refl F, fun _ h _ => h, fun _ h => h, fun _ h => .inl h, fun _ _ h _ => h⟩
theorem Ext.trans {A : Fz} {B : Hp} {F1 : Fz} {H1 : Hp} {F2 : Fz} {H2 : Hp} (x : Ext dk A B F1 H1) (y : Ext dk F1 H1 F2 H2) : Ext dk A B F2 H2 :=
  ⟨fun a o h n1 n2 n3 => y.h a o (x.h a o h n1 n2 n3) n1 n2 (n3.imp (fun n3 z => by
      rcases x.u a z with q | q
      · exact n3 q
      · rw [q] at h; cases h) id),
    x.f.trans y.f, fun a h1 h2 => y.n a (x.n a h1 h2) (x.m a h2), fun a h => y.m a (x.m a h), fun a h => by
      rcases y.u a h with q | q
      · exact x.u a q
      · refine .inr ?_
        cases w : B a with
        | none => rfl
        | some o => exact absurd q (x.m a (by rw [w]; exact fun z => nomatch z)), fun a o h f => x.k a o (y.k a o h f) f⟩
theorem Ext.out (x : Ext dk F H F' H') {a : Addr} (h : F.out a) (h2 : H a ≠ none) : F'.out a := ⟨x.n a h.1 h2, fun z => by
  rcases x.u a z with q | q
  · exact h.2 q
  · exact h2 q⟩
theorem Ext.back (x : Ext dk F H F' H') {a : Addr} (h : H' a = none) : H a = none := by
  cases w : H a with
  | none => rfl
  | some o => exact absurd h (x.m a (by rw [w]; exact fun z => nomatch z))

/-- an operation that keeps all and only lays new things -/
structure Px (F : Fz) (H : Hp) (F' : Fz) (H' : Hp) : Prop where
  h : Lh H H'
  f : Le F F'
  n : ∀ a, F a = none → H a ≠ none → F' a = none
  s : Sb F' H'
  m : F'.mu = F.mu
  k : ∀ a o, H' a = some o → Fro o → H a = some o
theorem Px.refl (s : Sb F H) : Px F H F H := ⟨Lh.refl H, Le.refl F, fun _ h _ => h, s, rfl, fun _ _ h _ => h⟩
theorem Px.ext (x : Px F H F' H') : Ext dk F H F' H' := ⟨fun a o e _ _ _ => x.h a o e, x.f, x.n, fun a h z => h (x.h.free z), fun a h => .inl (by rw [x.m] at h; exact h), x.k⟩
theorem nn {o : Option HO} {u : HO} (h : o = some u) : o ≠ none := by rw [h]; exact fun z => nomatch z
theorem Px.wd {st : S} (x : Px F H F' H') (w : Wd K dk F H st) : Wd K dk F' H' st :=
  ⟨x.s, x.h _ _ w.d1, x.h _ _ w.d2, ⟨x.n _ w.f1.1 (nn w.d1), by rw [x.m]; exact w.f1.2⟩, ⟨x.n _ w.f2.1 (nn w.d2), by rw [x.m]; exact w.f2.2⟩, w.ne, by rw [x.m]; exact w.ml, by rw [x.m]; exact w.nd,
    fun n a o h1 h2 => by
      rw [x.m] at h1
      obtain ⟨q1, q2⟩ := w.ob n a o h1 h2
      exact ⟨x.n _ q1 q2.some, q2.keep (fun o e => x.h _ _ e) x.f⟩⟩
theorem Px.trans {F2 : Fz} {H2 : Hp} (x : Px F H F' H') (y : Px F' H' F2 H2) : Px F H F2 H2 :=
  ⟨x.h.trans y.h, x.f.trans y.f, fun a h1 h2 => y.n a (x.n a h1 h2) (fun z => h2 (x.h.free z)), y.s, y.m.trans x.m, fun a o h f => x.k a o (y.k a o h f) f⟩
theorem updK {p : Addr} {o : HO} (nf : ¬ Fro o) (a : Addr) (u : HO) (h : upd H p o a = some u) (f : Fro u) : H a = some u := by
  by_cases na : a = p
  · subst na; rw [upd_same] at h; cases h; exact absurd f nf
  · rw [upd_ne na] at h; exact h
/-- a new frozen thing -/
theorem Px.new {p : Addr} {o : HO} (s : Sb F H) (hp : H p = none) (nf : ¬ Fro o := by rintro ⟨_, _, z⟩; cases z) : Px F H (F.up p o) (upd H p o) := by
  have fp : F p = none := s.free hp
  refine ⟨Lh.new hp, Le.new fp, fun a h1 h2 => ?_, fun a u e => ?_, rfl, updK nf⟩
  · have na : a ≠ p := fun z => h2 (z ▸ hp)
    rw [Fz.up_ne na]; exact h1
  · by_cases na : a = p
    · subst na
      rw [Fz.up_same] at e
      rw [upd_same]; exact .inl e
    · rw [Fz.up_ne na] at e; rw [upd_ne na]; exact s a u e
/-- a new thing that is not frozen -/
theorem Px.lay {p : Addr} {o : HO} (s : Sb F H) (hp : H p = none) (nf : ¬ Fro o := by rintro ⟨_, _, z⟩; cases z) : Px F H F (upd H p o) :=
  ⟨Lh.new hp, Le.refl F, fun _ h _ => h, s.lh (Lh.new hp), rfl, updK nf⟩

/-- data as it stands in this heap, whoever holds it -/
inductive Rw (K : Fg) (dk : Dk) (F : Fz) (H : Hp) : V → D → Prop
  | rp {v : V} {d : D} : Rp K dk F v d → Rw K dk F H v d
  | lst {p : Addr} {vs : List V} {ds : List D} : H p = some (.lst vs) → Rps K dk F vs ds → Rw K dk F H (.ref p) (.lst ds)
  | dic {p : Addr} {ks : List Key} {vs : List V} {ds : List D} : Rd H p (.dK (ks.zip vs)) → ks.length = vs.length → Rps K dk F vs ds → Rw K dk F H (.ref p) (.dic ks ds)
/-- data that stays while other things are worked out: frozen, or a name's own -/
inductive Ry (K : Fg) (dk : Dk) (F : Fz) (H : Hp) : V → D → Prop
  | rp {v : V} {d : D} : Rp K dk F v d → Ry K dk F H v d
  | lst {p : Addr} {vs : List V} {ds : List D} : H p = some (.lst vs) → p ≠ dk.1 → p ≠ dk.2 → p ∉ F.mu → Rps K dk F vs ds → Ry K dk F H (.ref p) (.lst ds)
  | dic {p : Addr} {ks : List Key} {vs : List V} {ds : List D} : Rd H p (.dK (ks.zip vs)) → p ≠ dk.1 → p ≠ dk.2 → p ∉ F.mu → ks.length = vs.length → Rps K dk F vs ds → Ry K dk F H (.ref p) (.dic ks ds)
theorem Ext.nmu (x : Ext dk F H F' H') {a : Addr} (h : a ∉ F.mu) (h2 : H a ≠ none) : a ∉ F'.mu := fun z => by
  rcases x.u a z with q | q
  · exact h q
  · exact h2 q
theorem rdn {a : Addr} {u : HO} (h : Rd H a u) : H a ≠ none := by
  rcases h with h | ⟨o, h⟩ <;> exact nn h
theorem Ext.rd (x : Ext dk F H F' H') {a : Addr} {u : HO} (h : Rd H a u) (n1 : a ≠ dk.1) (n2 : a ≠ dk.2) (n3 : a ∉ F.mu) : Rd H' a u := by
  rcases h with h | ⟨o, h⟩
  · exact .inl (x.h _ _ h n1 n2 (.inl n3))
  · exact .inr ⟨o, x.h _ _ h n1 n2 (.inl n3)⟩
theorem Ry.ext {v : V} {d : D} (r : Ry K dk F H v d) (x : Ext dk F H F' H') : Ry K dk F' H' v d := by
  cases r with
  | rp r => exact .rp (r.mono x.f)
  | lst h n1 n2 n3 r => exact .lst (x.h _ _ h n1 n2 (.inl n3)) n1 n2 (x.nmu n3 (nn h)) (r.mono x.f)
  | dic h n1 n2 n3 l r => exact .dic (x.rd h n1 n2 n3) n1 n2 (x.nmu n3 (rdn h)) l (r.mono x.f)
theorem Ry.w {v : V} {d : D} (r : Ry K dk F H v d) : Rw K dk F H v d := by
  cases r with
  | rp r => exact .rp r
  | lst h n1 n2 n3 r => exact .lst h r
  | dic h n1 n2 n3 l r => exact .dic h l r
inductive Rws (K : Fg) (dk : Dk) (F : Fz) (H : Hp) : List V → List D → Prop
  | nil : Rws K dk F H [] []
  | cons {v : V} {vs : List V} {d : D} {ds : List D} : Rw K dk F H v d → Rws K dk F H vs ds → Rws K dk F H (v :: vs) (d :: ds)
inductive Rys (K : Fg) (dk : Dk) (F : Fz) (H : Hp) : List V → List D → Prop
  | nil : Rys K dk F H [] []
  | cons {v : V} {vs : List V} {d : D} {ds : List D} : Ry K dk F H v d → Rys K dk F H vs ds → Rys K dk F H (v :: vs) (d :: ds)
theorem Rys.ext (x : Ext dk F H F' H') : ∀ {vs : List V} {ds : List D}, Rys K dk F H vs ds → Rys K dk F' H' vs ds
  | _, _, .nil => .nil
  | _, _, .cons a b => .cons (a.ext x) (Rys.ext x b)
/-- what a thing of the store is at this time -/
def dr (st : S) : D → D
  | .ref n => match st.ob[n]? with
    | some (.lst ds) => .lst ds
    | some (.dic _ ks ds) => .dic ks ds
    | _ => .ref n
  | d => d
theorem Ry.dr {v : V} {d : D} {st : S} (r : Ry K dk F H v d) (w : Wd K dk F H st) : Rw K dk F H v (dr st d) := by
  cases d with
  | ref n =>
    cases r with
    | rp r =>
      cases r with
      | ref h =>
        unfold MD.dr
        dsimp only
        split
        · rename_i ho
          obtain ⟨_, q⟩ := w.ob n _ _ h ho
          cases q with
          | lst h r => exact .lst h r
        · rename_i ho
          obtain ⟨_, q⟩ := w.ob n _ _ h ho
          cases q with
          | dic h l r => exact .dic (.inl h) l r
          | lck h l r => exact .dic (.inr ⟨_, h⟩) l r
        · exact .rp (.ref h)
  | _ => exact r.w
theorem Rys.dr {st : S} (w : Wd K dk F H st) : ∀ {vs : List V} {ds : List D}, Rys K dk F H vs ds → Rws K dk F H vs (ds.map (dr st))
  | _, _, .nil => .nil
  | _, _, .cons a b => .cons (a.dr w) (Rys.dr w b)
/-- a list in H, whoever owns it -/
theorem Rw.l {v : V} {ds : List D} (s : Sb F H) (r : Rw K dk F H v (.lst ds)) : ∃ p vs, v = .ref p ∧ H p = some (.lst vs) ∧ Rps K dk F vs ds := by
  cases r with
  | rp r => cases r with
    | lst h r => exact ⟨_, _, rfl, s.lst h, r⟩
  | lst h r => exact ⟨_, _, rfl, h, r⟩
theorem Rw.d {v : V} {ks : List Key} {ds : List D} (s : Sb F H) (r : Rw K dk F H v (.dic ks ds)) : ∃ p vs, v = .ref p ∧ Rd H p (.dK (ks.zip vs)) ∧ ks.length = vs.length ∧ Rps K dk F vs ds := by
  cases r with
  | rp r => cases r with
    | dic h l r => exact ⟨_, _, rfl, s.dK h, l, r⟩
  | dic h l r => exact ⟨_, _, rfl, h, l, r⟩
theorem Rw.tp {v : V} {ds : List D} (r : Rw K dk F H v (.tup ds)) : Rp K dk F v (.tup ds) := by
  cases r with
  | rp r => exact r
theorem Rw.tup {v : V} {ds : List D} (s : Sb F H) (r : Rw K dk F H v (.tup ds)) : ∃ p vs, v = .ref p ∧ SqT K H p vs ∧ Rps K dk F vs ds := by
  cases r.tp with
  | tup h r => exact ⟨_, _, rfl, s.sqT h, r⟩
theorem Rw.int {v : V} {i : Int} (r : Rw K dk F H v (.int i)) : v = .int i := by
  cases r with
  | rp r => cases r; rfl
theorem Rw.str {v : V} {x : Str} (r : Rw K dk F H v (.str x)) : v = .str x := by
  cases r with
  | rp r => cases r; rfl
theorem Rw.bl {v : V} {b : Bool} (r : Rw K dk F H v (.bl b)) : v = .bl b := by
  cases r with
  | rp r => cases r; rfl
theorem Rw.non {v : V} (r : Rw K dk F H v .non) : v = .non := by
  cases r with
  | rp r => cases r; rfl
theorem Rw.isNon {v : V} {d : D} (r : Rw K dk F H v d) : decide (v = .non) = (match d with | .non => true | _ => false) := by
  cases r with
  | rp r => cases r <;> rfl
  | lst _ _ => rfl
  | dic _ _ _ => rfl

/-! slots -/
def SlOk (K : Fg) (dk : Dk) (F : Fz) (H H0 : Hp) (v : Option V) : Sl → Prop
  | .un => True
  | .val d => ∃ x, v = some x ∧ Rp K dk F x d
  | .own w => ∃ p vs, v = some (.ref p) ∧ w.1.At H p vs ∧ F.out p ∧ H0 p = none ∧ p ≠ dk.1 ∧ p ≠ dk.2 ∧ Rps K dk F vs w.2
structure Good (K : Fg) (dk : Dk) (H0 : Hp) (F0 F : Fz) (σ : L2.St) (H : Hp) (env : Sg) (st : S) : Prop where
  wd : Wd K dk F H st
  ext : Ext dk F0 H0 F H
  len : σ.length = env.length
  sl : ∀ (i : Nat) (s : Sl), env[i]? = some s → SlOk K dk F H H0 (σ[i]?).join s
  dis : ∀ (i j : Nat) (ds es : Own) (p : Addr), i ≠ j → env[i]? = some (.own ds) → env[j]? = some (.own es) → σ[i]? = some (some (.ref p)) → σ[j]? ≠ some (some (.ref p))
theorem Good.step {H0 : Hp} {F0 : Fz} {σ : L2.St} {env : Sg} {st st' : S} (g : Good K dk H0 F0 F σ H env st) (x : Ext dk F H F' H') (w : Wd K dk F' H' st') : Good K dk H0 F0 F' σ H' env st' := by
  refine ⟨w, g.ext.trans x, g.len, fun i s e => ?_, g.dis⟩
  have q := g.sl i s e
  cases s with
  | un => trivial
  | val d => obtain ⟨v, h1, h2⟩ := q; exact ⟨v, h1, h2.mono x.f⟩
  | own ds =>
    obtain ⟨p, vs, h1, h2, h3, h4, h5, h6, h7⟩ := q
    exact ⟨p, vs, h1, h2.keep fun o e => x.h _ _ e h5 h6 (.inl h3.2), x.out h3 (by obtain ⟨o, ho⟩ := h2.some; exact nn ho), h4, h5, h6, h7.mono x.f⟩
theorem Good.px {H0 : Hp} {F0 : Fz} {σ : L2.St} {env : Sg} {st : S} (g : Good K dk H0 F0 F σ H env st) (x : Px F H F' H') : Good K dk H0 F0 F' σ H' env st := g.step x.ext (x.wd g.wd)
end
end MD

set_option Elab.async false
set_option linter.all false
set_option maxRecDepth 100000
set_option maxHeartbeats 1000000
namespace MD
open PySem L2

abbrev ME := Sg → S → Option (D × S)
abbrev MT := Sg → S → Option (Bool × S)
abbrev MA := Sg → S → Option (List D × S)

section
variable (K : Fg)
def Im (te : TE) (f : ME) : Prop := ∀ (dk : Dk) (H0 : Hp) (F0 F : Fz) (σ : L2.St) (H : Hp) (env : Sg) (st : S) (d : D) (st' : S), Good K dk H0 F0 F σ H env st → f env st = some (d, st') →
  ∀ Q : VK, (∀ v F' H', Ext dk F H F' H' → Good K dk H0 F0 F' σ H' env st' → Rp K dk F' v d → Q v H') → te σ H Q
def ImW (te : TE) (f : ME) : Prop := ∀ (dk : Dk) (H0 : Hp) (F0 F : Fz) (σ : L2.St) (H : Hp) (env : Sg) (st : S) (d : D) (st' : S), Good K dk H0 F0 F σ H env st → f env st = some (d, st') →
  ∀ Q : VK, (∀ v F' H', Ext dk F H F' H' → Good K dk H0 F0 F' σ H' env st' → Ry K dk F' H' v d → Q v H') → te σ H Q
def ImF (te : TE) (f : MA) : Prop := ∀ (dk : Dk) (H0 : Hp) (F0 F : Fz) (σ : L2.St) (H : Hp) (env : Sg) (st : S) (ds : List D) (st' : S), Good K dk H0 F0 F σ H env st → f env st = some (ds, st') →
  ∀ Q : VK, (∀ p vs F' H', Ext dk F H F' H' → Good K dk H0 F0 F' σ H' env st' → H p = none → F'.out p → H' p = some (.lst vs) → Rps K dk F' vs ds → Q (.ref p) H') → te σ H Q
def ImT (tt : TT) (f : MT) : Prop := ∀ (dk : Dk) (H0 : Hp) (F0 F : Fz) (σ : L2.St) (H : Hp) (env : Sg) (st : S) (b : Bool) (st' : S), Good K dk H0 F0 F σ H env st → f env st = some (b, st') →
  ∀ Q : Bool → Hp → Prop, (∀ F' H', Ext dk F H F' H' → Good K dk H0 F0 F' σ H' env st' → Q b H') → tt σ H Q
def ImA (ta : TA) (f : MA) : Prop := ∀ (dk : Dk) (H0 : Hp) (F0 F : Fz) (σ : L2.St) (H : Hp) (env : Sg) (st : S) (ds : List D) (st' : S), Good K dk H0 F0 F σ H env st → f env st = some (ds, st') →
  ∀ Q : List V → Hp → Prop, (∀ vs F' H', Ext dk F H F' H' → Good K dk H0 F0 F' σ H' env st' → Rps K dk F' vs ds → Q vs H') → ta σ H Q
def ImAW (ta : TA) (f : MA) : Prop := ∀ (dk : Dk) (H0 : Hp) (F0 F : Fz) (σ : L2.St) (H : Hp) (env : Sg) (st : S) (ds : List D) (st' : S), Good K dk H0 F0 F σ H env st → f env st = some (ds, st') →
  ∀ Q : List V → Hp → Prop, (∀ vs F' H', Ext dk F H F' H' → Good K dk H0 F0 F' σ H' env st' → Rys K dk F' H' vs ds → Q vs H') → ta σ H Q
end

theorem bnd {α β : Type} {o : Option α} {f : α → Option β} {b : β} (h : o.bind f = some b) : ∃ a, o = some a ∧ f a = some b := by
  cases o with
  | none => cases h
  | some a => exact ⟨a, rfl, h⟩
theorem mpd {α β : Type} {o : Option α} {f : α → β} {b : β} (h : o.map f = some b) : ∃ a, o = some a ∧ f a = b := by
  cases o with
  | none => cases h
  | some a => exact ⟨a, rfl, Option.some.inj h⟩

section
variable {K : Fg} {dk : Dk} {F F' F0 : Fz} {H H' H0 : Hp} {σ : L2.St} {env : Sg} {st : S}
theorem Good.fresh0 (g : Good K dk H0 F0 F σ H env st) {p : Addr} (hp : H p = none) : H0 p = none := by
  cases q : H0 p with
  | none => rfl
  | some o => exact absurd hp (g.ext.m p (by rw [q]; exact fun z => nomatch z))
theorem Good.nedk (g : Good K dk H0 F0 F σ H env st) {p : Addr} (hp : H p = none) : p ≠ dk.1 ∧ p ≠ dk.2 :=
  ⟨fun z => (by rw [z, g.wd.d1] at hp; cases hp), fun z => (by rw [z, g.wd.d2] at hp; cases hp)⟩
theorem join_eq {x : Option (Option V)} {v : V} (h : x.join = some v) : x = some (some v) := by
  cases x with
  | none => cases h
  | some y => cases y with
    | none => cases h
    | some z => rw [show z = v from Option.some.inj h]
theorem Good.noown (g : Good K dk H0 F0 F σ H env st) {p : Addr} (hp : H p = none) : ∀ (i : Nat) (ds : Own), env[i]? = some (.own ds) → σ[i]? ≠ some (some (.ref p)) := fun i ds e z => by
  obtain ⟨q, vs, h1, h2, _⟩ := g.sl i _ e
  have h3 := join_eq h1
  rw [z] at h3
  cases h3
  obtain ⟨o, ho⟩ := h2.some
  rw [hp] at ho; cases ho
/-- what is nobody's own may be frozen -/
theorem Wd.freeze {p : Addr} {o : HO} (w : Wd K dk F H st) (hp : H p = some o) (fp : F.out p) (n1 : p ≠ dk.1) (n2 : p ≠ dk.2) : Wd K dk (F.up p o) H st := by
  have le : Le F (F.up p o) := Le.new fp.1
  refine ⟨fun a u e => ?_, w.d1, w.d2, ⟨by rw [Fz.up_ne n1.symm]; exact w.f1.1, w.f1.2⟩, ⟨by rw [Fz.up_ne n2.symm]; exact w.f2.1, w.f2.2⟩, w.ne, w.ml, w.nd, fun n a u h1 h2 => ?_⟩
  · by_cases na : a = p
    · subst na; rw [Fz.up_same] at e; rw [← e]; exact .inl hp
    · rw [Fz.up_ne na] at e; exact w.sub a u e
  · obtain ⟨q1, q2⟩ := w.ob n a u h1 h2
    have na : a ≠ p := fun z => fp.2 (z ▸ List.mem_of_getElem? h1)
    exact ⟨by rw [Fz.up_ne na]; exact q1, q2.keep (fun _ e => e) le⟩
theorem Good.freeze {p : Addr} {o : HO} (g : Good K dk H0 F0 F σ H env st) (hp : H p = some o) (fp : F.out p) (h0 : H0 p = none) (n1 : p ≠ dk.1) (n2 : p ≠ dk.2)
    (no : ∀ (i : Nat) (ds : Own), env[i]? = some (.own ds) → σ[i]? ≠ some (some (.ref p))) : Good K dk H0 F0 (F.up p o) σ H env st := by
  have le : Le F (F.up p o) := Le.new fp.1
  refine ⟨g.wd.freeze hp fp n1 n2, ⟨g.ext.h, g.ext.f.trans le, fun a h1 h2 => ?_, g.ext.m, g.ext.u, g.ext.k⟩, g.len, fun i s e => ?_, g.dis⟩
  · have na : a ≠ p := fun z => h2 (z ▸ h0)
    rw [Fz.up_ne na]; exact g.ext.n a h1 h2
  · have q := g.sl i s e
    cases s with
    | un => trivial
    | val d => obtain ⟨v, h1, h2⟩ := q; exact ⟨v, h1, h2.mono le⟩
    | own ds =>
      obtain ⟨r, vs, h1, h2, h3, h4, h5, h6, h7⟩ := q
      have nr : r ≠ p := fun z => no i ds e (by rw [← z]; exact join_eq h1)
      exact ⟨r, vs, h1, h2, ⟨by rw [Fz.up_ne nr]; exact h3.1, h3.2⟩, h4, h5, h6, h7.mono le⟩
theorem Ext.freeze {p : Addr} {o : HO} (x : Ext dk F H F' H') (hp : H p = none) (fp : F'.out p) : Ext dk F H (F'.up p o) H' :=
  ⟨x.h, x.f.trans (Le.new fp.1), fun a h1 h2 => by
    have na : a ≠ p := fun z => h2 (z ▸ hp)
    rw [Fz.up_ne na]; exact x.n a h1 h2, x.m, x.u, x.k⟩

theorem Im.w {te : TE} {f : ME} (h : Im K te f) : ImW K te f := fun dk H0 F0 F σ H env st d st' g e Q q =>
  h dk H0 F0 F σ H env st d st' g e Q fun v F' H' x g' r => q v F' H' x g' (.rp r)
def frz (f : MA) : ME := fun env st => (f env st).map fun p => (.lst p.1, p.2)
theorem ImF.im {te : TE} {f : MA} (h : ImF K te f) : Im K te (frz f) := fun dk H0 F0 F σ H env st d st' g e Q q => by
  obtain ⟨⟨ds, s1⟩, h1, h2⟩ := mpd e
  cases h2
  refine h dk H0 F0 F σ H env st ds s1 g h1 Q fun p vs F' H' x g' hp fp hl r => ?_
  have nd := g.nedk hp
  have le : Le F' (Fz.up F' p (.lst vs)) := Le.new fp.1
  exact q (.ref p) (Fz.up F' p (.lst vs)) H' (x.freeze hp fp) (g'.freeze hl fp (g.fresh0 hp) nd.1 nd.2 (g.noown hp)) (.lst Fz.up_same (r.mono le))
theorem ImF.w {te : TE} {f : MA} (h : ImF K te f) : ImW K te (frz f) := h.im.w

/-! names, constants -/
def rd (i : Nat) : ME := fun env st => match env[i]? with
  | some (.val d) => some (d, st)
  | _ => none
def rdW (i : Nat) : ME := fun env st => match env[i]? with
  | some (.val d) => some (d, st)
  | some (.own (.lst, ds)) => some (.lst ds, st)
  | some (.own (.dic ks, ds)) => some (.dic ks ds, st)
  | _ => none
theorem im_var (i : Nat) : Im K (tVar i) (rd i) := fun dk H0 F0 F σ H env st d st' g e Q q => by
  unfold rd at e
  split at e
  · rename_i d' he
    cases e
    obtain ⟨v, h1, h2⟩ := g.sl i _ he
    exact ⟨v, join_eq h1, q v F H (Ext.refl F H) g h2⟩
  · cases e
theorem im_own (i : Nat) : ImW K (tVar i) (rdW i) := fun dk H0 F0 F σ H env st d st' g e Q q => by
  unfold rdW at e
  split at e
  · rename_i d' he
    cases e
    obtain ⟨v, h1, h2⟩ := g.sl i _ he
    exact ⟨v, join_eq h1, q v F H (Ext.refl F H) g (.rp h2)⟩
  · rename_i ds he
    cases e
    obtain ⟨p, vs, h1, h2, h3, h4, h5, h6, h7⟩ := g.sl i _ he
    exact ⟨.ref p, join_eq h1, q (.ref p) F H (Ext.refl F H) g (.lst h2 h5 h6 h3.2 h7)⟩
  · rename_i ks ds he
    cases e
    obtain ⟨p, vs, h1, h2, h3, h4, h5, h6, h7⟩ := g.sl i _ he
    exact ⟨.ref p, join_eq h1, q (.ref p) F H (Ext.refl F H) g (.dic (.inl h2.1) h5 h6 h3.2 h2.2 h7)⟩
  · cases e
def cst (d : D) : ME := fun _ st => some (d, st)
/-- a value that stands for itself in every heap -/
def Rc (K : Fg) (v : V) (d : D) : Prop := ∀ dk F, Rp K dk F v d
theorem im_c {v : V} {d : D} (h : Rc K v d) : Im K (tC v) (cst d) := fun dk H0 F0 F σ H env st d' st' g e Q q => by
  cases e
  exact q v F H (Ext.refl F H) g (h dk F)
theorem im_int {i : Int} : Im K (tC (.int i)) (cst (.int i)) := im_c fun _ _ => .int i
theorem im_str {i : Str} : Im K (tC (.str i)) (cst (.str i)) := im_c fun _ _ => .str i
theorem im_bl {i : Bool} : Im K (tC (.bl i)) (cst (.bl i)) := im_c fun _ _ => .bl i
theorem im_non : Im K (tC .non) (cst .non) := im_c fun _ _ => .non

/-! two-place operations on values -/
def RO (K : Fg) (r : R2) (f : D → D → Option D) : Prop := ∀ (dk : Dk) (F : Fz) (H : Hp) (st : S) (x y : V) (d e z : D), Wd K dk F H st → Rw K dk F H x d → Rw K dk F H y e → f d e = some z →
  ∀ Q : VK, (∀ v F' H', Px F H F' H' → Rp K dk F' v z → Q v H') → r x y H Q
def ROF (K : Fg) (r : R2) (f : D → D → Option (List D)) : Prop := ∀ (dk : Dk) (F : Fz) (H : Hp) (st : S) (x y : V) (d e : D) (z : List D), Wd K dk F H st → Rw K dk F H x d → Rw K dk F H y e → f d e = some z →
  ∀ Q : VK, (∀ p vs, H p = none → Rps K dk F vs z → Q (.ref p) (upd H p (.lst vs))) → r x y H Q
def opM (f : D → D → Option D) (fa fb : ME) : ME := fun env st => (fa env st).bind fun p => (fb env p.2).bind fun q => (f (dr q.2 p.1) (dr q.2 q.1)).map fun z => (z, q.2)
def opF (f : D → D → Option (List D)) (fa fb : ME) : MA := fun env st => (fa env st).bind fun p => (fb env p.2).bind fun q => (f (dr q.2 p.1) (dr q.2 q.1)).map fun z => (z, q.2)
theorem im_op {r : R2} {f : D → D → Option D} {ta tb : TE} {fa fb : ME} (hr : RO K r f) (ha : ImW K ta fa) (hb : ImW K tb fb) : Im K (tOp r ta tb) (opM f fa fb) := fun dk H0 F0 F σ H env st d st' g e Q q => by
  obtain ⟨⟨x, s1⟩, h1, e⟩ := bnd e
  obtain ⟨⟨y, s2⟩, h2, e⟩ := bnd e
  obtain ⟨z, h3, e⟩ := mpd e
  cases e
  refine ha dk H0 F0 F σ H env st x s1 g h1 _ fun v F1 H1 x1 g1 r1 => ?_
  refine hb dk H0 F0 F1 σ H1 env s1 y s2 g1 h2 _ fun u F2 H2 x2 g2 r2 => ?_
  exact hr dk F2 H2 s2 v u _ _ d g2.wd ((r1.ext x2).dr g2.wd) (r2.dr g2.wd) h3 Q fun w F3 H3 px r3 => q w F3 H3 ((x1.trans x2).trans px.ext) (g2.px px) r3
theorem im_opF {r : R2} {f : D → D → Option (List D)} {ta tb : TE} {fa fb : ME} (hr : ROF K r f) (ha : ImW K ta fa) (hb : ImW K tb fb) : ImF K (tOp r ta tb) (opF f fa fb) := fun dk H0 F0 F σ H env st d st' g e Q q => by
  obtain ⟨⟨x, s1⟩, h1, e⟩ := bnd e
  obtain ⟨⟨y, s2⟩, h2, e⟩ := bnd e
  obtain ⟨z, h3, e⟩ := mpd e
  cases e
  refine ha dk H0 F0 F σ H env st x s1 g h1 _ fun v F1 H1 x1 g1 r1 => ?_
  refine hb dk H0 F0 F1 σ H1 env s1 y s2 g1 h2 _ fun u F2 H2 x2 g2 r2 => ?_
  refine hr dk F2 H2 s2 v u _ _ d g2.wd ((r1.ext x2).dr g2.wd) (r2.dr g2.wd) h3 Q fun p vs hp r3 => ?_
  have x12 := x1.trans x2
  have h0 : H p = none := by
    cases w : H p with
    | none => rfl
    | some o => exact absurd hp (x12.m p (by rw [w]; exact fun z => nomatch z))
  have px : Px F2 H2 F2 (upd H2 p (.lst vs)) := Px.lay g2.wd.sub hp
  exact q p vs F2 _ (x12.trans px.ext) (g2.px px) h0 (g2.wd.out hp) upd_same r3
theorem RO.or {r r' : R2} {f f' : D → D → Option D} (h : RO K r f) (h' : RO K r' f') : RO K (fun x y H Q => r x y H Q ∨ r' x y H Q) (fun d e => (f d e).orElse fun _ => f' d e) := by
  intro dk F H st x y d e z w rx ry hz Q q
  replace hz : ((f d e).orElse fun _ => f' d e) = some z := hz
  cases hf : f d e with
  | some y' =>
    rw [hf] at hz
    have : some y' = some z := hz
    cases this
    exact .inl (h dk F H st x y d e z w rx ry hf Q q)
  | none =>
    rw [hf] at hz
    exact .inr (h' dk F H st x y d e z w rx ry hz Q q)
theorem ROF.ro {r : R2} {f : D → D → Option (List D)} (h : ROF K r f) : RO K r (fun d e => (f d e).map D.lst) := by
  intro dk F H st x y d e z w rx ry hz Q q
  obtain ⟨ds, h1, h2⟩ := mpd hz
  subst h2
  refine h dk F H st x y d e ds w rx ry h1 Q fun p vs hp r => ?_
  have px : Px F H (Fz.up F p (.lst vs)) (upd H p (.lst vs)) := Px.new w.sub hp
  exact q (.ref p) _ _ px (.lst Fz.up_same (r.mono px.f))

/-! ints -/
def iI (g : Int → Int → D) : D → D → Option D
  | .int i, .int j => some (g i j)
  | _, _ => none
def iIC (C : Int → Int → Prop) [∀ i j, Decidable (C i j)] (g : Int → Int → D) : D → D → Option D
  | .int i, .int j => if C i j then some (g i j) else none
  | _, _ => none
theorem ro_I0 {g : Int → Int → V} {g' : Int → Int → D} (h : ∀ i j, Rc K (g i j) (g' i j)) : RO K (rI0 g) (iI g') := by
  intro dk F H st x y d e z w rx ry hz Q q
  unfold iI at hz
  split at hz
  · rename_i i j
    cases hz
    cases rx.int
    cases ry.int
    exact ⟨i, j, rfl, rfl, q _ F H (Px.refl w.sub) (h i j dk F)⟩
  · cases hz
theorem ro_I {C : Int → Int → Prop} [∀ i j, Decidable (C i j)] {g : Int → Int → V} {g' : Int → Int → D} (h : ∀ i j, Rc K (g i j) (g' i j)) : RO K (rI C g) (iIC C g') := by
  intro dk F H st x y d e z w rx ry hz Q q
  unfold iIC at hz
  split at hz
  · rename_i i j
    split at hz
    · rename_i hc
      cases hz
      cases rx.int
      cases ry.int
      exact ⟨i, j, rfl, rfl, hc, q _ F H (Px.refl w.sub) (h i j dk F)⟩
    · cases hz
  · cases hz
theorem rc_int (i : Int) : Rc K (.int i) (.int i) := fun _ _ => .int i
theorem rc_bl (i : Bool) : Rc K (.bl i) (.bl i) := fun _ _ => .bl i
theorem rc_str (i : Str) : Rc K (.str i) (.str i) := fun _ _ => .str i
instance : ∀ i j, Decidable (CMul i j) := fun i j => by unfold CMul; exact inferInstance
instance : ∀ i j, Decidable (CDiv i j) := fun i j => by unfold CDiv; exact inferInstance
instance : ∀ i j, Decidable (CPow i j) := fun i j => by unfold CPow; exact inferInstance

/-! + -/
def strCat : D → D → Option D
  | .str i, .str j => if i.length + j.length ≤ sizeLine then some (.str (i ++ j)) else none
  | _, _ => none
def tupCat : D → D → Option D
  | .tup i, .tup j => if i.length + j.length ≤ sizeLine then some (.tup (i ++ j)) else none
  | _, _ => none
def lstCat : D → D → Option (List D)
  | .lst i, .lst j => if i.length + j.length ≤ sizeLine then some (i ++ j) else none
  | _, _ => none
theorem ro_strCat : RO K (fun x y H Q => ∃ i j, x = .str i ∧ y = .str j ∧ i.length + j.length ≤ sizeLine ∧ Q (.str (i ++ j)) H) strCat := by
  intro dk F H st x y d e z w rx ry hz Q q
  unfold strCat at hz
  split at hz
  · rename_i i j
    split at hz
    · rename_i hc
      cases hz
      exact ⟨i, j, rx.str, ry.str, hc, q _ F H (Px.refl w.sub) (.str _)⟩
    · cases hz
  · cases hz
theorem ro_tupCat : RO K (rCatA K) tupCat := by
  intro dk F H st x y d e z w rx ry hz Q q
  unfold tupCat at hz
  split at hz
  · rename_i i j
    split at hz
    · rename_i hc
      cases hz
      obtain ⟨p, vs, e1, h1, r1⟩ := rx.tup w.sub
      obtain ⟨p2, vs2, e2, h2, r2⟩ := ry.tup w.sub
      refine ⟨p, p2, vs, vs2, e1, e2, h1, h2, by rw [r1.length, r2.length]; exact hc, fun z => ?_, fun _ z => ?_, fun _ _ a ha => ?_⟩
      · subst z
        cases r1
        subst e2
        exact q _ F H (Px.refl w.sub) ry.tp
      · subst z
        cases r2
        subst e1
        rw [List.append_nil] at q
        exact q _ F H (Px.refl w.sub) rx.tp
      · have px : Px F H (Fz.up F a (.tup (vs ++ vs2))) (upd H a (.tup (vs ++ vs2))) := Px.new w.sub ha
        exact q _ _ _ px (.tup (SqT.of Fz.up_same) ((r1.append r2).mono px.f))
    · cases hz
  · cases hz
theorem rof_lstCat : ROF K rCat lstCat := by
  intro dk F H st x y d e z w rx ry hz Q q
  unfold lstCat at hz
  split at hz
  · rename_i i j
    split at hz
    · rename_i hc
      cases hz
      obtain ⟨p, vs, e1, h1, r1⟩ := rx.l w.sub
      obtain ⟨p2, vs2, e2, h2, r2⟩ := ry.l w.sub
      exact ⟨p, p2, vs, vs2, e1, e2, h1, h2, by rw [r1.length, r2.length]; exact hc, fun a ha => q a _ ha (r1.append r2)⟩
    · cases hz
  · cases hz
end
end MD

set_option Elab.async false
set_option linter.all false
set_option maxRecDepth 100000
set_option maxHeartbeats 1000000
namespace MD
open PySem L2

/-! ### data as the library's -/
mutual
def D.py : D → PyData
  | .non => .none
  | .bl b => .bool b
  | .int i => .int i
  | .str s => .str s
  | .lst xs => .list (pyAll xs)
  | .tup xs => .tuple (pyAll xs)
  | .deck => .none
  | .dic _ _ => .none
  | .ref _ => .none
def pyAll : List D → List PyData
  | [] => []
  | x :: xs => D.py x :: pyAll xs
end
mutual
def D.pl : D → Bool
  | .lst xs => plAll xs
  | .tup xs => plAll xs
  | .deck => false
  | .dic _ _ => false
  | .ref _ => false
  | _ => true
def plAll : List D → Bool
  | [] => true
  | x :: xs => D.pl x && plAll xs
end
mutual
theorem Rp.dp {K : Fg} {dk : Dk} {F : Fz} {H : Hp} (le : Sb F H) : ∀ {v : V} {d : D}, Rp K dk F v d → d.pl = true → Dp K H v d.py
  | _, _, .non, _ => .non
  | _, _, .bl b, _ => .bl b
  | _, _, .int i, _ => .int i
  | _, _, .str x, _ => .str x
  | _, _, .lst h r, p => .lst (SqL.of (le.lst h)) (Rps.dp le r (by simpa [D.pl] using p))
  | _, _, .tup h r, p => .tup (le.sqT h) (Rps.dp le r (by simpa [D.pl] using p))
  | _, _, .deck, p => by simp [D.pl] at p
  | _, _, .dic _ _ _, p => by simp [D.pl] at p
  | _, _, .ref _, p => by simp [D.pl] at p
theorem Rps.dp {K : Fg} {dk : Dk} {F : Fz} {H : Hp} (le : Sb F H) : ∀ {vs : List V} {ds : List D}, Rps K dk F vs ds → plAll ds = true → DpAll K H vs (pyAll ds)
  | _, _, .nil, _ => .nil
  | _, _, .cons a b, p => by
    rw [plAll, Bool.and_eq_true] at p
    exact .cons (Rp.dp le a p.1) (Rps.dp le b p.2)
end
section
variable {K : Fg} {dk : Dk} {F F' F0 : Fz} {H H' H0 : Hp} {σ : L2.St} {env : Sg} {st : S}
theorem Rw.dp (le : Sb F H) {v : V} {d : D} (r : Rw K dk F H v d) (p : d.pl = true) : Dp K H v d.py := by
  cases r with
  | rp r => exact r.dp le p
  | lst h r => exact .lst (SqL.of h) (r.dp le (by simpa [D.pl] using p))
  | dic _ _ _ => simp [D.pl] at p

/-! ### == -/
def sEq : D → D → Option Bool
  | .non, .non => some true
  | .non, .int _ => some false | .int _, .non => some false
  | .non, .str _ => some false | .str _, .non => some false
  | .int i, .int j => some (decide (i = j))
  | .bl i, .bl j => some (decide (i = j))
  | .str i, .str j => some (decide (i = j))
  | _, _ => none
def okD (d : D) : Bool := d.pl && SeqAt.shaped d.py
def eqB (d e : D) : Option Bool := match sEq d e with
  | some b => some b
  | none => if okD d && okD e then some (PyData.eqv d.py e.py) else none
def eqM (d e : D) : Option D := (eqB d e).map D.bl
def neM (d e : D) : Option D := (eqB d e).map fun b => D.bl (!b)
theorem dec_congr {p q : Prop} [Decidable p] [Decidable q] (h : p ↔ q) : decide p = decide q := by
  by_cases hp : p
  · rw [decide_eq_true hp, decide_eq_true (h.mp hp)]
  · rw [decide_eq_false hp, decide_eq_false fun z => hp (h.mpr z)]
theorem sEq_ok {x y : V} {d e : D} {b : Bool} (rx : Rw K dk F H x d) (ry : Rw K dk F H y e) (h : sEq d e = some b) : scal x y = true ∧ decide (x = y) = b := by
  unfold sEq at h
  split at h <;> cases h
  · cases rx.non; cases ry.non; exact ⟨rfl, rfl⟩
  · cases rx.non; cases ry.int; exact ⟨rfl, rfl⟩
  · cases rx.int; cases ry.non; exact ⟨rfl, rfl⟩
  · cases rx.non; cases ry.str; exact ⟨rfl, rfl⟩
  · cases rx.str; cases ry.non; exact ⟨rfl, rfl⟩
  · cases rx.int; cases ry.int; exact ⟨rfl, dec_congr ⟨fun z => V.int.inj z, fun z => by rw [z]⟩⟩
  · cases rx.bl; cases ry.bl; exact ⟨rfl, dec_congr ⟨fun z => V.bl.inj z, fun z => by rw [z]⟩⟩
  · cases rx.str; cases ry.str; exact ⟨rfl, dec_congr ⟨fun z => V.str.inj z, fun z => by rw [z]⟩⟩
def rEqA (K : Fg) : R2 := fun x y H Q => rEq x y H Q ∨ rEqD K x y H Q
def rNeA (K : Fg) : R2 := fun x y H Q => rNe x y H Q ∨ rNeD K x y H Q
theorem OpR.or {X : Cx} {f : Value → Value → Sem Value} {r r' : R2} (h : OpR X f r) (h' : OpR X f r') : OpR X f (fun x y H Q => r x y H Q ∨ r' x y H Q) := by
  intro pins s σ H x y v u Q I rx ry q
  rcases q with q | q
  · exact h pins s σ H x y v u Q I rx ry q
  · exact h' pins s σ H x y v u Q I rx ry q
theorem eqB_ok {x y : V} {d e : D} {b : Bool} (le : Sb F H) (rx : Rw K dk F H x d) (ry : Rw K dk F H y e) (h : eqB d e = some b) :
    (scal x y = true ∧ decide (x = y) = b) ∨ ∃ d e, Dp K H x d ∧ Dp K H y e ∧ SeqAt.shaped d = true ∧ SeqAt.shaped e = true ∧ PyData.eqv d e = b := by
  unfold eqB at h
  split at h
  · rename_i b' hb
    cases h
    exact .inl (sEq_ok rx ry hb)
  · split at h
    · rename_i ho
      cases h
      rw [Bool.and_eq_true, okD, okD, Bool.and_eq_true, Bool.and_eq_true] at ho
      exact .inr ⟨d.py, e.py, rx.dp le ho.1.1, ry.dp le ho.2.1, ho.1.2, ho.2.2, rfl⟩
    · cases h
theorem ro_eq : RO K (rEqA K) eqM := by
  intro dk F H st x y d e z w rx ry hz Q q
  obtain ⟨b, hb, rfl⟩ := mpd hz
  have q0 := q (.bl b) F H (Px.refl w.sub) (.bl b)
  rcases eqB_ok w.sub rx ry hb with ⟨h1, h2⟩ | ⟨d', e', h1, h2, h3, h4, h5⟩
  · exact .inl ⟨h1, by rw [h2]; exact q0⟩
  · exact .inr ⟨d', e', h1, h2, h3, h4, by rw [h5]; exact q0⟩
theorem ro_ne : RO K (rNeA K) neM := by
  intro dk F H st x y d e z w rx ry hz Q q
  obtain ⟨b, hb, rfl⟩ := mpd hz
  have q0 := q (.bl (!b)) F H (Px.refl w.sub) (.bl (!b))
  rcases eqB_ok w.sub rx ry hb with ⟨h1, h2⟩ | ⟨d', e', h1, h2, h3, h4, h5⟩
  · exact .inl ⟨h1, by rw [h2]; exact q0⟩
  · exact .inr ⟨d', e', h1, h2, h3, h4, by rw [h5]; exact q0⟩
theorem op_eqA {X : Cx} (hu : X.A.units + 64 < cLine) : OpR X (compareOp .Eq) (rEqA X.K) := OpR.or op_eq (op_eqD hu)
theorem op_neA {X : Cx} (hu : X.A.units + 64 < cLine) : OpR X (compareOp .NotEq) (rNeA X.K) := OpR.or op_ne (op_neD hu)

/-! ### is None -/
def nonD : D → Bool
  | .non => true
  | _ => false
def isM : D → D → Option D
  | d, .non => some (.bl (nonD d))
  | _, _ => none
def isNotM : D → D → Option D
  | d, .non => some (.bl (!nonD d))
  | _, _ => none
theorem Rw.isN {v : V} {d : D} (r : Rw K dk F H v d) : decide (v = .non) = nonD d := by
  rw [r.isNon]; cases d <;> rfl
theorem ro_is : RO K (fun x y H Q => y = .non ∧ Q (.bl (decide (x = .non))) H) isM := by
  intro dk F H st x y d e z w rx ry hz Q q
  unfold isM at hz
  split at hz
  · cases hz
    exact ⟨ry.non, by rw [rx.isN]; exact q _ F H (Px.refl w.sub) (.bl _)⟩
  · cases hz
theorem ro_isNot : RO K (fun x y H Q => y = .non ∧ Q (.bl (!decide (x = .non))) H) isNotM := by
  intro dk F H st x y d e z w rx ry hz Q q
  unfold isNotM at hz
  split at hz
  · cases hz
    exact ⟨ry.non, by rw [rx.isN]; exact q _ F H (Px.refl w.sub) (.bl _)⟩
  · cases hz

/-! ### in -/
def signOf (a : Str) : Option Nat := match a.cps.toList with
  | [c] => some c
  | _ => none
theorem signOf_eq {a : Str} {c : Nat} (h : signOf a = some c) : a = ⟨#[c]⟩ := by
  unfold signOf at h
  split at h
  · rename_i c' hc
    cases h
    obtain ⟨⟨l⟩⟩ := a
    have : l = [c] := hc
    rw [this]
  · cases h
def inSign : D → D → Option D
  | .str a, .str z => (signOf a).map fun c => .bl (decide (c ∈ z.cps.toList))
  | _, _ => none
def notInSign : D → D → Option D
  | .str a, .str z => (signOf a).map fun c => .bl (!decide (c ∈ z.cps.toList))
  | _, _ => none
theorem ro_inSign : RO K (fun x y H Q => ∃ (c : Nat) (z : Str), x = .str ⟨#[c]⟩ ∧ y = .str z ∧ Q (.bl (decide (c ∈ z.cps.toList))) H) inSign := by
  intro dk F H st x y d e z w rx ry hz Q q
  unfold inSign at hz
  split at hz
  · obtain ⟨c, hc, rfl⟩ := mpd hz
    exact ⟨c, _, by rw [rx.str, signOf_eq hc], ry.str, q _ F H (Px.refl w.sub) (.bl _)⟩
  · cases hz
theorem ro_notInSign : RO K (fun x y H Q => ∃ (c : Nat) (z : Str), x = .str ⟨#[c]⟩ ∧ y = .str z ∧ Q (.bl (!decide (c ∈ z.cps.toList))) H) notInSign := by
  intro dk F H st x y d e z w rx ry hz Q q
  unfold notInSign at hz
  split at hz
  · obtain ⟨c, hc, rfl⟩ := mpd hz
    exact ⟨c, _, by rw [rx.str, signOf_eq hc], ry.str, q _ F H (Px.refl w.sub) (.bl _)⟩
  · cases hz
def flatD : D → Bool
  | .non => true | .bl _ => true | .int _ => true | .str _ => true
  | _ => false
def eqFD : D → D → Bool
  | .non, .non => true
  | .bl a, .bl b => a == b
  | .bl a, .int b => (if a then 1 else 0) == b
  | .int a, .bl b => a == (if b then 1 else 0)
  | .int a, .int b => a == b
  | .str a, .str b => a == b
  | _, _ => false
theorem Rp.flat {v : V} {d : D} (r : Rp K dk F v d) (h : flatD d = true) : flatV v = true := by
  cases r <;> first | rfl | cases h
theorem Rp.eqF {v u : V} {d e : D} (r : Rp K dk F v d) (r' : Rp K dk F u e) (h : flatD d = true) (h' : flatD e = true) : eqV v u = eqFD d e := by
  cases r <;> first | (cases r' <;> first | rfl | cases h') | cases h
theorem Rw.flat {v : V} {d : D} (r : Rw K dk F H v d) (h : flatD d = true) : Rp K dk F v d := by
  cases r with
  | rp r => exact r
  | lst _ _ => cases h
  | dic _ _ _ => cases h
def inB (x : D) (ys : List D) : Bool := ys.any fun y => eqFD y x
theorem Rps.inV {x : V} {d : D} (r : Rp K dk F x d) (h : flatD d = true) : ∀ {vs : List V} {ds : List D}, Rps K dk F vs ds → ds.all flatD = true → vs.all flatV = true ∧ L2.inV x vs = inB d ds
  | _, _, .nil, _ => ⟨rfl, rfl⟩
  | _, _, .cons a b, p => by
    rw [List.all_cons, Bool.and_eq_true] at p
    obtain ⟨h1, h2⟩ := Rps.inV r h b p.2
    refine ⟨by rw [List.all_cons, a.flat p.1, h1]; rfl, ?_⟩
    unfold L2.inV inB at h2 ⊢
    rw [List.any_cons, List.any_cons, h2, a.eqF r p.1 h]
def inSeq (neg : Bool) : D → D → Option D
  | x, .lst ds => if flatD x && ds.all flatD then some (.bl (if neg then !inB x ds else inB x ds)) else none
  | x, .tup ds => if flatD x && ds.all flatD then some (.bl (if neg then !inB x ds else inB x ds)) else none
  | _, _ => none
theorem ro_inSeq (neg : Bool) : RO K (rIn K neg) (inSeq neg) := by
  intro dk F H st x y d e z w rx ry hz Q q
  unfold inSeq at hz
  split at hz
  · split at hz
    · rename_i ho
      cases hz
      rw [Bool.and_eq_true] at ho
      obtain ⟨p, vs, rfl, hl, r⟩ := ry.l w.sub
      have rx' := rx.flat ho.1
      obtain ⟨h1, h2⟩ := r.inV rx' ho.1 ho.2
      exact ⟨p, vs, rfl, .inl (SqL.of hl), rx'.flat ho.1, h1, by rw [h2]; exact q _ F H (Px.refl w.sub) (.bl _)⟩
    · cases hz
  · split at hz
    · rename_i ho
      cases hz
      rw [Bool.and_eq_true] at ho
      obtain ⟨p, vs, rfl, hl, r⟩ := ry.tup w.sub
      have rx' := rx.flat ho.1
      obtain ⟨h1, h2⟩ := r.inV rx' ho.1 ho.2
      exact ⟨p, vs, rfl, .inr hl, rx'.flat ho.1, h1, by rw [h2]; exact q _ F H (Px.refl w.sub) (.bl _)⟩
    · cases hz
  · cases hz

/-! ### a[i] -/
theorem Rps.atI {vs : List V} {ds : List D} {i : Int} {d : D} (r : Rps K dk F vs ds) (h : L2.atI ds i = some d) : ∃ v, L2.atI vs i = some v ∧ Rp K dk F v d := by
  unfold L2.atI at h ⊢
  obtain ⟨j, h1, h2⟩ := bnd h
  obtain ⟨v, h3, h4⟩ := r.get h2
  exact ⟨v, by rw [r.length, h1]; exact h3, h4⟩
def ixM : D → D → Option D
  | .lst ds, .int i => L2.atI ds i
  | .tup ds, .int i => L2.atI ds i
  | .str z, .int i => if z.length ≤ sizeLine then (L2.atI z.cps.toList i).map fun c => .str ⟨#[c]⟩ else none
  | _, _ => none
theorem ro_ix : RO K (rIx K) ixM := by
  intro dk F H st x y d e z w rx ry hz Q q
  unfold ixM at hz
  split at hz
  · obtain ⟨p, vs, rfl, hl, r⟩ := rx.l w.sub
    obtain ⟨v, h1, h2⟩ := r.atI hz
    exact .inl ⟨p, vs, _, v, rfl, ry.int, SqL.of hl, h1, q _ F H (Px.refl w.sub) h2⟩
  · obtain ⟨p, vs, rfl, hl, r⟩ := rx.tup w.sub
    obtain ⟨v, h1, h2⟩ := r.atI hz
    exact .inr (.inl ⟨p, vs, _, v, rfl, ry.int, hl, h1, q _ F H (Px.refl w.sub) h2⟩)
  · split at hz
    · rename_i ho
      obtain ⟨c, h1, rfl⟩ := mpd hz
      exact .inr (.inr ⟨_, _, c, rx.str, ry.int, ho, h1, q _ F H (Px.refl w.sub) (.str _)⟩)
    · cases hz
  · cases hz
end
end MD

set_option Elab.async false
set_option linter.all false
set_option maxRecDepth 100000
set_option maxHeartbeats 1000000
namespace MD
open PySem L2

section
variable {K : Fg} {dk : Dk} {F F' F0 : Fz} {H H' H0 : Hp} {σ : L2.St} {env : Sg} {st : S}
/-! ### slices -/
abbrev MO := Sg → S → Option (Option Int × S)
def ImO (K : Fg) (to : TO) (f : MO) : Prop := ∀ (dk : Dk) (H0 : Hp) (F0 F : Fz) (σ : L2.St) (H : Hp) (env : Sg) (st : S) (o : Option Int) (st' : S), Good K dk H0 F0 F σ H env st → f env st = some (o, st') →
  ∀ Q : Option Int → Hp → Prop, (∀ F' H', Ext dk F H F' H' → Good K dk H0 F0 F' σ H' env st' → Q o H') → to σ H Q
def noP : MO := fun _ st => some (none, st)
def intOf : D → Option Int
  | .int i => some i
  | _ => none
def prt (f : ME) : MO := fun env st => (f env st).bind fun p => (intOf p.1).map fun i => (some i, p.2)
theorem io_none : ImO K tNoPart noP := fun dk H0 F0 F σ H env st o st' g e Q q => by
  cases e
  exact q F H (Ext.refl F H) g
theorem io_some {te : TE} {f : ME} (h : ImW K te f) : ImO K (tPart te) (prt f) := fun dk H0 F0 F σ H env st o st' g e Q q => by
  obtain ⟨⟨x, s1⟩, h1, e⟩ := bnd e
  obtain ⟨i, h2, e⟩ := mpd e
  cases e
  refine h dk H0 F0 F σ H env st x s1 g h1 _ fun v F' H' x1 g1 r1 => ?_
  have hx : x = .int i := by
    cases x <;> first | (cases h2; rfl) | cases h2
  subst hx
  exact ⟨i, r1.w.int, q F' H' x1 g1⟩
def RS (K : Fg) (r : V → Option Int → Option Int → Hp → VK → Prop) (f : D → Option Int → Option Int → Option D) : Prop := ∀ (dk : Dk) (F : Fz) (H : Hp) (st : S) (x : V) (d z : D) (lo hi : Option Int), Wd K dk F H st → Rw K dk F H x d → f d lo hi = some z →
  ∀ Q : VK, (∀ v F' H', Px F H F' H' → Rp K dk F' v z → Q v H') → r x lo hi H Q
theorem RS.or {r r' : V → Option Int → Option Int → Hp → VK → Prop} {f f' : D → Option Int → Option Int → Option D} (h : RS K r f) (h' : RS K r' f') :
    RS K (fun x lo hi H Q => r x lo hi H Q ∨ r' x lo hi H Q) (fun d lo hi => (f d lo hi).orElse fun _ => f' d lo hi) := by
  intro dk F H st x d z lo hi w rx hz Q q
  replace hz : ((f d lo hi).orElse fun _ => f' d lo hi) = some z := hz
  cases hf : f d lo hi with
  | some y' =>
    rw [hf] at hz
    have : some y' = some z := hz
    cases this
    exact .inl (h dk F H st x d z lo hi w rx hf Q q)
  | none =>
    rw [hf] at hz
    exact .inr (h' dk F H st x d z lo hi w rx hz Q q)
def slM (f : D → Option Int → Option Int → Option D) (fe : ME) (fl fh : MO) : ME := fun env st => (fe env st).bind fun p => (fl env p.2).bind fun l => (fh env l.2).bind fun u => (f (dr u.2 p.1) l.1 u.1).map fun z => (z, u.2)
theorem im_sl {r : V → Option Int → Option Int → Hp → VK → Prop} {f : D → Option Int → Option Int → Option D} {te : TE} {tl th : TO} {fe : ME} {fl fh : MO} (hr : RS K r f) (he : ImW K te fe) (hl : ImO K tl fl) (hh : ImO K th fh) :
    Im K (tSl r te tl th) (slM f fe fl fh) := fun dk H0 F0 F σ H env st d st' g e Q q => by
  obtain ⟨⟨x, s1⟩, h1, e⟩ := bnd e
  obtain ⟨⟨l, s2⟩, h2, e⟩ := bnd e
  obtain ⟨⟨u, s3⟩, h3, e⟩ := bnd e
  obtain ⟨z, h4, e⟩ := mpd e
  cases e
  refine he dk H0 F0 F σ H env st x s1 g h1 _ fun v F1 H1 x1 g1 r1 => ?_
  refine hl dk H0 F0 F1 σ H1 env s1 l s2 g1 h2 _ fun F2 H2 x2 g2 => ?_
  refine hh dk H0 F0 F2 σ H2 env s2 u s3 g2 h3 _ fun F3 H3 x3 g3 => ?_
  exact hr dk F3 H3 s3 v _ d l u g3.wd (((r1.ext x2).ext x3).dr g3.wd) h4 Q fun w F4 H4 px r4 => q w F4 H4 (((x1.trans x2).trans x3).trans px.ext) (g3.px px) r4
def cutD (ds : List D) (lo hi : Option Int) : List D := (ds.drop (HT.sIx ds.length 0 lo)).take (HT.sIx ds.length ds.length hi - HT.sIx ds.length 0 lo)
theorem Rps.cut {vs : List V} {ds : List D} (r : Rps K dk F vs ds) (lo hi : Option Int) : Rps K dk F (cutV vs lo hi) (cutD ds lo hi) := by
  unfold cutV cutD
  rw [r.length]
  exact (r.drop _).take _
def slTup : D → Option Int → Option Int → Option D
  | .tup ds, lo, hi => some (.tup (cutD ds lo hi))
  | _, _, _ => none
def slLst : D → Option Int → Option Int → Option D
  | .lst ds, lo, hi => some (.lst (cutD ds lo hi))
  | _, _, _ => none
def slStr : D → Option Int → Option Int → Option D
  | .str z, lo, hi => if z.length ≤ sizeLine then some (.str (cutS z lo hi)) else none
  | _, _, _ => none
theorem rs_tup : RS K (rSlA K) slTup := by
  intro dk F H st x d z lo hi w rx hz Q q
  unfold slTup at hz
  split at hz
  · cases hz
    obtain ⟨p, vs, rfl, hl, r⟩ := rx.tup w.sub
    refine ⟨p, vs, rfl, hl, fun hw => ?_, fun _ a ha => ?_⟩
    · have e : ∀ ds : List D, vs.length = ds.length → cutD ds lo hi = ds := fun ds hl => by
        unfold cutD
        rw [← hl, hw.1, hw.2]
        simp [hl]
      rw [e _ r.length] at q
      exact q _ F H (Px.refl w.sub) rx.tp
    · have px : Px F H (Fz.up F a (.tup (cutV vs lo hi))) (upd H a (.tup (cutV vs lo hi))) := Px.new w.sub ha
      exact q _ _ _ px (.tup (SqT.of Fz.up_same) ((r.cut lo hi).mono px.f))
  · cases hz
theorem rs_lst : RS K (rSlL K) slLst := by
  intro dk F H st x d z lo hi w rx hz Q q
  unfold slLst at hz
  split at hz
  · cases hz
    obtain ⟨p, vs, rfl, hl, r⟩ := rx.l w.sub
    refine ⟨p, vs, rfl, SqL.of hl, fun a ha => ?_⟩
    have px : Px F H (Fz.up F a (.lst (cutV vs lo hi))) (upd H a (.lst (cutV vs lo hi))) := Px.new w.sub ha
    exact q _ _ _ px (.lst Fz.up_same ((r.cut lo hi).mono px.f))
  · cases hz
theorem rs_str : RS K rSlS slStr := by
  intro dk F H st x d z lo hi w rx hz Q q
  unfold slStr at hz
  split at hz
  · split at hz
    · rename_i ho
      cases hz
      exact ⟨_, rx.str, ho, q _ F H (Px.refl w.sub) (.str _)⟩
    · cases hz
  · cases hz
def slAny : D → Option Int → Option Int → Option D := fun d lo hi => (slTup d lo hi).orElse fun _ => (slStr d lo hi).orElse fun _ => slLst d lo hi
theorem sl_any {X : Cx} : SlR X (fun x lo hi H Q => rSlA X.K x lo hi H Q ∨ rSlS x lo hi H Q ∨ rSlL X.K x lo hi H Q) := sl_tupA.or (sl_str.or sl_list)
theorem rs_any : RS K (fun x lo hi H Q => rSlA K x lo hi H Q ∨ rSlS x lo hi H Q ∨ rSlL K x lo hi H Q) slAny := rs_tup.or (rs_str.or rs_lst)

/-! ### arguments -/
def aNil : MA := fun _ st => some ([], st)
def aCons (f : ME) (r : MA) : MA := fun env st => (f env st).bind fun p => (r env p.2).map fun q => (p.1 :: q.1, q.2)
theorem ia_nil : ImA K tNil aNil := fun dk H0 F0 F σ H env st ds st' g e Q q => by
  cases e
  exact q [] F H (Ext.refl F H) g .nil
theorem ia_cons {te : TE} {ta : TA} {f : ME} {r : MA} (h : Im K te f) (hr : ImA K ta r) : ImA K (tCons te ta) (aCons f r) := fun dk H0 F0 F σ H env st ds st' g e Q q => by
  obtain ⟨⟨x, s1⟩, h1, e⟩ := bnd e
  obtain ⟨⟨xs, s2⟩, h2, e⟩ := mpd e
  cases e
  refine h dk H0 F0 F σ H env st x s1 g h1 _ fun v F1 H1 x1 g1 r1 => ?_
  exact hr dk H0 F0 F1 σ H1 env s1 xs s2 g1 h2 _ fun vs F2 H2 x2 g2 r2 => q (v :: vs) F2 H2 (x1.trans x2) g2 (.cons (r1.mono x2.f) r2)
theorem iaw_nil : ImAW K tNil aNil := fun dk H0 F0 F σ H env st ds st' g e Q q => by
  cases e
  exact q [] F H (Ext.refl F H) g .nil
theorem iaw_cons {te : TE} {ta : TA} {f : ME} {r : MA} (h : ImW K te f) (hr : ImAW K ta r) : ImAW K (tCons te ta) (aCons f r) := fun dk H0 F0 F σ H env st ds st' g e Q q => by
  obtain ⟨⟨x, s1⟩, h1, e⟩ := bnd e
  obtain ⟨⟨xs, s2⟩, h2, e⟩ := mpd e
  cases e
  refine h dk H0 F0 F σ H env st x s1 g h1 _ fun v F1 H1 x1 g1 r1 => ?_
  exact hr dk H0 F0 F1 σ H1 env s1 xs s2 g1 h2 _ fun vs F2 H2 x2 g2 r2 => q (v :: vs) F2 H2 (x1.trans x2) g2 (.cons (r1.ext x2) r2)
/-! displays -/
def tupM (a : MA) : ME := fun env st => (a env st).bind fun p => if p.1.length ≤ sizeLine then some (.tup p.1, p.2) else none
def lstM (a : MA) : MA := fun env st => (a env st).bind fun p => if p.1.length ≤ sizeLine then some p else none
theorem im_tup {ta : TA} {a : MA} (h : ImA K ta a) : Im K (tTup ta) (tupM a) := fun dk H0 F0 F σ H env st d st' g e Q q => by
  obtain ⟨⟨xs, s1⟩, h1, e⟩ := bnd e
  split at e
  · rename_i hz
    cases e
    refine h dk H0 F0 F σ H env st xs s1 g h1 _ fun vs F1 H1 x1 g1 r1 => ⟨by rw [r1.length]; exact hz, fun p hp => ?_⟩
    have px : Px F1 H1 (Fz.up F1 p (.tup vs)) (upd H1 p (.tup vs)) := Px.new g1.wd.sub hp
    exact q _ _ _ (x1.trans px.ext) (g1.px px) (.tup (SqT.of Fz.up_same) (r1.mono px.f))
  · cases e
theorem if_lst {ta : TA} {a : MA} (h : ImA K ta a) : ImF K (tLst ta) (lstM a) := fun dk H0 F0 F σ H env st d st' g e Q q => by
  obtain ⟨⟨xs, s1⟩, h1, e⟩ := bnd e
  split at e
  · rename_i hz
    cases e
    refine h dk H0 F0 F σ H env st d st' g h1 _ fun vs F1 H1 x1 g1 r1 => ⟨by rw [r1.length]; exact hz, fun p hp => ?_⟩
    have px : Px F1 H1 F1 (upd H1 p (.lst vs)) := Px.lay g1.wd.sub hp
    have h0 : H p = none := by
      cases w : H p with
      | none => rfl
      | some o => exact absurd hp (x1.m p (by rw [w]; exact fun z => nomatch z))
    exact q p vs F1 _ (x1.trans px.ext) (g1.px px) h0 (g1.wd.out hp) upd_same r1
  · cases e

/-! ### calls of built-ins -/
def RC (K : Fg) (r : List V → Hp → VK → Prop) (f : List D → Option D) : Prop := ∀ (dk : Dk) (F : Fz) (H : Hp) (st : S) (vs : List V) (ds : List D) (z : D), Wd K dk F H st → Rws K dk F H vs ds → f ds = some z →
  ∀ Q : VK, (∀ v F' H', Px F H F' H' → Rp K dk F' v z → Q v H') → r vs H Q
def cbM (f : List D → Option D) (a : MA) : ME := fun env st => (a env st).bind fun p => (f (p.1.map (dr p.2))).map fun z => (z, p.2)
theorem im_cb {r : List V → Hp → VK → Prop} {f : List D → Option D} {ta : TA} {a : MA} (hr : RC K r f) (ha : ImAW K ta a) : Im K (tCB r ta) (cbM f a) := fun dk H0 F0 F σ H env st d st' g e Q q => by
  obtain ⟨⟨xs, s1⟩, h1, e⟩ := bnd e
  obtain ⟨z, h2, e⟩ := mpd e
  cases e
  refine ha dk H0 F0 F σ H env st xs s1 g h1 _ fun vs F1 H1 x1 g1 r1 => ?_
  exact hr dk F1 H1 s1 vs _ d g1.wd (r1.dr g1.wd) h2 Q fun w F2 H2 px r2 => q w F2 H2 (x1.trans px.ext) (g1.px px) r2
theorem CallR.or {X : Cx} {f : Value} {r r' : List V → Hp → VK → Prop} (h : CallR X f r) (h' : CallR X f r') : CallR X f (fun xs H Q => r xs H Q ∨ r' xs H Q) := by
  intro pins s σ H xs us Q I rs q
  rcases q with q | q
  · exact h pins s σ H xs us Q I rs q
  · exact h' pins s σ H xs us Q I rs q
theorem RC.or {r r' : List V → Hp → VK → Prop} {f f' : List D → Option D} (h : RC K r f) (h' : RC K r' f') : RC K (fun xs H Q => r xs H Q ∨ r' xs H Q) (fun ds => (f ds).orElse fun _ => f' ds) := by
  intro dk F H st vs ds z w rx hz Q q
  replace hz : ((f ds).orElse fun _ => f' ds) = some z := hz
  cases hf : f ds with
  | some y' =>
    rw [hf] at hz
    have : some y' = some z := hz
    cases this
    exact .inl (h dk F H st vs ds z w rx hf Q q)
  | none =>
    rw [hf] at hz
    exact .inr (h' dk F H st vs ds z w rx hz Q q)
theorem Rys.ws : ∀ {vs : List V} {ds : List D}, Rys K dk F H vs ds → Rws K dk F H vs ds
  | _, _, .nil => .nil
  | _, _, .cons a b => .cons a.w (Rys.ws b)
theorem Rws.one {vs : List V} {d : D} (r : Rws K dk F H vs [d]) : ∃ v, vs = [v] ∧ Rw K dk F H v d := by
  cases r with
  | cons a b => cases b; exact ⟨_, rfl, a⟩
theorem Rws.two {vs : List V} {d e : D} (r : Rws K dk F H vs [d, e]) : ∃ v u, vs = [v, u] ∧ Rw K dk F H v d ∧ Rw K dk F H u e := by
  cases r with
  | cons a b => cases b with
    | cons b c => cases c; exact ⟨_, _, rfl, a, b⟩
def lenM : List D → Option D
  | [.str z] => if z.length ≤ sizeLine then some (.int z.length) else none
  | [.lst ds] => some (.int ds.length)
  | [.tup ds] => some (.int ds.length)
  | _ => none
theorem rc_len : RC K (fun xs H Q => ∃ x n, xs = [x] ∧ LenV K x H n ∧ Q (.int n) H) lenM := by
  intro dk F H st vs ds z w rx hz Q q
  unfold lenM at hz
  split at hz
  · split at hz
    · rename_i ho
      cases hz
      obtain ⟨v, rfl, r⟩ := rx.one
      cases r.str
      exact ⟨_, _, rfl, ⟨ho, rfl⟩, q _ F H (Px.refl w.sub) (.int _)⟩
    · cases hz
  · cases hz
    obtain ⟨v, rfl, r⟩ := rx.one
    obtain ⟨p, vs, rfl, hl, r⟩ := r.l w.sub
    exact ⟨_, vs.length, rfl, .inl ⟨vs, SqL.of hl, rfl⟩, by rw [r.length]; exact q _ F H (Px.refl w.sub) (.int _)⟩
  · cases hz
    obtain ⟨v, rfl, r⟩ := rx.one
    obtain ⟨p, vs, rfl, hl, r⟩ := r.tup w.sub
    exact ⟨_, vs.length, rfl, .inr ⟨vs, hl, rfl⟩, by rw [r.length]; exact q _ F H (Px.refl w.sub) (.int _)⟩
  · cases hz
def int1M : List D → Option D
  | [.int i] => some (.int i)
  | [.bl k] => some (.int (if k then 1 else 0))
  | _ => none
theorem rc_int1 : RC K (fun xs H Q => (∃ i, xs = [.int i] ∧ Q (.int i) H) ∨ ∃ k, xs = [.bl k] ∧ Q (.int (if k then 1 else 0)) H) int1M := by
  intro dk F H st vs ds z w rx hz Q q
  unfold int1M at hz
  split at hz
  · cases hz
    obtain ⟨v, rfl, r⟩ := rx.one
    cases r.int
    exact .inl ⟨_, rfl, q _ F H (Px.refl w.sub) (.int _)⟩
  · cases hz
    obtain ⟨v, rfl, r⟩ := rx.one
    cases r.bl
    exact .inr ⟨_, rfl, q _ F H (Px.refl w.sub) (.int _)⟩
  · cases hz
def absM : List D → Option D
  | [.int i] => some (.int (if i < 0 then -i else i))
  | _ => none
theorem rc_abs : RC K (fun xs H Q => ∃ i, xs = [.int i] ∧ Q (.int (if i < 0 then -i else i)) H) absM := by
  intro dk F H st vs ds z w rx hz Q q
  unfold absM at hz
  split at hz
  · cases hz
    obtain ⟨v, rfl, r⟩ := rx.one
    cases r.int
    exact ⟨_, rfl, q _ F H (Px.refl w.sub) (.int _)⟩
  · cases hz
/-! lists of ints, of texts -/
def intsOf : List D → Option (List Int)
  | [] => some []
  | .int i :: r => (intsOf r).map (i :: ·)
  | _ => none
def strsOf : List D → Option (List Str)
  | [] => some []
  | .str i :: r => (strsOf r).map (i :: ·)
  | _ => none
theorem Rps.ints : ∀ {vs : List V} {ds : List D} {ns : List Int}, Rps K dk F vs ds → intsOf ds = some ns → vs = ns.map V.int
  | _, _, _, .nil, h => by cases h; rfl
  | _, _, _, .cons a b, h => by
    rename_i d ds
    cases d with
    | int i =>
      obtain ⟨ms, h1, h2⟩ := mpd (f := (i :: ·)) h
      cases h2
      cases a
      rw [Rps.ints b h1]
      rfl
    | _ => cases h
theorem Rps.strs : ∀ {vs : List V} {ds : List D} {ns : List Str}, Rps K dk F vs ds → strsOf ds = some ns → vs = ns.map V.str
  | _, _, _, .nil, h => by cases h; rfl
  | _, _, _, .cons a b, h => by
    rename_i d ds
    cases d with
    | str i =>
      obtain ⟨ms, h1, h2⟩ := mpd (f := (i :: ·)) h
      cases h2
      cases a
      rw [Rps.strs b h1]
      rfl
    | _ => cases h
def sumM : List D → Option D
  | [.lst ds] => (intsOf ds).map fun ns => .int ns.sum
  | _ => none
theorem rc_sum : RC K (rSum K) sumM := by
  intro dk F H st vs ds z w rx hz Q q
  unfold sumM at hz
  split at hz
  · obtain ⟨ns, h1, rfl⟩ := mpd hz
    obtain ⟨v, rfl, r⟩ := rx.one
    obtain ⟨p, vs, rfl, hl, r⟩ := r.l w.sub
    cases r.ints h1
    exact ⟨p, ns, rfl, SqL.of hl, q _ F H (Px.refl w.sub) (.int _)⟩
  · cases hz
def topI : List Int → Int
  | [] => 0
  | [x] => x
  | x :: y :: r => if topI (y :: r) > x then topI (y :: r) else x
def botI : List Int → Int
  | [] => 0
  | [x] => x
  | x :: y :: r => if botI (y :: r) < x then botI (y :: r) else x
theorem topI_spec : ∀ (l : List Int), l ≠ [] → topI l ∈ l ∧ ∀ y ∈ l, y ≤ topI l
  | [], h => absurd rfl h
  | [x], _ => ⟨by simp [topI], fun y hy => by simp at hy; simp [topI, hy]⟩
  | x :: y :: r, _ => by
    obtain ⟨h1, h2⟩ := topI_spec (y :: r) (by simp)
    unfold topI
    split
    · rename_i hc
      refine ⟨List.mem_cons_of_mem _ h1, fun z hz => ?_⟩
      rcases List.mem_cons.mp hz with e | e
      · subst e; omega
      · exact h2 z e
    · rename_i hc
      refine ⟨List.mem_cons_self, fun z hz => ?_⟩
      rcases List.mem_cons.mp hz with e | e
      · subst e; omega
      · have := h2 z e; omega
theorem botI_spec : ∀ (l : List Int), l ≠ [] → botI l ∈ l ∧ ∀ y ∈ l, botI l ≤ y
  | [], h => absurd rfl h
  | [x], _ => ⟨by simp [botI], fun y hy => by simp at hy; simp [botI, hy]⟩
  | x :: y :: r, _ => by
    obtain ⟨h1, h2⟩ := botI_spec (y :: r) (by simp)
    unfold botI
    split
    · rename_i hc
      refine ⟨List.mem_cons_of_mem _ h1, fun z hz => ?_⟩
      rcases List.mem_cons.mp hz with e | e
      · subst e; omega
      · exact h2 z e
    · rename_i hc
      refine ⟨List.mem_cons_self, fun z hz => ?_⟩
      rcases List.mem_cons.mp hz with e | e
      · subst e; omega
      · have := h2 z e; omega
def maxM : List D → Option D
  | [.lst (d :: ds)] => (intsOf (d :: ds)).map fun ns => .int (topI ns)
  | _ => none
def minM : List D → Option D
  | [.lst (d :: ds)] => (intsOf (d :: ds)).map fun ns => .int (botI ns)
  | _ => none
theorem intsOf_len : ∀ {ds : List D} {ns : List Int}, intsOf ds = some ns → ns.length = ds.length
  | [], _, h => by cases h; rfl
  | d :: ds, ns, h => by
    cases d with
    | int i =>
      obtain ⟨ms, h1, h2⟩ := mpd (f := (i :: ·)) h
      cases h2
      simp [intsOf_len h1]
    | _ => cases h
theorem rc_max : RC K (rMax K) maxM := by
  intro dk F H st vs ds z w rx hz Q q
  unfold maxM at hz
  split at hz
  · obtain ⟨ns, h1, rfl⟩ := mpd hz
    obtain ⟨v, rfl, r⟩ := rx.one
    obtain ⟨p, vs, rfl, hl, r⟩ := r.l w.sub
    cases r.ints h1
    have hn := intsOf_len h1
    simp at hn
    obtain ⟨t1, t2⟩ := topI_spec ns (fun z => by rw [z] at hn; cases hn)
    refine ⟨p, ns, rfl, SqL.of hl, by omega, fun m hm hy => ?_⟩
    have e : m = topI ns := by have := t2 m hm; have := hy _ t1; omega
    rw [e]
    exact q _ F H (Px.refl w.sub) (.int _)
  · cases hz
theorem rc_min : RC K (rMin K) minM := by
  intro dk F H st vs ds z w rx hz Q q
  unfold minM at hz
  split at hz
  · obtain ⟨ns, h1, rfl⟩ := mpd hz
    obtain ⟨v, rfl, r⟩ := rx.one
    obtain ⟨p, vs, rfl, hl, r⟩ := r.l w.sub
    cases r.ints h1
    have hn := intsOf_len h1
    simp at hn
    obtain ⟨t1, t2⟩ := botI_spec ns (fun z => by rw [z] at hn; cases hn)
    refine ⟨p, ns, rfl, SqL.of hl, by omega, fun m hm hy => ?_⟩
    have e : m = botI ns := by have := t2 m hm; have := hy _ t1; omega
    rw [e]
    exact q _ F H (Px.refl w.sub) (.int _)
  · cases hz
/-! tuple(..) -/
def tupOfM : List D → Option D
  | [.lst ds] => some (.tup ds)
  | [.tup ds] => some (.tup ds)
  | _ => none
theorem rc_tupOf : RC K (fun xs H Q => ∃ p ys, xs = [.ref p] ∧ ((SqL K H p ys ∧ ∀ l, H l = none → Q (.ref l) (upd H l (.tup ys))) ∨ (SqT K H p ys ∧ Q (.ref p) H))) tupOfM := by
  intro dk F H st vs ds z w rx hz Q q
  unfold tupOfM at hz
  split at hz
  · cases hz
    obtain ⟨v, rfl, r⟩ := rx.one
    obtain ⟨p, vs, rfl, hl, r⟩ := r.l w.sub
    refine ⟨p, vs, rfl, .inl ⟨SqL.of hl, fun a ha => ?_⟩⟩
    have px : Px F H (Fz.up F a (.tup vs)) (upd H a (.tup vs)) := Px.new w.sub ha
    exact q _ _ _ px (.tup (SqT.of Fz.up_same) (r.mono px.f))
  · cases hz
    obtain ⟨v, rfl, r⟩ := rx.one
    obtain ⟨p, vs, rfl, hl, r'⟩ := r.tup w.sub
    refine ⟨p, vs, rfl, .inr ⟨hl, ?_⟩⟩
    exact q _ F H (Px.refl w.sub) r.tp
  · cases hz
/-- the signs of a text -/
def signs (x : Str) : List Str := x.cps.toList.map fun c => ⟨#[c]⟩
def tupStrM : List D → Option D
  | [.str x] => if x.cps.size ≤ sizeLine then some (.tup ((signs x).map D.str)) else none
  | _ => none
theorem Rps.ofStrs : ∀ (xs : List Str), Rps K dk F (xs.map V.str) (xs.map D.str)
  | [] => .nil
  | x :: xs => .cons (.str x) (Rps.ofStrs xs)
theorem Rps.ofInts : ∀ (xs : List Int), Rps K dk F (xs.map V.int) (xs.map D.int)
  | [] => .nil
  | x :: xs => .cons (.int x) (Rps.ofInts xs)
theorem call_tupStr {X : Cx} (hc : X.calm = true) : CallR X (.type "tuple") (fun xs H Q => ∃ x, xs = [.str x] ∧ x.cps.size ≤ sizeLine ∧ ∀ p, H p = none → Q (.ref p) (upd H p (.tup ((signs x).map V.str)))) := by
  intro pins s σ H xs us Q I rs h
  obtain ⟨x, rfl, hz, q⟩ := h
  obtain ⟨u, rfl, rx⟩ := vals1 rs
  obtain ⟨t, rfl⟩ := rx
  refine call_tuple_str (I.ok.hd hc) x t (fun h' tk acc hk hi => ?_) hz
  have I' : Inv X pins σ H { s with heap := h', toks := tk } := I.kept (t' := tk) hk
  have lenA : acc.toList.length = (signs x).length := by
    unfold signs
    rw [List.length_map, Array.length_toList, Array.length_toList]
    exact hi.1
  have vals : Vals ((signs x).map V.str) acc.toList := by
    have key : ∀ (l : List Value) (m : List Nat), l.length = m.length → (∀ (j : Nat) (v : Value), l[j]? = some v → ∃ c u, m[j]? = some c ∧ v = .str ⟨#[c]⟩ u) → Vals ((m.map fun c => (⟨#[c]⟩ : Str)).map V.str) l := by
      intro l
      induction l with
      | nil => intro m hm _; cases m with
        | nil => exact .nil
        | cons _ _ => cases hm
      | cons a l ih => intro m hm hj; cases m with
        | nil => cases hm
        | cons c m =>
          obtain ⟨c', u, e1, e2⟩ := hj 0 a rfl
          have e1' : c = c' := Option.some.inj e1
          subst e1' e2
          exact .cons ⟨u, rfl⟩ (ih m (by simpa using hm) fun j v hv => hj (j + 1) v hv)
    refine key acc.toList x.cps.toList (by simpa [signs] using lenA) fun j v hv => ?_
    obtain ⟨c, u, h1, h2⟩ := hi.2 j v (by simpa using hv)
    exact ⟨c, u, by simpa using h1, h2⟩
  have hf : H h'.objs.size = none := I'.hok.fresh (Nat.le_refl _)
  refine ⟨.ref h'.objs.size, upd H h'.objs.size (.tup ((signs x).map V.str)), I'.laid (t' := tk) (fun b o e => Heap.get?_push_of_some _ e) (Nat.le_refl _) ?_, rfl, q _ hf⟩
  refine ⟨?_, acc.toList, vals, ⟨_, Heap.get?_push_size _ rfl, rfl, _, rfl⟩⟩
  rw [List.length_map]
  unfold signs
  rw [List.length_map, Array.length_toList]
  exact hz
theorem rc_tupStr : RC K (fun xs H Q => ∃ x, xs = [.str x] ∧ x.cps.size ≤ sizeLine ∧ ∀ p, H p = none → Q (.ref p) (upd H p (.tup ((signs x).map V.str)))) tupStrM := by
  intro dk F H st vs ds z w rx hz Q q
  unfold tupStrM at hz
  split at hz
  · rename_i y
    split at hz
    · rename_i ho
      cases hz
      obtain ⟨v, rfl, r⟩ := rx.one
      cases r.str
      refine ⟨_, rfl, ho, fun a ha => ?_⟩
      have px : Px F H (Fz.up F a (.tup ((signs y).map V.str))) (upd H a (.tup ((signs y).map V.str))) := Px.new w.sub ha
      exact q _ _ _ px (.tup (SqT.of Fz.up_same) (Rps.ofStrs _))
    · cases hz
  · cases hz
end
end MD

set_option Elab.async false
set_option linter.all false
set_option maxRecDepth 100000
set_option maxHeartbeats 1000000
namespace MD
open PySem L2

section
variable {K : Fg} {dk : Dk} {F F' F0 : Fz} {H H' H0 : Hp} {σ : L2.St} {env : Sg} {st : S}
/-! ### methods of built-in kinds -/
def RM (K : Fg) (r : V → List V → Hp → VK → Prop) (f : D → List D → Option D) : Prop := ∀ (dk : Dk) (F : Fz) (H : Hp) (st : S) (x : V) (d : D) (vs : List V) (ds : List D) (z : D), Wd K dk F H st → Rw K dk F H x d → Rws K dk F H vs ds → f d ds = some z →
  ∀ Q : VK, (∀ v F' H', Px F H F' H' → Rp K dk F' v z → Q v H') → r x vs H Q
def isStrD : D → Bool
  | .str _ => true
  | _ => false
def isLstD : D → Bool
  | .lst _ => true
  | _ => false
def m1M (f : D → List D → Option D) (fo fe : ME) : ME := fun env st => (fo env st).bind fun p => if isStrD p.1 then (fe env p.2).bind fun q => (f p.1 [dr q.2 q.1]).map fun z => (z, q.2) else none
theorem im_m1 {r : V → List V → Hp → VK → Prop} {f : D → List D → Option D} {to te : TE} {fo fe : ME} (hr : RM K r f) (ho : ImW K to fo) (he : ImW K te fe) : Im K (tM1 r to te) (m1M f fo fe) := fun dk H0 F0 F σ H env st d st' g e Q q => by
  obtain ⟨⟨x, s1⟩, h1, e⟩ := bnd e
  split at e
  · rename_i hs
    obtain ⟨⟨y, s2⟩, h2, e⟩ := bnd e
    obtain ⟨z, h3, e⟩ := mpd e
    cases e
    refine ho dk H0 F0 F σ H env st x s1 g h1 _ fun v F1 H1 x1 g1 r1 => ⟨?_, ?_⟩
    · have hs' : isStrD x = true := hs
      cases x <;> first | exact ⟨_, r1.w.str⟩ | cases hs'
    · refine he dk H0 F0 F1 σ H1 env s1 y s2 g1 h2 _ fun u F2 H2 x2 g2 r2 => ?_
      exact hr dk F2 H2 s2 v x [u] [dr s2 y] d g2.wd (r1.ext x2).w (.cons (r2.dr g2.wd) .nil) h3 Q fun w F3 H3 px r3 => q w F3 H3 ((x1.trans x2).trans px.ext) (g2.px px) r3
  · cases e
def bmL (f : D → List D → Option D) (fo : ME) (fa : MA) : ME := fun env st => (fo env st).bind fun p => if isLstD (dr p.2 p.1) then (fa env p.2).bind fun q => (f (dr q.2 p.1) (q.1.map (dr q.2))).map fun z => (z, q.2) else none
theorem im_bmL {r : V → List V → Hp → VK → Prop} {f : D → List D → Option D} {to : TE} {ta : TA} {fo : ME} {fa : MA} (hr : RM K r f) (ho : ImW K to fo) (ha : ImAW K ta fa) : Im K (tBM K "list" r to ta) (bmL f fo fa) := fun dk H0 F0 F σ H env st d st' g e Q q => by
  obtain ⟨⟨x, s1⟩, h1, e⟩ := bnd e
  split at e
  · rename_i hs
    obtain ⟨⟨y, s2⟩, h2, e⟩ := bnd e
    obtain ⟨z, h3, e⟩ := mpd e
    cases e
    refine ho dk H0 F0 F σ H env st x s1 g h1 _ fun v F1 H1 x1 g1 r1 => ⟨?_, ?_⟩
    · have hs' : isLstD (dr s1 x) = true := hs
      have r1' := r1.dr g1.wd
      generalize dr s1 x = x' at hs' r1'
      cases x' with
      | lst ds =>
        obtain ⟨p, vs, rfl, hl, r⟩ := r1'.l g1.wd.sub
        exact .inl ⟨rfl, vs, SqL.of hl⟩
      | _ => cases hs'
    · refine ha dk H0 F0 F1 σ H1 env s1 y s2 g1 h2 _ fun us F2 H2 x2 g2 r2 => ?_
      exact hr dk F2 H2 s2 v _ us _ d g2.wd ((r1.ext x2).dr g2.wd) (r2.dr g2.wd) h3 Q fun w F3 H3 px r3 => q w F3 H3 ((x1.trans x2).trans px.ext) (g2.px px) r3
  · cases e
/-- text.index(text) -/
def sindexM : D → List D → Option D
  | .str a, [.str b] => match Builtin.Str.occurrences a b 0 a.length 1 with
    | i :: _ => some (.int (i : Nat))
    | [] => none
  | _, _ => none
theorem rm_sindex : RM K (fun x xs H Q => ∃ a b i rest, x = .str a ∧ xs = [.str b] ∧ Builtin.Str.occurrences a b 0 a.length 1 = i :: rest ∧ Q (.int (i : Nat)) H) sindexM := by
  intro dk F H st x d vs ds z w rx rs hz Q q
  unfold sindexM at hz
  split at hz
  · split at hz
    · rename_i i rest ho
      cases hz
      obtain ⟨v, rfl, r⟩ := rs.one
      cases r.str
      exact ⟨_, _, i, rest, rx.str, rfl, ho, q _ F H (Px.refl w.sub) (.int _)⟩
    · cases hz
  · cases hz
/-- list.index(flat) -/
def lindexM : D → List D → Option D
  | .lst ys, [y] => if flatD y && ys.all flatD then (ys.findIdx? fun z => eqFD z y).map fun j => .int (j : Nat) else none
  | _, _ => none
theorem Rps.allFlat : ∀ {vs : List V} {ds : List D}, Rps K dk F vs ds → ds.all flatD = true → vs.all flatV = true
  | _, _, .nil, _ => rfl
  | _, _, .cons a b, p => by
    rw [List.all_cons, Bool.and_eq_true] at p
    rw [List.all_cons, a.flat p.1, Rps.allFlat b p.2]; rfl
theorem rm_lindex : RM K (rIndex K) lindexM := by
  intro dk F H st x d vs ds z w rx rs hz Q q
  unfold lindexM at hz
  split at hz
  · rename_i ys y
    split at hz
    · rename_i ho
      rw [Bool.and_eq_true] at ho
      obtain ⟨j, hj, rfl⟩ := mpd hz
      obtain ⟨v, rfl, r⟩ := rs.one
      obtain ⟨p, us, rfl, hl, r2⟩ := rx.l w.sub
      have rv := r.flat ho.1
      obtain ⟨hlt, hp, hm⟩ := List.findIdx?_eq_some_iff_getElem.mp hj
      have hat : ∀ (m : Nat) (z' : V), us[m]? = some z' → ∃ d', ys[m]? = some d' ∧ eqV z' v = eqFD d' y := fun m z' e => by
        obtain ⟨d', h1, h2⟩ := r2.getV e
        exact ⟨d', h1, h2.eqF rv (List.all_eq_true.mp ho.2 d' (List.mem_of_getElem? h1)) ho.1⟩
      obtain ⟨z', h1, h2⟩ := r2.get (i := j) (List.getElem?_eq_getElem hlt)
      refine ⟨p, us, v, j, z', rfl, rfl, SqL.of hl, rv.flat ho.1, r2.allFlat ho.2, h1, ?_, fun m z'' hlt' e => ?_, q _ F H (Px.refl w.sub) (.int _)⟩
      · obtain ⟨d', h3, h4⟩ := hat j z' h1
        rw [List.getElem?_eq_getElem hlt] at h3
        cases h3
        rw [h4]; exact hp
      · obtain ⟨d', h3, h4⟩ := hat m z'' e
        rw [h4]
        have hml : m < ys.length := Nat.lt_trans hlt' hlt
        rw [List.getElem?_eq_getElem hml] at h3
        cases h3
        have := hm m hlt'
        simpa using this
    · cases hz
  · cases hz
/-- text.join(list or tuple of texts) -/
def joinM : D → List D → Option D
  | .str a, [.lst ds] => (strsOf ds).bind fun ys => if (ys.map (·.length)).sum + ys.length * a.length ≤ 16777216 then some (.str (Txt.join a ys)) else none
  | .str a, [.tup ds] => (strsOf ds).bind fun ys => if (ys.map (·.length)).sum + ys.length * a.length ≤ 16777216 then some (.str (Txt.join a ys)) else none
  | _, _ => none
theorem rm_join : RM K (fun x xs H Q => ∃ a p, ∃ ys : List Str, x = .str a ∧ xs = [.ref p] ∧ (SqL K H p (ys.map V.str) ∨ SqT K H p (ys.map V.str)) ∧
    (ys.map (·.length)).sum + ys.length * a.length ≤ 16777216 ∧ Q (.str (Txt.join a ys)) H) joinM := by
  intro dk F H st x d vs ds z w rx rs hz Q q
  unfold joinM at hz
  split at hz
  · obtain ⟨ys, h1, hz⟩ := bnd hz
    split at hz
    · rename_i ho
      cases hz
      obtain ⟨v, rfl, r⟩ := rs.one
      obtain ⟨p, us, rfl, hl, r2⟩ := r.l w.sub
      cases r2.strs h1
      exact ⟨_, p, ys, rx.str, rfl, .inl (SqL.of hl), ho, q _ F H (Px.refl w.sub) (.str _)⟩
    · cases hz
  · obtain ⟨ys, h1, hz⟩ := bnd hz
    split at hz
    · rename_i ho
      cases hz
      obtain ⟨v, rfl, r⟩ := rs.one
      obtain ⟨p, us, rfl, hl, r2⟩ := r.tup w.sub
      cases r2.strs h1
      exact ⟨_, p, ys, rx.str, rfl, .inr hl, ho, q _ F H (Px.refl w.sub) (.str _)⟩
    · cases hz
  · cases hz

/-! ### repr -/
mutual
theorem Dp.noDict : ∀ {v : V} {d : PyData}, Dp K H v d → d.hasDict = false
  | _, _, .non => rfl
  | _, _, .bl _ => rfl
  | _, _, .int _ => rfl
  | _, _, .str _ => rfl
  | _, _, .lst _ r => by rw [PyData.hasDict]; exact Dp.noDictAll r
  | _, _, .tup _ r => by rw [PyData.hasDict]; exact Dp.noDictAll r
theorem Dp.noDictAll : ∀ {vs : List V} {ds : List PyData}, DpAll K H vs ds → PyData.hasDictAll ds = false
  | _, _, .nil => rfl
  | _, _, .cons a b => by rw [PyData.hasDictAll, Dp.noDict a, Dp.noDictAll b]; rfl
end
def rRepr (K : Fg) : List V → Hp → VK → Prop := fun xs H Q => ∃ x d, xs = [x] ∧ Dp K H x d ∧ d.showable = true ∧ d.depth ≤ 60 ∧ d.shown.length ≤ sizeLine ∧ Q (.str d.shown) H
theorem call_reprD {X : Cx} (hg : X.A.guards = some []) (hu : X.A.units + 64 < cLine) : CallR X (.builtin "repr") (rRepr X.K) := by
  intro pins s σ H xs us Q I rs h
  obtain ⟨x, d, rfl, hd, hs, hdp, hz, q⟩ := h
  obtain ⟨u, rfl, rx⟩ := vals1 rs
  cases id hd with
  | non => cases rx; exact PySem.P.repr_of_none ⟨.str _, H, I.tok _, ⟨_, rfl⟩, q⟩
  | bl b => cases rx; exact PySem.P.repr_of_bool ⟨.str _, H, I.tok _, ⟨_, rfl⟩, q⟩
  | int i =>
    obtain ⟨t, rfl⟩ := rx
    exact PySem.P.repr_of_int (by simpa [PyData.showable] using hs) ⟨.str _, H, I.tok _, ⟨_, rfl⟩, q⟩
  | str y =>
    obtain ⟨t, rfl⟩ := rx
    exact PySem.P.repr_of_str ⟨.str _, H, I.tok _, ⟨_, rfl⟩, q⟩ hz
  | lst h1 h2 =>
    cases rx
    obtain ⟨as, hr⟩ := Dp.reads I _ _ _ hd rfl
    exact repr_of_reads' hr hs (fun z => by rw [Dp.noDict hd] at z; cases z) hg (by omega) (fun _ _ e => e) (fun h' u tk hk => ⟨.str _, H, I.kept hk, ⟨_, rfl⟩, q⟩) hz
  | tup h1 h2 =>
    cases rx
    obtain ⟨as, hr⟩ := Dp.reads I _ _ _ hd rfl
    exact repr_of_reads' hr hs (fun z => by rw [Dp.noDict hd] at z; cases z) hg (by omega) (fun _ _ e => e) (fun h' u tk hk => ⟨.str _, H, I.kept hk, ⟨_, rfl⟩, q⟩) hz
def reprM : List D → Option D
  | [d] => if d.pl && d.py.showable && decide (d.py.depth ≤ 60) && decide (d.py.shown.length ≤ sizeLine) then some (.str d.py.shown) else none
  | _ => none
theorem rc_repr : RC K (rRepr K) reprM := by
  intro dk F H st vs ds z w rx hz Q q
  unfold reprM at hz
  split at hz
  · split at hz
    · rename_i ho
      cases hz
      simp only [Bool.and_eq_true, decide_eq_true_eq] at ho
      obtain ⟨v, rfl, r⟩ := rx.one
      exact ⟨v, _, rfl, r.dp w.sub ho.1.1.1, ho.1.1.2, ho.1.2, ho.2, q _ F H (Px.refl w.sub) (.str _)⟩
    · cases hz
  · cases hz
def strIntM : List D → Option D
  | [.int i] => if i.natAbs.log2 < 1920 then some (.str (toString i)) else none
  | _ => none
theorem rc_strInt : RC K (fun xs H Q => ∃ i, xs = [.int i] ∧ i.natAbs.log2 < 1920 ∧ Q (.str (toString i)) H) strIntM := by
  intro dk F H st vs ds z w rx hz Q q
  unfold strIntM at hz
  split at hz
  · split at hz
    · rename_i ho
      cases hz
      obtain ⟨v, rfl, r⟩ := rx.one
      cases r.int
      exact ⟨_, rfl, ho, q _ F H (Px.refl w.sub) (.str _)⟩
    · cases hz
  · cases hz

/-! ### one-place operations -/
def unI (g : Int → D) : D → Option D
  | .int i => some (g i)
  | _ => none
def unM (f : D → Option D) (fa : ME) : ME := fun env st => (fa env st).bind fun p => (f p.1).map fun z => (z, p.2)
theorem im_neg {ta : TE} {fa : ME} (h : ImW K ta fa) : Im K (tUn (rU fun i => .int (-i)) ta) (unM (unI fun i => .int (-i)) fa) := fun dk H0 F0 F σ H env st d st' g e Q q => by
  obtain ⟨⟨x, s1⟩, h1, e⟩ := bnd e
  obtain ⟨z, h2, e⟩ := mpd e
  cases e
  refine h dk H0 F0 F σ H env st x s1 g h1 _ fun v F1 H1 x1 g1 r1 => ?_
  replace h2 : unI (fun i => .int (-i)) x = some d := h2
  unfold unI at h2
  split at h2
  · cases h2
    cases r1.w.int
    exact ⟨_, rfl, q _ F1 H1 x1 g1 (.int _)⟩
  · cases h2

/-! ### tests -/
def blOf : D → Option Bool
  | .bl b => some b
  | _ => none
def tstM (f : ME) : MT := fun env st => (f env st).bind fun p => (blOf p.1).map fun b => (b, p.2)
theorem blOf_eq {d : D} {b : Bool} (h : blOf d = some b) : d = .bl b := by
  cases d <;> first | (cases h; rfl) | cases h
theorem it_test {te : TE} {f : ME} (h : Im K te f) : ImT K (tTest te) (tstM f) := fun dk H0 F0 F σ H env st b st' g e Q q => by
  obtain ⟨⟨x, s1⟩, h1, e⟩ := bnd e
  obtain ⟨z, h2, e⟩ := mpd e
  cases e
  refine h dk H0 F0 F σ H env st x s1 g h1 _ fun v F1 H1 x1 g1 r1 => ?_
  cases blOf_eq h2
  cases r1
  exact ⟨_, rfl, q F1 H1 x1 g1⟩
/-- truth of any value -/
def truD : D → Option Bool
  | .non => some false
  | .bl b => some b
  | .int i => some (i != 0)
  | .str y => if y.length ≤ sizeLine then some ((y.length : Int) != 0) else none
  | .lst ds => some (!ds.isEmpty)
  | .tup ds => some (!ds.isEmpty)
  | _ => none
def truM (f : ME) : MT := fun env st => (f env st).bind fun p => (truD (dr p.2 p.1)).map fun b => (b, p.2)
theorem Rps.empty {vs : List V} {ds : List D} (r : Rps K dk F vs ds) : vs.isEmpty = ds.isEmpty := by cases r <;> rfl
theorem it_truth {te : TE} {f : ME} (h : ImW K te f) : ImT K (fun σ H Q => te σ H fun x H' => ∃ k, TruV K x H' k ∧ Q k H') (truM f) := fun dk H0 F0 F σ H env st b st' g e Q q => by
  obtain ⟨⟨x, s1⟩, h1, e⟩ := bnd e
  obtain ⟨z, h2, e⟩ := mpd e
  cases e
  refine h dk H0 F0 F σ H env st x s1 g h1 _ fun v F1 H1 x1 g1 r1 => ⟨b, ?_, q F1 H1 x1 g1⟩
  replace h2 : truD (dr _ x) = some b := h2
  have r2 := r1.dr g1.wd
  generalize dr _ x = x' at h2 r2
  unfold truD at h2
  split at h2
  · cases h2; cases r2.non; rfl
  · cases h2; cases r2.bl; rfl
  · cases h2; cases r2.int; rfl
  · split at h2
    · rename_i ho
      cases h2; cases r2.str; exact ⟨ho, rfl⟩
    · cases h2
  · cases h2
    obtain ⟨p, vs, rfl, hl, r⟩ := r2.l g1.wd.sub
    exact .inl ⟨vs, SqL.of hl, by rw [r.empty]⟩
  · cases h2
    obtain ⟨p, vs, rfl, hl, r⟩ := r2.tup g1.wd.sub
    exact .inr (.inl ⟨vs, hl, by rw [r.empty]⟩)
  · cases h2
def andM (f h : MT) : MT := fun env st => (f env st).bind fun p => if p.1 then h env p.2 else some (false, p.2)
def orM (f h : MT) : MT := fun env st => (f env st).bind fun p => if p.1 then some (true, p.2) else h env p.2
def notM (f : MT) : MT := fun env st => (f env st).map fun p => (!p.1, p.2)
theorem it_and {t u : TT} {f h : MT} (h1 : ImT K t f) (h2 : ImT K u h) : ImT K (tAnd t u) (andM f h) := fun dk H0 F0 F σ H env st b st' g e Q q => by
  obtain ⟨⟨x, s1⟩, e1, e⟩ := bnd e
  refine h1 dk H0 F0 F σ H env st x s1 g e1 _ fun F1 H1 x1 g1 => ?_
  cases x with
  | true => exact h2 dk H0 F0 F1 σ H1 env s1 b st' g1 e Q fun F2 H2 x2 g2 => q F2 H2 (x1.trans x2) g2
  | false => cases e; exact q F1 H1 x1 g1
theorem it_or {t u : TT} {f h : MT} (h1 : ImT K t f) (h2 : ImT K u h) : ImT K (tOr t u) (orM f h) := fun dk H0 F0 F σ H env st b st' g e Q q => by
  obtain ⟨⟨x, s1⟩, e1, e⟩ := bnd e
  refine h1 dk H0 F0 F σ H env st x s1 g e1 _ fun F1 H1 x1 g1 => ?_
  cases x with
  | false => exact h2 dk H0 F0 F1 σ H1 env s1 b st' g1 e Q fun F2 H2 x2 g2 => q F2 H2 (x1.trans x2) g2
  | true => cases e; exact q F1 H1 x1 g1
theorem it_not {t : TT} {f : MT} (h1 : ImT K t f) : ImT K (tNot t) (notM f) := fun dk H0 F0 F σ H env st b st' g e Q q => by
  obtain ⟨⟨x, s1⟩, e1, e⟩ := mpd e
  cases e
  exact h1 dk H0 F0 F σ H env st x s1 g e1 _ fun F1 H1 x1 g1 => q F1 H1 x1 g1
/-! as values -/
def andV (f h : ME) : ME := fun env st => (f env st).bind fun p => (blOf p.1).bind fun b => if b then h env p.2 else some (.bl false, p.2)
def orV (f h : ME) : ME := fun env st => (f env st).bind fun p => (blOf p.1).bind fun b => if b then some (.bl true, p.2) else h env p.2
def notV (f : ME) : ME := fun env st => (f env st).bind fun p => (blOf p.1).map fun b => (.bl (!b), p.2)
theorem im_andV {t u : TE} {f h : ME} (h1 : Im K t f) (h2 : Im K u h) : Im K (tAndV t u) (andV f h) := fun dk H0 F0 F σ H env st d st' g e Q q => by
  obtain ⟨⟨x, s1⟩, e1, e⟩ := bnd e
  obtain ⟨b, e2, e⟩ := bnd e
  refine h1 dk H0 F0 F σ H env st x s1 g e1 _ fun v F1 H1 x1 g1 r1 => ?_
  cases blOf_eq e2
  cases r1
  refine ⟨b, rfl, ?_⟩
  cases b with
  | true => exact h2 dk H0 F0 F1 σ H1 env s1 d st' g1 e Q fun v F2 H2 x2 g2 r2 => q v F2 H2 (x1.trans x2) g2 r2
  | false => cases e; exact q _ F1 H1 x1 g1 (.bl false)
theorem im_orV {t u : TE} {f h : ME} (h1 : Im K t f) (h2 : Im K u h) : Im K (tOrV t u) (orV f h) := fun dk H0 F0 F σ H env st d st' g e Q q => by
  obtain ⟨⟨x, s1⟩, e1, e⟩ := bnd e
  obtain ⟨b, e2, e⟩ := bnd e
  refine h1 dk H0 F0 F σ H env st x s1 g e1 _ fun v F1 H1 x1 g1 r1 => ?_
  cases blOf_eq e2
  cases r1
  refine ⟨b, rfl, ?_⟩
  cases b with
  | false => exact h2 dk H0 F0 F1 σ H1 env s1 d st' g1 e Q fun v F2 H2 x2 g2 r2 => q v F2 H2 (x1.trans x2) g2 r2
  | true => cases e; exact q _ F1 H1 x1 g1 (.bl true)
theorem im_notV {t : TE} {f : ME} (h1 : Im K t f) : Im K (tNotV t) (notV f) := fun dk H0 F0 F σ H env st d st' g e Q q => by
  obtain ⟨⟨x, s1⟩, e1, e⟩ := bnd e
  obtain ⟨b, e2, e⟩ := mpd e
  cases e
  refine h1 dk H0 F0 F σ H env st x s1 g e1 _ fun v F1 H1 x1 g1 r1 => ?_
  cases blOf_eq e2
  cases r1
  exact ⟨b, rfl, q _ F1 H1 x1 g1 (.bl _)⟩
def ifM (c : MT) (f h : ME) : ME := fun env st => (c env st).bind fun p => if p.1 then f env p.2 else h env p.2
theorem im_if {t : TT} {ta tb : TE} {c : MT} {f h : ME} (h0 : ImT K t c) (h1 : Im K ta f) (h2 : Im K tb h) : Im K (tIf t ta tb) (ifM c f h) := fun dk H0 F0 F σ H env st d st' g e Q q => by
  obtain ⟨⟨x, s1⟩, e1, e⟩ := bnd e
  refine h0 dk H0 F0 F σ H env st x s1 g e1 _ fun F1 H1 x1 g1 => ?_
  cases x with
  | true => exact h1 dk H0 F0 F1 σ H1 env s1 d st' g1 e Q fun v F2 H2 x2 g2 r2 => q v F2 H2 (x1.trans x2) g2 r2
  | false => exact h2 dk H0 F0 F1 σ H1 env s1 d st' g1 e Q fun v F2 H2 x2 g2 r2 => q v F2 H2 (x1.trans x2) g2 r2
/-- a op b op' c -/
def chM (f f' : D → D → Option D) (fa fb fc : ME) : ME := fun env st => (fa env st).bind fun p => (fb env p.2).bind fun q => (f p.1 q.1).bind fun z => (blOf z).bind fun b =>
  if b then (fc env q.2).bind fun r => (f' q.1 r.1).map fun z => (z, r.2) else some (.bl false, q.2)
theorem im_chain {r r' : R2} {f f' : D → D → Option D} {ta tb tc : TE} {fa fb fc : ME} (hr : RO K r f) (hr' : RO K r' f') (ha : ImW K ta fa) (hb : ImW K tb fb) (hc : ImW K tc fc) : Im K (tChain r r' ta tb tc) (chM f f' fa fb fc) := fun dk H0 F0 F σ H env st d st' g e Q q => by
  obtain ⟨⟨x, s1⟩, h1, e⟩ := bnd e
  obtain ⟨⟨y, s2⟩, h2, e⟩ := bnd e
  obtain ⟨z, h3, e⟩ := bnd e
  obtain ⟨b, h4, e⟩ := bnd e
  refine ha dk H0 F0 F σ H env st x s1 g h1 _ fun v F1 H1 x1 g1 r1 => ?_
  refine hb dk H0 F0 F1 σ H1 env s1 y s2 g1 h2 _ fun u F2 H2 x2 g2 r2 => ?_
  refine hr dk F2 H2 s2 v u x y z g2.wd (r1.ext x2).w r2.w h3 _ fun w F3 H3 px r3 => ?_
  cases blOf_eq h4
  cases r3
  refine ⟨b, rfl, ?_⟩
  have g3 := g2.px px
  have x3 := (x1.trans x2).trans px.ext
  cases b with
  | false => cases e; exact q _ F3 H3 x3 g3 (.bl false)
  | true =>
    replace e : ((fc env s2).bind fun r => (f' y r.1).map fun z => (z, r.2)) = some (d, st') := e
    obtain ⟨⟨t, s4⟩, h5, e⟩ := bnd e
    obtain ⟨z', h6, e⟩ := mpd e
    cases e
    refine hc dk H0 F0 F3 σ H3 env s2 t s4 g3 h5 _ fun w' F4 H4 x4 g4 r4 => ?_
    exact hr' dk F4 H4 s4 u w' y t d g4.wd ((r2.ext px.ext).ext x4).w r4.w h6 Q fun v5 F5 H5 px5 r5 => q v5 F5 H5 ((x3.trans x4).trans px5.ext) (g4.px px5) r5
end
end MD

set_option Elab.async false
set_option linter.all false
set_option maxRecDepth 100000
set_option maxHeartbeats 1000000
namespace MD
open PySem L2

inductive Fl where
  | nx (env : Sg) | rt (d : D) | bk (env : Sg) | ct (env : Sg)
abbrev MS := Sg → S → Option (Fl × S)
def Dn (K : Fg) (dk : Dk) (H0 : Hp) (F0 F : Fz) (E : Ends) (st : S) : Fl → Prop
  | .nx env => ∀ F' σ H, Le F F' → Good K dk H0 F0 F' σ H env st → E.nx σ H
  | .bk env => ∀ F' σ H, Le F F' → Good K dk H0 F0 F' σ H env st → E.bk σ H
  | .ct env => ∀ F' σ H, Le F F' → Good K dk H0 F0 F' σ H env st → E.ct σ H
  | .rt d => ∀ v F' H, Ext dk F0 H0 F' H → Wd K dk F' H st → Rp K dk F' v d → E.rt v H
def ImS (K : Fg) (ts : TS) (f : MS) : Prop := ∀ (dk : Dk) (H0 : Hp) (F0 F : Fz) (σ : L2.St) (H : Hp) (env : Sg) (st : S) (fl : Fl) (st' : S), Good K dk H0 F0 F σ H env st → f env st = some (fl, st') → ∀ E : Ends, Dn K dk H0 F0 F E st' fl → ts E σ H
theorem Dn.mono {K : Fg} {dk : Dk} {H0 : Hp} {F0 F F' : Fz} {E : Ends} {st : S} {fl : Fl} (le : Le F F') (h : Dn K dk H0 F0 F E st fl) : Dn K dk H0 F0 F' E st fl := by
  cases fl with
  | nx e => exact fun F2 σ H l => h F2 σ H (le.trans l)
  | bk e => exact fun F2 σ H l => h F2 σ H (le.trans l)
  | ct e => exact fun F2 σ H l => h F2 σ H (le.trans l)
  | rt d => exact h

section
variable {K : Fg} {dk : Dk} {F F' F0 : Fz} {H H' H0 : Hp} {σ : L2.St} {env : Sg} {st : S}
/-! ### slots stored -/
theorem Good.set {i : Nat} {x : V} {d : D} (g : Good K dk H0 F0 F σ H env st) (r : Rp K dk F x d) : Good K dk H0 F0 F (σ.set i (some x)) H (env.set i (.val d)) st := by
  refine ⟨g.wd, g.ext, by rw [List.length_set, List.length_set]; exact g.len, fun j s e => ?_, fun j k ds es p hne e1 e2 e3 => ?_⟩
  · by_cases hj : i = j
    · subst hj
      by_cases hl : i < env.length
      · rw [List.getElem?_set_self hl] at e
        cases e
        rw [List.getElem?_set_self (by rw [g.len]; exact hl)]
        exact ⟨x, rfl, r⟩
      · rw [List.getElem?_eq_none (by rw [List.length_set]; omega)] at e
        cases e
    · rw [List.getElem?_set_ne hj] at e
      rw [List.getElem?_set_ne hj]
      exact g.sl j s e
  · have nj : i ≠ j := fun z => by
      subst z
      by_cases hl : i < env.length
      · rw [List.getElem?_set_self hl] at e1; cases e1
      · rw [List.getElem?_eq_none (by rw [List.length_set]; omega)] at e1; cases e1
    have nk : i ≠ k := fun z => by
      subst z
      by_cases hl : i < env.length
      · rw [List.getElem?_set_self hl] at e2; cases e2
      · rw [List.getElem?_eq_none (by rw [List.length_set]; omega)] at e2; cases e2
    rw [List.getElem?_set_ne nj] at e1 e3
    rw [List.getElem?_set_ne nk] at e2 ⊢
    exact g.dis j k ds es p hne e1 e2 e3
theorem Good.setO {i : Nat} {p : Addr} {vs : List V} {ds : Own} (g : Good K dk H0 F0 F σ H env st) (hp : ds.1.At H p vs) (fp : F.out p) (h0 : H0 p = none) (n1 : p ≠ dk.1) (n2 : p ≠ dk.2)
    (no : ∀ (j : Nat) (es : Own), env[j]? = some (.own es) → σ[j]? ≠ some (some (.ref p))) (r : Rps K dk F vs ds.2) : Good K dk H0 F0 F (σ.set i (some (.ref p))) H (env.set i (.own ds)) st := by
  refine ⟨g.wd, g.ext, by rw [List.length_set, List.length_set]; exact g.len, fun j s e => ?_, fun j k es es' q hne e1 e2 e3 => ?_⟩
  · by_cases hj : i = j
    · subst hj
      by_cases hl : i < env.length
      · rw [List.getElem?_set_self hl] at e
        cases e
        rw [List.getElem?_set_self (by rw [g.len]; exact hl)]
        exact ⟨p, vs, rfl, hp, fp, h0, n1, n2, r⟩
      · rw [List.getElem?_eq_none (by rw [List.length_set]; omega)] at e
        cases e
    · rw [List.getElem?_set_ne hj] at e
      rw [List.getElem?_set_ne hj]
      exact g.sl j s e
  · by_cases hj : i = j
    · subst hj
      have nk : i ≠ k := hne
      rw [List.getElem?_set_ne nk] at e2 ⊢
      by_cases hl : i < env.length
      · rw [List.getElem?_set_self (by rw [g.len]; exact hl)] at e3
        cases e3
        exact no k es' e2
      · rw [List.getElem?_eq_none (by rw [List.length_set]; omega)] at e1; cases e1
    · rw [List.getElem?_set_ne hj] at e1 e3
      by_cases hk : i = k
      · subst hk
        by_cases hl : i < env.length
        · rw [List.getElem?_set_self (by rw [g.len]; exact hl)]
          intro z
          cases z
          exact no j es e1 e3
        · rw [List.getElem?_eq_none (by rw [List.length_set]; omega)] at e2; cases e2
      · rw [List.getElem?_set_ne hk] at e2 ⊢
        exact g.dis j k es es' q hne e1 e2 e3
theorem Ow.At.nf {p : Addr} {o : HO} : ∀ {w : Ow} {vs : List V}, w.At (L2.upd H p o) p vs → ¬ Fro o
  | .lst, _, h => by
    have h : L2.upd H p o p = _ := h
    rw [upd_same] at h; cases h
    rintro ⟨_, _, z⟩; cases z
  | .dic _, _, h => by
    have h := h.1
    rw [upd_same] at h; cases h
    rintro ⟨_, _, z⟩; cases z
/-- a thing that is neither frozen nor in the store is changed -/
theorem Wd.upd {p : Addr} {o' : HO} (w : Wd K dk F H st) (fp : F.out p) (n1 : p ≠ dk.1) (n2 : p ≠ dk.2) : Wd K dk F (L2.upd H p o') st := by
  refine ⟨fun a u e => ?_, by rw [upd_ne n1.symm]; exact w.d1, by rw [upd_ne n2.symm]; exact w.d2, w.f1, w.f2, w.ne, w.ml, w.nd, fun n a u h1 h2 => ?_⟩
  · rw [upd_ne (ne_of_none e fp.1)]; exact w.sub a u e
  · obtain ⟨q1, q2⟩ := w.ob n a u h1 h2
    have na : a ≠ p := fun z => fp.2 (z ▸ List.mem_of_getElem? h1)
    exact ⟨q1, q2.keep (fun _ e => by rw [upd_ne na]; exact e) (Le.refl F)⟩
theorem Ext.upd {p : Addr} {o' : HO} (x : Ext dk F0 H0 F H) (h0 : H0 p = none) (nf : ¬ Fro o' := by rintro ⟨_, _, z⟩; cases z) : Ext dk F0 H0 F (L2.upd H p o') := by
  refine ⟨fun a o e n1 n2 n3 => ?_, x.f, x.n, fun a e z => ?_, x.u, fun a o e f => x.k a o (updK nf a o e f) f⟩
  · rw [upd_ne (ne_of_none e h0)]; exact x.h a o e n1 n2 n3
  · by_cases na : a = p
    · subst na; rw [upd_same] at z; cases z
    · rw [upd_ne na] at z; exact x.m a e z
/-- an own list is changed -/
theorem Good.mut {i : Nat} {p : Addr} {vs' : List V} {o' : HO} {ds ds' : Own} (g : Good K dk H0 F0 F σ H env st) (he : env[i]? = some (.own ds)) (hs : σ[i]? = some (some (.ref p))) (hw : ds'.1.At (upd H p o') p vs') (r : Rps K dk F vs' ds'.2) :
    Good K dk H0 F0 F σ (upd H p o') (env.set i (.own ds')) st := by
  obtain ⟨p', vs, h1, h2, h3, h4, h5, h6, h7⟩ := g.sl i _ he
  rw [hs] at h1
  have : p = p' := V.ref.inj (Option.some.inj h1)
  subst this
  have hil : i < env.length := by
    by_cases hl : i < env.length
    · exact hl
    · rw [List.getElem?_eq_none (by omega)] at he; cases he
  refine ⟨g.wd.upd h3 h5 h6, g.ext.upd h4 hw.nf, by rw [List.length_set]; exact g.len, fun j s e => ?_, fun j k es es' q hne e1 e2 e3 => ?_⟩
  · by_cases hj : i = j
    · subst hj
      rw [List.getElem?_set_self hil] at e
      cases e
      rw [hs]
      exact ⟨p, vs', rfl, hw, h3, h4, h5, h6, r⟩
    · rw [List.getElem?_set_ne hj] at e
      have q := g.sl j s e
      cases s with
      | un => trivial
      | val d => exact q
      | own es =>
        obtain ⟨p2, us, k1, k2, k3⟩ := q
        have np : p2 ≠ p := fun z => by
          subst z
          exact g.dis i j ds es p2 hj he e hs (join_eq k1)
        exact ⟨p2, us, k1, k2.keep fun o e => by rw [upd_ne np]; exact e, k3⟩
  · have back : ∀ (m : Nat) (zs : Own), (env.set i (.own ds'))[m]? = some (.own zs) → ∃ zs', env[m]? = some (.own zs') := fun m zs e => by
      by_cases hm : i = m
      · subst hm; exact ⟨ds, he⟩
      · rw [List.getElem?_set_ne hm] at e; exact ⟨zs, e⟩
    obtain ⟨z1, b1⟩ := back j es e1
    obtain ⟨z2, b2⟩ := back k es' e2
    exact g.dis j k z1 z2 q hne b1 b2 e3
/-- a thing that nobody knows of is changed -/
theorem Good.mutT {p : Addr} {o o' : HO} (g : Good K dk H0 F0 F σ H env st) (hp : H p = some o) (fp : F.out p) (h0 : H0 p = none) (n1 : p ≠ dk.1) (n2 : p ≠ dk.2)
    (no : ∀ (j : Nat) (es : Own), env[j]? = some (.own es) → σ[j]? ≠ some (some (.ref p))) (nf : ¬ Fro o' := by rintro ⟨_, _, z⟩; cases z) : Good K dk H0 F0 F σ (upd H p o') env st := by
  refine ⟨g.wd.upd fp n1 n2, g.ext.upd h0 nf, g.len, fun j s e => ?_, g.dis⟩
  · have q := g.sl j s e
    cases s with
    | un => trivial
    | val d => exact q
    | own es =>
      obtain ⟨p2, us, k1, k2, k3⟩ := q
      have np : p2 ≠ p := fun z => by
        subst z
        exact no j es e (join_eq k1)
      exact ⟨p2, us, k1, k2.keep fun o e => by rw [upd_ne np]; exact e, k3⟩
/-- other slots, no more known -/
theorem Good.reslot {σ' : L2.St} {env' : Sg} (g : Good K dk H0 F0 F σ H env st) (hl : σ'.length = env'.length) (h : ∀ (i : Nat) (s : Sl), env'[i]? = some s → s = .un ∨ (env[i]? = some s ∧ σ'[i]? = σ[i]?)) : Good K dk H0 F0 F σ' H env' st := by
  refine ⟨g.wd, g.ext, hl, fun i s e => ?_, fun i j ds es p hne e1 e2 e3 => ?_⟩
  · rcases h i s e with z | ⟨z1, z2⟩
    · subst z; trivial
    · rw [z2]; exact g.sl i s z1
  · rcases h i _ e1 with z | ⟨z1, z2⟩
    · cases z
    · rcases h j _ e2 with z | ⟨y1, y2⟩
      · cases z
      · rw [z2] at e3; rw [y2]; exact g.dis i j ds es p hne z1 y1 e3

/-! ### small statements -/
def nxM : MS := fun env st => some (.nx env, st)
theorem is_next : ImS K tNext nxM := fun dk H0 F0 F σ H env st fl st' g e E h => by
  cases e
  exact h F σ H (Le.refl F) g
def seqM (f h : MS) : MS := fun env st => (f env st).bind fun p => match p.1 with
  | .nx e => h e p.2
  | fl => some (fl, p.2)
theorem is_seq {t u : TS} {f h : MS} (h1 : ImS K t f) (h2 : ImS K u h) : ImS K (tSeq t u) (seqM f h) := fun dk H0 F0 F σ H env st fl st' g e E hd => by
  obtain ⟨⟨fl1, s1⟩, e1, e⟩ := bnd e
  cases fl1 with
  | nx env1 => exact h1 dk H0 F0 F σ H env st _ s1 g e1 _ fun F1 σ1 H1 le1 g1 => h2 dk H0 F0 F1 σ1 H1 env1 s1 fl st' g1 e E (hd.mono le1)
  | rt d => cases e; exact h1 dk H0 F0 F σ H env st _ s1 g e1 _ hd
  | bk d => cases e; exact h1 dk H0 F0 F σ H env st _ s1 g e1 _ hd
  | ct d => cases e; exact h1 dk H0 F0 F σ H env st _ s1 g e1 _ hd
def retM (f : ME) : MS := fun env st => (f env st).map fun p => (.rt p.1, p.2)
theorem is_ret {te : TE} {f : ME} (h : Im K te f) : ImS K (tRet te) (retM f) := fun dk H0 F0 F σ H env st fl st' g e E hd => by
  obtain ⟨⟨d, s1⟩, e1, e⟩ := mpd e
  cases e
  exact h dk H0 F0 F σ H env st d s1 g e1 _ fun v F1 H1 x1 g1 r1 => hd v F1 H1 g1.ext g1.wd r1
def retN : MS := fun env st => some (.rt .non, st)
theorem is_retN : ImS K tRetN retN := fun dk H0 F0 F σ H env st fl st' g e E hd => by
  cases e
  exact hd .non F H g.ext g.wd .non
def ifS (c : MT) (f h : MS) : MS := fun env st => (c env st).bind fun p => if p.1 then f env p.2 else h env p.2
theorem is_if {c : TT} {t u : TS} {fc : MT} {f h : MS} (h0 : ImT K c fc) (h1 : ImS K t f) (h2 : ImS K u h) : ImS K (tIfS c t u) (ifS fc f h) := fun dk H0 F0 F σ H env st fl st' g e E hd => by
  obtain ⟨⟨b, s1⟩, e1, e⟩ := bnd e
  refine h0 dk H0 F0 F σ H env st b s1 g e1 _ fun F1 H1 x1 g1 => ?_
  cases b with
  | true => exact h1 dk H0 F0 F1 σ H1 env s1 fl st' g1 e E (hd.mono x1.f)
  | false => exact h2 dk H0 F0 F1 σ H1 env s1 fl st' g1 e E (hd.mono x1.f)
def dropM (f : ME) : MS := fun env st => (f env st).map fun p => (.nx env, p.2)
theorem is_drop {te : TE} {f : ME} (h : Im K te f) : ImS K (tDrop te) (dropM f) := fun dk H0 F0 F σ H env st fl st' g e E hd => by
  obtain ⟨⟨d, s1⟩, e1, e⟩ := mpd e
  cases e
  exact h dk H0 F0 F σ H env st d s1 g e1 _ fun v F1 H1 x1 g1 r1 => hd F1 σ H1 x1.f g1
def bkM : MS := fun env st => some (.bk env, st)
def ctM : MS := fun env st => some (.ct env, st)
theorem is_break : ImS K tBreak bkM := fun dk H0 F0 F σ H env st fl st' g e E h => by
  cases e
  exact h F σ H (Le.refl F) g
theorem is_cont : ImS K tCont ctM := fun dk H0 F0 F σ H env st fl st' g e E h => by
  cases e
  exact h F σ H (Le.refl F) g

/-! ### targets -/
abbrev MG := D → Sg → Option Sg
structure Tg (is : List Nat) (σ σ' : L2.St) (env env' : Sg) : Prop where
  len : σ'.length = σ.length
  elen : env'.length = env.length
  same : ∀ (i : Nat), i ∉ is → σ'[i]? = σ[i]? ∧ env'[i]? = env[i]?
def ImG (K : Fg) (g : TG) (t : MG) (is : List Nat) : Prop := ∀ (dk : Dk) (H0 : Hp) (F0 F : Fz) (σ : L2.St) (H : Hp) (env : Sg) (st : S) (v : V) (d : D) (env' : Sg), Good K dk H0 F0 F σ H env st → Rp K dk F v d → t d env = some env' →
  ∀ Q : L2.St → Hp → Prop, (∀ σ', Good K dk H0 F0 F σ' H env' st → Tg is σ σ' env env' → Q σ' H) → g v σ H Q
def ImGs (K : Fg) (g : TGs) (t : List D → Sg → Option Sg) (is : List Nat) : Prop := ∀ (dk : Dk) (H0 : Hp) (F0 F : Fz) (σ : L2.St) (H : Hp) (env : Sg) (st : S) (vs : List V) (ds : List D) (env' : Sg), Good K dk H0 F0 F σ H env st → Rps K dk F vs ds → t ds env = some env' →
  ∀ Q : L2.St → Hp → Prop, (∀ σ', Good K dk H0 F0 F σ' H env' st → Tg is σ σ' env env' → Q σ' H) → g vs σ H Q
def nameT (i : Nat) : MG := fun d env => some (env.set i (.val d))
theorem ig_name (i : Nat) : ImG K (gName i) (nameT i) [i] := fun dk H0 F0 F σ H env st v d env' g r e Q q => by
  cases e
  refine q _ (g.set r) ⟨List.length_set, List.length_set, fun j hj => ?_⟩
  have hj' : i ≠ j := fun z => hj (by simp [z])
  exact ⟨List.getElem?_set_ne hj', List.getElem?_set_ne hj'⟩
def nilT : List D → Sg → Option Sg
  | [], env => some env
  | _, _ => none
def consT (t : MG) (u : List D → Sg → Option Sg) : List D → Sg → Option Sg
  | d :: ds, env => (t d env).bind fun e => u ds e
  | _, _ => none
theorem igs_nil : ImGs K gNil nilT [] := fun dk H0 F0 F σ H env st vs ds env' g r e Q q => by
  unfold nilT at e
  split at e
  · cases e
    cases r
    exact ⟨rfl, q σ g ⟨rfl, rfl, fun _ _ => ⟨rfl, rfl⟩⟩⟩
  · cases e
theorem igs_cons {g : TG} {gs : TGs} {t : MG} {u : List D → Sg → Option Sg} {is js : List Nat} (h1 : ImG K g t is) (h2 : ImGs K gs u js) : ImGs K (gCons g gs) (consT t u) (is ++ js) := fun dk H0 F0 F σ H env st vs ds env' gd r e Q q => by
  unfold consT at e
  split at e
  · obtain ⟨e1, h3, h4⟩ := bnd e
    cases r with
    | cons a b =>
      refine ⟨_, _, rfl, h1 dk H0 F0 F σ H env st _ _ e1 gd a h3 _ fun σ1 g1 t1 => ?_⟩
      refine h2 dk H0 F0 F σ1 H e1 st _ _ env' g1 b h4 _ fun σ2 g2 t2 => q σ2 g2 ⟨t2.len.trans t1.len, t2.elen.trans t1.elen, fun i hi => ?_⟩
      have a1 := t1.same i fun z => hi (List.mem_append_left _ z)
      have a2 := t2.same i fun z => hi (List.mem_append_right _ z)
      exact ⟨a2.1.trans a1.1, a2.2.trans a1.2⟩
  · cases e
def tupT (n : Nat) (u : List D → Sg → Option Sg) : MG := fun d env => match d with
  | .tup ds => if ds.length = n then u ds env else none
  | _ => none
theorem ig_tup {gs : TGs} {u : List D → Sg → Option Sg} {js : List Nat} {n : Nat} (h : ImGs K gs u js) : ImG K (gTup K n gs) (tupT n u) js := fun dk H0 F0 F σ H env st v d env' g r e Q q => by
  unfold tupT at e
  split at e
  · split at e
    · rename_i hn
      cases r with
      | tup h1 h2 =>
        exact ⟨_, _, rfl, g.wd.sub.sqT h1, by rw [h2.length]; exact hn, h dk H0 F0 F σ H env st _ _ env' g h2 e Q q⟩
    · cases e
  · cases e
def asgM (t : MG) (f : ME) : MS := fun env st => (f env st).bind fun p => (t p.1 env).map fun e => (.nx e, p.2)
theorem is_asg {te : TE} {g : TG} {t : MG} {f : ME} {is : List Nat} (h : Im K te f) (hg : ImG K g t is) : ImS K (tAsg te g) (asgM t f) := fun dk H0 F0 F σ H env st fl st' gd e E hd => by
  obtain ⟨⟨d, s1⟩, e1, e⟩ := bnd e
  obtain ⟨en, e2, e⟩ := mpd e
  cases e
  refine h dk H0 F0 F σ H env st d s1 gd e1 _ fun v F1 H1 x1 g1 r1 => ?_
  exact hg dk H0 F0 F1 σ H1 env s1 v d en g1 r1 e2 _ fun σ' g2 _ => hd F1 σ' H1 x1.f g2
/-- a new list for a name that will change it -/
def ownM (i : Nat) (f : MA) : MS := fun env st => (f env st).map fun p => (.nx (env.set i (.own (.lst, p.1))), p.2)
theorem is_own {te : TE} {f : MA} (i : Nat) (h : ImF K te f) : ImS K (tAsg te (gName i)) (ownM i f) := fun dk H0 F0 F σ H env st fl st' g e E hd => by
  obtain ⟨⟨ds, s1⟩, e1, e⟩ := mpd e
  cases e
  refine h dk H0 F0 F σ H env st ds s1 g e1 _ fun p vs F1 H1 x1 g1 hp fp hl r => ?_
  have nd := g.nedk hp
  exact hd F1 _ H1 x1.f (g1.setO (ds := (.lst, ds)) hl fp (g.fresh0 hp) nd.1 nd.2 (g.noown hp) r)
/-- a, b = e1, e2 -/
def two (i j : Nat) (env : Sg) : List D → Option Sg
  | [d, e] => some ((env.set i (.val d)).set j (.val e))
  | _ => none
def parM (i j : Nat) (fa : MA) : MS := fun env st => (fa env st).bind fun p => (two i j env p.1).map fun e => (.nx e, p.2)
theorem is_par {ta : TA} {fa : MA} (i j : Nat) (h : ImA K ta fa) : ImS K (tPar i j ta) (parM i j fa) := fun dk H0 F0 F σ H env st fl st' g e E hd => by
  obtain ⟨⟨ds, s1⟩, e1, e⟩ := bnd e
  obtain ⟨en, e2, e⟩ := mpd e
  cases e
  refine h dk H0 F0 F σ H env st ds s1 g e1 _ fun vs F1 H1 x1 g1 r1 => ?_
  replace e2 : two i j env ds = some en := e2
  unfold two at e2
  split at e2
  · cases e2
    cases r1 with
    | cons a b => cases b with
      | cons b c =>
        cases c
        exact ⟨_, _, rfl, hd F1 _ H1 x1.f ((g1.set a).set b)⟩
  · cases e2
/-- x op= e -/
def augM (i : Nat) (op : D → D → Option D) (f : ME) : MS := fun env st => match env[i]? with
  | some (.val x) => (f env st).bind fun p => (op x p.1).map fun z => (.nx (env.set i (.val z)), p.2)
  | _ => none
theorem is_aug {te : TE} {ti : TIp} {op : D → D → Option D} {f : ME} (i : Nat) (hr : RO K ti op) (h : ImW K te f) : ImS K (tAug i te ti) (augM i op f) := fun dk H0 F0 F σ H env st fl st' g e E hd => by
  unfold augM at e
  split at e
  · rename_i x hx
    obtain ⟨⟨d, s1⟩, e1, e⟩ := bnd e
    obtain ⟨z, e2, e⟩ := mpd e
    cases e
    obtain ⟨v, h1, h2⟩ := g.sl i _ hx
    refine ⟨v, join_eq h1, h dk H0 F0 F σ H env st d s1 g e1 _ fun u F1 H1 x1 g1 r1 => ?_⟩
    exact hr dk F1 H1 s1 v u x d z g1.wd (.rp (h2.mono x1.f)) r1.w e2 _ fun w F2 H2 px r2 => hd F2 _ H2 (x1.f.trans px.f) ((g1.px px).set r2)
  · cases e
/-- a name's own list is changed no more -/
def frzE (i : Nat) (env : Sg) : Sg := match env[i]? with
  | some (.own (.lst, ds)) => env.set i (.val (.lst ds))
  | some (.own (.dic ks, ds)) => env.set i (.val (.dic ks ds))
  | _ => env
theorem Good.frz1 {i : Nat} {w : Own} {o : HO} {d : D} {p : Addr} (g : Good K dk H0 F0 F σ H env st) (he : env[i]? = some (.own w)) (hs : σ[i]? = some (some (.ref p))) (h2 : H p = some o) (h3 : F.out p) (h4 : H0 p = none) (h5 : p ≠ dk.1) (h6 : p ≠ dk.2)
    (r : Rp K dk (F.up p o) (.ref p) d) : Good K dk H0 F0 (F.up p o) σ H (env.set i (.val d)) st := by
  have hil : i < env.length := by
    by_cases hl : i < env.length
    · exact hl
    · rw [List.getElem?_eq_none (by omega)] at he; cases he
  -- first forget the slot, then freeze, then store it again
  have g1 : Good K dk H0 F0 F σ H (env.set i .un) st := g.reslot (by rw [List.length_set]; exact g.len) fun j s e => by
    by_cases hj : i = j
    · subst hj
      rw [List.getElem?_set_self hil] at e
      cases e; exact .inl rfl
    · rw [List.getElem?_set_ne hj] at e; exact .inr ⟨e, rfl⟩
  have g2 := g1.freeze (p := p) h2 h3 h4 h5 h6 fun j es e => by
    by_cases hj : i = j
    · subst hj
      rw [List.getElem?_set_self hil] at e; cases e
    · rw [List.getElem?_set_ne hj] at e
      exact g.dis i j _ es p hj he e hs
  have g3 := g2.set (i := i) r
  rw [List.set_set] at g3
  have es : σ.set i (some (.ref p)) = σ := by
    apply List.ext_getElem?
    intro j
    by_cases hj : i = j
    · subst hj
      rw [List.getElem?_set_self (by rw [g.len]; exact hil), hs]
    · rw [List.getElem?_set_ne hj]
  rw [es] at g3
  exact g3
theorem Good.frzE (i : Nat) (g : Good K dk H0 F0 F σ H env st) : ∃ F', Le F F' ∧ Good K dk H0 F0 F' σ H (frzE i env) st := by
  unfold MD.frzE
  split
  · rename_i ds he
    obtain ⟨p, vs, h1, h2, h3, h4, h5, h6, h7⟩ := g.sl i _ he
    have le : Le F (F.up p (.lst vs)) := Le.new h3.1
    exact ⟨_, le, g.frz1 he (join_eq h1) h2 h3 h4 h5 h6 (.lst Fz.up_same (h7.mono le))⟩
  · rename_i ks ds he
    obtain ⟨p, vs, h1, ⟨h2, h2'⟩, h3, h4, h5, h6, h7⟩ := g.sl i _ he
    have le : Le F (F.up p (.dK (ks.zip vs))) := Le.new h3.1
    exact ⟨_, le, g.frz1 he (join_eq h1) h2 h3 h4 h5 h6 (.dic Fz.up_same h2' (h7.mono le))⟩
  · exact ⟨F, Le.refl F, g⟩
def frzM (i : Nat) (f : MS) : MS := fun env st => f (frzE i env) st
theorem is_frz {t : TS} {f : MS} (i : Nat) (h : ImS K t f) : ImS K t (frzM i f) := fun dk H0 F0 F σ H env st fl st' g e E hd => by
  obtain ⟨F1, le, g1⟩ := g.frzE i
  exact h dk H0 F0 F1 σ H (frzE i env) st fl st' g1 e E (hd.mono le)
/-- x.append(e), x.extend(e) of a name's own list -/
def appM (i : Nat) (f : ME) : MS := fun env st => match env[i]? with
  | some (.own (.lst, ds)) => if ds.length < sizeLine then (f env st).map fun p => (.nx (env.set i (.own (.lst, ds ++ [p.1]))), p.2) else none
  | _ => none
theorem is_app {te : TE} {f : ME} (i : Nat) (h : Im K te f) : ImS K (tDrop (tBM K "list" rAppend (tVar i) (tCons te tNil))) (appM i f) := fun dk H0 F0 F σ H env st fl st' g e E hd => by
  unfold appM at e
  split at e
  · rename_i ds he
    split at e
    · rename_i hz
      obtain ⟨⟨d, s1⟩, e1, e⟩ := mpd e
      cases e
      obtain ⟨p, vs, h1, h2, h3, h4, h5, h6, h7⟩ := g.sl i _ he
      refine ⟨.ref p, join_eq h1, .inl ⟨rfl, vs, SqL.of h2⟩, ?_⟩
      refine h dk H0 F0 F σ H env st d s1 g e1 _ fun v F1 H1 x1 g1 r1 => ?_
      refine ⟨p, vs, v, rfl, rfl, x1.h _ _ h2 h5 h6 (.inl h3.2), by rw [h7.length]; exact hz, ?_⟩
      exact hd F1 σ _ x1.f (g1.mut (ds' := (.lst, _)) he (join_eq h1) upd_same ((h7.mono x1.f).append (Rps.one r1)))
    · cases e
  · cases e
def lstOf : D → Option (List D)
  | .lst ds => some ds
  | _ => none
theorem lstOf_eq {d : D} {ds : List D} (h : lstOf d = some ds) : d = .lst ds := by
  cases d <;> first | (cases h; rfl) | cases h
def extM (i : Nat) (f : ME) : MS := fun env st => match env[i]? with
  | some (.own (.lst, ds)) => (f env st).bind fun p => (lstOf (dr p.2 p.1)).bind fun es => if ds.length + es.length ≤ sizeLine then some (.nx (env.set i (.own (.lst, ds ++ es))), p.2) else none
  | _ => none
theorem is_ext {te : TE} {f : ME} (i : Nat) (h : ImW K te f) : ImS K (tDrop (tBM K "list" rExtend (tVar i) (tCons te tNil))) (extM i f) := fun dk H0 F0 F σ H env st fl st' g e E hd => by
  unfold extM at e
  split at e
  · rename_i ds he
    obtain ⟨⟨d, s1⟩, e1, e⟩ := bnd e
    obtain ⟨es, e2, e⟩ := bnd e
    split at e
    · rename_i hz
      cases e
      obtain ⟨p, vs, h1, h2, h3, h4, h5, h6, h7⟩ := g.sl i _ he
      refine ⟨.ref p, join_eq h1, .inl ⟨rfl, vs, SqL.of h2⟩, ?_⟩
      refine h dk H0 F0 F σ H env st _ s1 g e1 _ fun v F1 H1 x1 g1 r1 => ?_
      have r2 := r1.dr g1.wd
      rw [lstOf_eq e2] at r2
      obtain ⟨q, us, rfl, k1, k2⟩ := r2.l g1.wd.sub
      refine ⟨p, q, vs, us, rfl, rfl, x1.h _ _ h2 h5 h6 (.inl h3.2), k1, by rw [h7.length, k2.length]; exact hz, ?_⟩
      exact hd F1 σ _ x1.f (g1.mut (ds' := (.lst, _)) he (join_eq h1) upd_same ((h7.mono x1.f).append k2))
    · cases e
  · cases e
end
end MD

set_option Elab.async false
set_option linter.all false
set_option maxRecDepth 100000
set_option maxHeartbeats 1000000
namespace MD
open PySem L2

abbrev MI := Sg → S → Option (List D × S)
/-- the walk goes through these data, whatever is laid meanwhile -/
def Stdy (K : Fg) (dk : Dk) (F : Fz) (J : It) (ds : List D) : Prop := ∀ (F1 : Fz) (H1 : Hp) (st : S), Le F F1 → Wd K dk F1 H1 st → ∀ i : Nat,
  (∀ d, ds[i]? = some d → J.go i H1 ∧ ∀ x H2, J.yld i H1 x H2 → ∃ F2, Px F1 H1 F2 H2 ∧ Rp K dk F2 x d) ∧ (ds.length ≤ i → J.stop i H1)
def ImI (K : Fg) (wi : TI) (f : MI) : Prop := ∀ (dk : Dk) (H0 : Hp) (F0 F : Fz) (σ : L2.St) (H : Hp) (env : Sg) (st : S) (ds : List D) (st' : S), Good K dk H0 F0 F σ H env st → f env st = some (ds, st') →
  ∀ R : It → Hp → Prop, (∀ J F' H', Ext dk F H F' H' → Good K dk H0 F0 F' σ H' env st' → Stdy K dk F' J ds → R J H') → wi σ H R

section
variable {K : Fg} {dk : Dk} {F F' F0 : Fz} {H H' H0 : Hp} {σ : L2.St} {env : Sg} {st : S}
theorem Stdy.mono {J : It} {ds : List D} (le : Le F F') (h : Stdy K dk F J ds) : Stdy K dk F' J ds := fun F1 H1 st l w => h F1 H1 st (le.trans l) w
theorem getD_none {α : Type} {l : List α} {i : Nat} (h : l.length ≤ i) : l[i]? = none := List.getElem?_eq_none h

/-! ### for -/
def forL (t : MG) (b : MS) : List D → MS
  | [], env, st => some (.nx env, st)
  | d :: ds, env, st => (t d env).bind fun env1 => (b env1 st).bind fun p => match p.1 with
    | .nx e => forL t b ds e p.2
    | .ct e => forL t b ds e p.2
    | .bk e => some (.nx e, p.2)
    | .rt r => some (.rt r, p.2)
def forM (it : MI) (t : MG) (b : MS) : MS := fun env st => (it env st).bind fun p => forL t b p.1 env p.2
theorem is_for {wi : TI} {g : TG} {tb : TS} {it : MI} {t : MG} {b : MS} {is : List Nat} (hi : ImI K wi it) (hg : ImG K g t is) (hb : ImS K tb b) : ImS K (tFor wi g tb) (forM it t b) := fun dk H0 F0 F σ H env st fl st' gd e E hd => by
  obtain ⟨⟨ds, s1⟩, e1, e⟩ := bnd e
  refine hi dk H0 F0 F σ H env st ds s1 gd e1 _ fun J F1 H1 x1 g1 sd => ?_
  have hd1 := hd.mono x1.f
  let P : Nat → L2.St → Hp → Prop := fun i σ H => ∃ F2 env st, Le F1 F2 ∧ Good K dk H0 F0 F2 σ H env st ∧ forL t b (ds.drop i) env st = some (fl, st')
  refine ⟨fun i m σ H => m = ds.length - i ∧ i ≤ ds.length ∧ P i σ H, ⟨_, rfl, Nat.zero_le _, F1, env, s1, Le.refl F1, g1, e⟩, ?_⟩
  rintro i m σ2 H2 ⟨rfl, hle, F2, env2, s2, le2, g2, e2⟩
  by_cases hlt : i < ds.length
  · have hdi : ds[i]? = some ds[i] := List.getElem?_eq_getElem hlt
    obtain ⟨hgo, hy⟩ := (sd F2 H2 s2 le2 g2.wd i).1 _ hdi
    refine .inr ⟨hgo, P (i + 1), fun σ' H' hp => ⟨_, by omega, rfl, hlt, hp⟩, fun x H3 hx => ?_⟩
    obtain ⟨F3, px, rx⟩ := hy x H3 hx
    have g3 := g2.px px
    rw [List.drop_eq_getElem_cons hlt] at e2
    obtain ⟨env3, e3, e2⟩ := bnd e2
    obtain ⟨⟨fl3, s3⟩, e4, e2⟩ := bnd e2
    refine hg dk H0 F0 F3 σ2 H3 env2 s2 x _ env3 g3 rx e3 _ fun σ4 g4 _ => ?_
    refine hb dk H0 F0 F3 σ4 H3 env3 s2 fl3 s3 g4 e4 _ ?_
    cases fl3 with
    | nx e5 => exact fun F5 σ5 H5 l5 g5 => ⟨F5, e5, s3, (le2.trans px.f).trans l5, g5, e2⟩
    | ct e5 => exact fun F5 σ5 H5 l5 g5 => ⟨F5, e5, s3, (le2.trans px.f).trans l5, g5, e2⟩
    | bk e5 =>
      cases e2
      exact fun F5 σ5 H5 l5 g5 => hd1 F5 σ5 H5 ((le2.trans px.f).trans l5) g5
    | rt r =>
      cases e2
      exact hd1
  · have ei : i = ds.length := by omega
    subst ei
    rw [List.drop_length] at e2
    cases e2
    exact .inl ⟨(sd F2 H2 _ le2 g2.wd ds.length).2 (Nat.le_refl _), hd1 F2 σ2 H2 le2 g2⟩

/-! ### while -/
def whF (c : MT) (b : MS) : Nat → MS
  | 0, _, _ => none
  | n + 1, env, st => (c env st).bind fun q => if q.1 then (b env q.2).bind fun p => match p.1 with
      | .nx e => whF c b n e p.2
      | .ct e => whF c b n e p.2
      | .bk e => some (.nx e, p.2)
      | .rt r => some (.rt r, p.2)
    else some (.nx env, q.2)
theorem whF_mono {c : MT} {b : MS} {r : Fl × S} : ∀ (n : Nat) {env : Sg} {st : S}, whF c b n env st = some r → whF c b (n + 1) env st = some r
  | 0, _, _, h => by cases h
  | n + 1, env, st, h => by
    obtain ⟨⟨k, s1⟩, e1, h⟩ := bnd h
    show ((c env st).bind _) = _
    rw [e1]
    cases k with
    | false => exact h
    | true =>
      replace h : ((b env s1).bind fun p => match p.1 with
        | .nx e => whF c b n e p.2
        | .ct e => whF c b n e p.2
        | .bk e => some (.nx e, p.2)
        | .rt r => some (.rt r, p.2)) = some r := h
      obtain ⟨⟨fl, s2⟩, e2, h⟩ := bnd h
      show ((b env s1).bind _) = _
      rw [e2]
      cases fl with
      | nx e => exact whF_mono n h
      | ct e => exact whF_mono n h
      | bk e => exact h
      | rt e => exact h
theorem whF_le {c : MT} {b : MS} {r : Fl × S} {env : Sg} {st : S} {n m : Nat} (h : n ≤ m) (e : whF c b n env st = some r) : whF c b m env st = some r := by
  induction h with
  | refl => exact e
  | step _ ih => exact whF_mono _ ih
open Classical in
noncomputable def whM (c : MT) (b : MS) : MS := fun env st => if h : ∃ n r, whF c b n env st = some r then whF c b h.choose env st else none
theorem whM_of {c : MT} {b : MS} {r : Fl × S} {env : Sg} {st : S} {n : Nat} (e : whF c b n env st = some r) : whM c b env st = some r := by
  unfold whM
  have h : ∃ n r, whF c b n env st = some r := ⟨n, r, e⟩
  rw [dif_pos h]
  obtain ⟨r', hr⟩ := h.choose_spec
  rw [hr]
  rcases Nat.le_total n h.choose with l | l
  · rw [whF_le l e] at hr; exact hr.symm
  · rw [whF_le l hr] at e; exact e
theorem of_whM {c : MT} {b : MS} {r : Fl × S} {env : Sg} {st : S} (e : whM c b env st = some r) : ∃ n, whF c b n env st = some r := by
  unfold whM at e
  split at e
  · exact ⟨_, e⟩
  · cases e
theorem is_while {c : TT} {tb : TS} {fc : MT} {b : MS} (hc : ImT K c fc) (hb : ImS K tb b) : ImS K (tWhile c tb) (whM fc b) := fun dk H0 F0 F σ H env st fl st' gd e E hd => by
  obtain ⟨n, e⟩ := of_whM e
  refine ⟨fun m σ H => ∃ F2 env st, Le F F2 ∧ Good K dk H0 F0 F2 σ H env st ∧ whF fc b m env st = some (fl, st'), ⟨n, F, env, st, Le.refl F, gd, e⟩, ?_⟩
  rintro m σ2 H2 ⟨F2, env2, s2, le2, g2, e2⟩
  cases m with
  | zero => cases e2
  | succ m =>
    obtain ⟨⟨k, s3⟩, e3, e2⟩ := bnd e2
    refine hc dk H0 F0 F2 σ2 H2 env2 s2 k s3 g2 e3 _ fun F3 H3 x3 g3 => ?_
    have le3 := le2.trans x3.f
    cases k with
    | false => cases e2; exact hd F3 σ2 H3 le3 g3
    | true =>
      replace e2 : ((b env2 s3).bind fun p => match p.1 with
        | .nx e => whF fc b m e p.2
        | .ct e => whF fc b m e p.2
        | .bk e => some (.nx e, p.2)
        | .rt r => some (.rt r, p.2)) = some (fl, st') := e2
      obtain ⟨⟨fl4, s4⟩, e4, e2⟩ := bnd e2
      refine ⟨fun σ H => ∃ F2 env st, Le F F2 ∧ Good K dk H0 F0 F2 σ H env st ∧ whF fc b m env st = some (fl, st'), fun σ' H' h => ⟨m, Nat.lt_succ_self m, h⟩, ?_⟩
      refine hb dk H0 F0 F3 σ2 H3 env2 s3 fl4 s4 g3 e4 _ ?_
      cases fl4 with
      | nx e5 => exact fun F5 σ5 H5 l5 g5 => ⟨F5, e5, s4, le3.trans l5, g5, e2⟩
      | ct e5 => exact fun F5 σ5 H5 l5 g5 => ⟨F5, e5, s4, le3.trans l5, g5, e2⟩
      | bk e5 =>
        cases e2
        exact fun F5 σ5 H5 l5 g5 => hd F5 σ5 H5 (le3.trans l5) g5
      | rt r =>
        cases e2
        exact hd

/-! ### comprehensions -/
def wipeE (env : Sg) : List Nat → Sg
  | [] => env
  | v :: vs => (wipeE env vs).set v .un
theorem wipeE_length (env : Sg) : ∀ vs : List Nat, (wipeE env vs).length = env.length
  | [] => rfl
  | v :: vs => by unfold wipeE; rw [List.length_set, wipeE_length env vs]
theorem wipeE_get {env : Sg} {i : Nat} {s : Sl} : ∀ {vs : List Nat}, (wipeE env vs)[i]? = some s → s = .un ∨ (env[i]? = some s ∧ i ∉ vs)
  | [], h => .inr ⟨h, by simp⟩
  | v :: vs, h => by
    unfold wipeE at h
    by_cases hi : v = i
    · subst hi
      by_cases hv : v < (wipeE env vs).length
      · rw [List.getElem?_set_self hv] at h; cases h; exact .inl rfl
      · rw [List.getElem?_eq_none (by rw [List.length_set]; omega)] at h; cases h
    · rw [List.getElem?_set_ne hi] at h
      rcases wipeE_get h with z | ⟨z1, z2⟩
      · exact .inl z
      · exact .inr ⟨z1, by simp only [List.mem_cons, not_or]; exact ⟨fun e => hi e.symm, z2⟩⟩
theorem wipe_off {σ : L2.St} {i : Nat} : ∀ {vs : List Nat}, i ∉ vs → (wipe σ vs)[i]? = σ[i]?
  | [], _ => rfl
  | v :: vs, h => by
    unfold wipe
    have hi : v ≠ i := fun e => h (by simp [e])
    rw [List.getElem?_set_ne hi]
    exact wipe_off fun z => h (List.mem_cons_of_mem _ z)
theorem wipe_in {σ : L2.St} {i : Nat} : ∀ {vs : List Nat}, i ∈ vs → (wipe σ vs)[i]? = if i < σ.length then some none else none
  | [], h => by cases h
  | v :: vs, h => by
    unfold wipe
    by_cases hi : v = i
    · subst hi
      by_cases hv : v < σ.length
      · rw [List.getElem?_set_self (by rw [wipe_length]; exact hv), if_pos hv]
      · rw [List.getElem?_eq_none (by rw [List.length_set, wipe_length]; omega), if_neg hv]
    · rw [List.getElem?_set_ne hi]
      rcases List.mem_cons.mp h with e | e
      · exact absurd e.symm hi
      · exact wipe_in e
theorem wipe_eq {σ σ' : L2.St} {vs : List Nat} (hl : σ'.length = σ.length) (h : ∀ i : Nat, i ∉ vs → σ'[i]? = σ[i]?) : wipe σ' vs = wipe σ vs := by
  apply List.ext_getElem?
  intro i
  by_cases hi : i ∈ vs
  · rw [wipe_in hi, wipe_in hi, hl]
  · rw [wipe_off hi, wipe_off hi]; exact h i hi
theorem wipe_wipe {σ : L2.St} {vs : List Nat} : wipe (wipe σ vs) vs = wipe σ vs := wipe_eq (wipe_length σ vs) fun i hi => wipe_off hi
theorem Good.wiped {vs : List Nat} (g : Good K dk H0 F0 F σ H env st) : Good K dk H0 F0 F (wipe σ vs) H (wipeE env vs) st :=
  g.reslot (by rw [wipe_length, wipeE_length]; exact g.len) fun i s e => by
    rcases wipeE_get e with z | ⟨z1, z2⟩
    · exact .inl z
    · exact .inr ⟨z1, wipe_off z2⟩
def compL (t : MG) (c : MT) (f : ME) (env : Sg) : List D → S → Option (List D × S)
  | [], st => some ([], st)
  | d :: ds, st => (t d env).bind fun e => (c e st).bind fun p => if p.1 then (f e p.2).bind fun q => (compL t c f env ds q.2).map fun r => (q.1 :: r.1, r.2) else compL t c f env ds p.2
def compM (it : MI) (t : MG) (c : MT) (f : ME) (vs : List Nat) : MA := fun env st => (it env st).bind fun p => if p.1.length ≤ sizeLine then compL t c f (wipeE env vs) p.1 p.2 else none
def yesM : MT := fun _ st => some (true, st)
theorem it_yes : ImT K tYes yesM := fun dk H0 F0 F σ H env st b st' g e Q q => by
  cases e
  exact q F H (Ext.refl F H) g
theorem if_comp {wi : TI} {g : TG} {tt : TT} {te : TE} {vs : List Nat} {it : MI} {t : MG} {c : MT} {f : ME} {is : List Nat} (hi : ImI K wi it) (hg : ImG K g t is) (ht : ImT K tt c) (he : Im K te f) (hv : ∀ i ∈ is, i ∈ vs) :
    ImF K (tLc wi g tt te vs) (compM it t c f vs) := fun dk H0 F0 F σ H env st out st' gd e Q q => by
  obtain ⟨⟨ds, s1⟩, e1, e⟩ := bnd e
  replace e : (if ds.length ≤ sizeLine then compL t c f (wipeE env vs) ds s1 else none) = some (out, st') := e
  split at e
  · rename_i hz
    refine hi dk H0 F0 F σ H env st ds s1 gd e1 _ fun J F1 H1 x1 g1 sd Dn hD => ?_
    have hDH : H Dn = none := by
      cases w : H Dn with
      | none => rfl
      | some o => exact absurd hD (x1.m Dn (by rw [w]; exact fun z => nomatch z))
    have nd := g1.nedk hD
    have h0D := g1.fresh0 hD
    have noD := g1.noown hD
    have noW : ∀ (j : Nat) (es : Own), (wipeE env vs)[j]? = some (.own es) → (wipe σ vs)[j]? ≠ some (some (.ref Dn)) := fun j es e => by
      rcases wipeE_get e with z | ⟨z1, z2⟩
      · cases z
      · rw [wipe_off z2]; exact noD j es z1
    let P : Nat → Hp → Prop := fun i H => ∃ F2 st2 acc done rest, Le F1 F2 ∧ Ext dk F1 H1 F2 H ∧ Good K dk H0 F0 F2 (wipe σ vs) H (wipeE env vs) st2 ∧ H Dn = some (.lst acc) ∧ F2.out Dn ∧ acc.length ≤ i ∧ Rps K dk F2 acc done ∧
      compL t c f (wipeE env vs) (ds.drop i) st2 = some (rest, st') ∧ done ++ rest = out
    have px0 : Px F1 H1 F1 (upd H1 Dn (.lst [])) := Px.lay g1.wd.sub hD
    refine ⟨fun i m H => m = ds.length - i ∧ i ≤ ds.length ∧ P i H, ⟨_, rfl, Nat.zero_le _, F1, s1, [], [], out, Le.refl F1, px0.ext, (g1.wiped).px px0, upd_same, g1.wd.out hD, Nat.zero_le _, .nil, e, rfl⟩, ?_⟩
    rintro i m H2 ⟨rfl, hle, F2, s2, acc, done, rest, le2, x2, g2, hacc, f2, hal, racc, e2, eo⟩
    by_cases hlt : i < ds.length
    · have hdi : ds[i]? = some ds[i] := List.getElem?_eq_getElem hlt
      obtain ⟨hgo, hy⟩ := (sd F2 H2 s2 le2 g2.wd i).1 _ hdi
      refine .inr ⟨hgo, P (i + 1), fun H' hp => ⟨_, by omega, rfl, hlt, hp⟩, fun x H3 hx => ?_⟩
      obtain ⟨F3, px, rx⟩ := hy x H3 hx
      have g3 := g2.px px
      rw [List.drop_eq_getElem_cons hlt] at e2
      obtain ⟨env3, e3, e2⟩ := bnd e2
      obtain ⟨⟨b, s4⟩, e4, e2⟩ := bnd e2
      refine hg dk H0 F0 F3 (wipe σ vs) H3 (wipeE env vs) s2 x _ env3 g3 rx e3 _ fun σ4 g4 tg => ?_
      have same : ∀ j : Nat, j ∉ vs → σ4[j]? = (wipe σ vs)[j]? ∧ env3[j]? = (wipeE env vs)[j]? := fun j hj => tg.same j fun z => hj (hv j z)
      have weq : wipe σ4 vs = wipe σ vs := by
        rw [wipe_eq tg.len fun j hj => (same j hj).1, wipe_wipe]
      have nD3 : H2 Dn ≠ none := by rw [hacc]; exact fun z => nomatch z
      have back : ∀ {F5 : Fz} {H5 : Hp} {st5 : S}, Good K dk H0 F0 F5 σ4 H5 env3 st5 → Good K dk H0 F0 F5 (wipe σ vs) H5 (wipeE env vs) st5 := fun {F5 H5 st5} g5 =>
        g5.reslot (by rw [wipe_length, wipeE_length]; exact gd.len) fun j s es => by
          rcases wipeE_get es with z | ⟨z1, z2⟩
          · exact .inl z
          · exact .inr ⟨(same j z2).2.trans es, (same j z2).1.symm⟩
      refine ⟨weq, ?_⟩
      refine ht dk H0 F0 F3 σ4 H3 env3 s2 b s4 g4 e4 _ fun F5 H5 x5 g5 => ?_
      have x25 : Ext dk F2 H2 F5 H5 := px.ext.trans x5
      have a5 : H5 Dn = some (.lst acc) := x25.h _ _ hacc nd.1 nd.2 (.inl f2.2)
      have f5 : F5.out Dn := x25.out f2 nD3
      cases b with
      | false =>
        exact ⟨F5, s4, acc, done, rest, le2.trans x25.f, x2.trans x25, back g5, a5, f5, by omega, racc.mono x25.f, e2, eo⟩
      | true =>
        replace e2 : ((f env3 s4).bind fun q => (compL t c f (wipeE env vs) (ds.drop (i + 1)) q.2).map fun r => (q.1 :: r.1, r.2)) = some (rest, st') := e2
        obtain ⟨⟨y, s6⟩, e6, e2⟩ := bnd e2
        obtain ⟨⟨rest', s7⟩, e7, e2⟩ := mpd e2
        cases e2
        refine he dk H0 F0 F5 σ4 H5 env3 s4 y s6 g5 e6 _ fun v F6 H6 x6 g6 r6 => ?_
        have x26 := x25.trans x6
        have a6 : H6 Dn = some (.lst acc) := x26.h _ _ hacc nd.1 nd.2 (.inl f2.2)
        have f6 : F6.out Dn := x26.out f2 nD3
        refine ⟨acc, a6, by omega, F6, s6, acc ++ [v], done ++ [y], rest', le2.trans x26.f, ?_, (back g6).mutT a6 f6 h0D nd.1 nd.2 noW, upd_same, f6, by simp; omega, (racc.mono x26.f).append (Rps.one r6), e7, by rw [← eo]; simp⟩
        exact (x2.trans x26).upd hD
    · have ei : i = ds.length := by omega
      subst ei
      rw [List.drop_length] at e2
      cases e2
      refine .inl ⟨(sd F2 H2 _ le2 g2.wd ds.length).2 (Nat.le_refl _), ?_⟩
      rw [List.append_nil] at eo
      subst eo
      have g9 : Good K dk H0 F0 F2 σ H2 env st' := by
        have gx := g1.step x2 g2.wd
        exact gx
      exact q Dn acc F2 H2 (x1.trans x2) g9 hDH f2 hacc racc
  · cases e
end
end MD

set_option Elab.async false
set_option linter.all false
set_option maxRecDepth 100000
set_option maxHeartbeats 2000000
namespace MD
open PySem L2

section
variable {K : Fg} {dk : Dk} {F F' F0 : Fz} {H H' H0 : Hp} {σ : L2.St} {env : Sg} {st : S}
/-! ### what a for or a comprehension walks -/
def rngD (lo : Int) (n : Nat) : List D := (List.range n).map fun k => .int (lo + (k : Nat))
theorem rngD_get {lo : Int} {n i : Nat} {d : D} (h : (rngD lo n)[i]? = some d) : i < n ∧ d = .int (lo + (i : Nat)) := by
  unfold rngD at h
  rw [List.getElem?_map] at h
  obtain ⟨k, h1, h2⟩ := mpd h
  have hi : i < n := by
    by_cases hl : i < n
    · exact hl
    · rw [List.getElem?_eq_none (by rw [List.length_range]; omega)] at h1; cases h1
  rw [List.getElem?_range hi] at h1
  cases h1
  exact ⟨hi, h2.symm⟩
theorem stdy_rng (lo : Int) (n : Nat) : Stdy K dk F (Itr lo n) (rngD lo n) := fun F1 H1 st le w i => by
  refine ⟨fun d hd => ?_, fun hl => ?_⟩
  · obtain ⟨h1, rfl⟩ := rngD_get hd
    refine ⟨h1, fun x H2 hy => ?_⟩
    obtain ⟨e1, e2⟩ := hy
    subst e1 e2
    exact ⟨F1, Px.refl w.sub, .int _⟩
  · show n ≤ i
    unfold rngD at hl
    simpa using hl
def r1M (a : MA) : MI := fun env st => (a env st).bind fun p => match p.1 with
  | [.int j] => if -(2 ^ 62) ≤ j ∧ j < 2 ^ 62 then some (rngD 0 j.toNat, p.2) else none
  | _ => none
theorem ii_range1 {ta : TA} {a : MA} (h : ImAW K ta a) : ImI K (iRng1 ta) (r1M a) := fun dk H0 F0 F σ H env st ds st' g e R q => by
  obtain ⟨⟨xs, s1⟩, h1, e⟩ := bnd e
  refine h dk H0 F0 F σ H env st xs s1 g h1 _ fun vs F1 H1 x1 g1 r1 => ?_
  dsimp only at e
  split at e
  · split at e
    · rename_i j hj
      cases e
      obtain ⟨v, rfl, r⟩ := r1.ws.one
      cases r.int
      exact ⟨j, rfl, hj.1, hj.2, q _ F1 H1 x1 g1 (stdy_rng 0 j.toNat)⟩
    · cases e
  · cases e
def r2M (a : MA) : MI := fun env st => (a env st).bind fun p => match p.1 with
  | [.int i, .int j] => if -(2 ^ 62) ≤ i ∧ i < 2 ^ 62 ∧ -(2 ^ 62) ≤ j ∧ j < 2 ^ 62 then some (rngD i (j - i).toNat, p.2) else none
  | _ => none
theorem ii_range2 {ta : TA} {a : MA} (h : ImAW K ta a) : ImI K (iRng2 ta) (r2M a) := fun dk H0 F0 F σ H env st ds st' g e R q => by
  obtain ⟨⟨xs, s1⟩, h1, e⟩ := bnd e
  refine h dk H0 F0 F σ H env st xs s1 g h1 _ fun vs F1 H1 x1 g1 r1 => ?_
  dsimp only at e
  split at e
  · split at e
    · rename_i i j hj
      cases e
      obtain ⟨v, u, rfl, r, r'⟩ := r1.ws.two
      cases r.int
      cases r'.int
      exact ⟨i, j, rfl, hj, q _ F1 H1 x1 g1 (stdy_rng i (j - i).toNat)⟩
    · cases e
  · cases e

/-! a list, a tuple or a text -/
theorem stdy_list {a : Addr} {vs : List V} {ds : List D} (h : F a = some (.lst vs)) (r : Rps K dk F vs ds) : Stdy K dk F (Itl K a) ds := fun F1 H1 st le w i => by
  have hq : SqL K H1 a vs := SqL.of (w.sub.lst (le.h _ _ h))
  refine ⟨fun d hd => ?_, fun hl => ⟨vs, hq, by rw [r.length]; exact hl⟩⟩
  obtain ⟨v, h1, h2⟩ := r.get hd
  refine ⟨⟨vs, v, hq, h1⟩, fun x H2 hy => ?_⟩
  obtain ⟨e1, e2⟩ := hy
  subst e1
  have ev := e2 vs hq
  rw [h1] at ev
  cases ev
  exact ⟨F1, Px.refl w.sub, h2.mono le⟩
theorem stdy_tup {a : Addr} {vs : List V} {ds : List D} (h : SqT K F a vs) (r : Rps K dk F vs ds) : Stdy K dk F (Itt K a) ds := fun F1 H1 st le w i => by
  have hq : SqT K H1 a vs := w.sub.sqT (le.sqT h)
  refine ⟨fun d hd => ?_, fun hl => ⟨vs, hq, by rw [r.length]; exact hl⟩⟩
  obtain ⟨v, h1, h2⟩ := r.get hd
  refine ⟨⟨vs, v, hq, h1⟩, fun x H2 hy => ?_⟩
  obtain ⟨e1, e2⟩ := hy
  subst e1
  have ev := e2 vs hq
  rw [h1] at ev
  cases ev
  exact ⟨F1, Px.refl w.sub, h2.mono le⟩
theorem signs_get {x : Str} {i : Nat} {d : D} (h : ((signs x).map D.str)[i]? = some d) : ∃ c, x.cps[i]? = some c ∧ d = .str ⟨#[c]⟩ := by
  unfold signs at h
  rw [List.map_map, List.getElem?_map] at h
  obtain ⟨c, h1, h2⟩ := mpd h
  exact ⟨c, by simpa using h1, h2.symm⟩
theorem signs_len (x : Str) : ((signs x).map D.str).length = x.cps.size := by
  unfold signs
  simp
theorem stdy_str (x : Str) : Stdy K dk F (Its x) ((signs x).map D.str) := fun F1 H1 st le w i => by
  refine ⟨fun d hd => ?_, fun hl => by rw [signs_len] at hl; exact hl⟩
  obtain ⟨c, h1, rfl⟩ := signs_get hd
  refine ⟨?_, fun y H2 hy => ?_⟩
  · show i < x.cps.size
    by_cases hl : i < x.cps.size
    · exact hl
    · rw [Array.getElem?_eq_none (by omega)] at h1; cases h1
  · obtain ⟨e1, c', h2, e2⟩ := hy
    subst e1 e2
    rw [h1] at h2
    cases h2
    exact ⟨F1, Px.refl w.sub, .str _⟩
def iSeq (K : Fg) (te : TE) : TI := fun σ H R => te σ H fun x H1 =>
  (∃ a, x = .ref a ∧ (∃ xs, SqL K H1 a xs) ∧ R (Itl K a) H1) ∨ (∃ a, x = .ref a ∧ (∃ xs, SqT K H1 a xs) ∧ R (Itt K a) H1) ∨ ∃ y, x = .str y ∧ R (Its y) H1
theorem pi_seq {X : Cx} {tg e : Expr} {te : TE} (he : PE X e te) : PI X tg e (iSeq X.K te) := by
  constructor
  intro pins s σ H R I h
  refine thn (he.run pins s σ H _ I h) fun v s1 h1 => ?_
  obtain ⟨x, H1, I1, r1, q1⟩ := h1
  rcases q1 with ⟨a, rfl, ⟨xs, hq⟩, q⟩ | ⟨a, rfl, ⟨xs, hq⟩, q⟩ | ⟨y, rfl, q⟩
  · cases r1
    obtain ⟨its, _, pl, _⟩ := I1.list hq
    exact wpAny_pyIter_list pl.isList (pi_one (tk := s1.toks) I1 _ (turn_list a _) ⟨_, Heap.get?_push_size _ rfl, rfl, rfl⟩ q)
  · cases r1
    obtain ⟨its, _, pl, _⟩ := I1.tuple hq
    exact wpAny_pyIter_tuple (show s1.heap.IsTuple a its.toArray from pl) (pi_one (tk := s1.toks) I1 _ (turn_tuple a _) ⟨_, Heap.get?_push_size _ rfl, rfl, rfl⟩ q)
  · obtain ⟨t, rfl⟩ := r1
    cases ha : y.cps.all (· < 128)
    · exact wpAny_pyIter_wide ha (pi_one (tk := s1.toks) I1 _ (turn_str _ y t "str_iterator" (.inr rfl)) ⟨_, Heap.get?_push_size _ rfl, rfl, rfl⟩ q)
    · exact wpAny_pyIter_ascii ha (pi_one (tk := s1.toks) I1 _ (turn_str _ y t "str_ascii_iterator" (.inl rfl)) ⟨_, Heap.get?_push_size _ rfl, rfl, rfl⟩ q)
def seqOf : D → Option (List D)
  | .lst ds => some ds
  | .tup ds => some ds
  | .str x => some ((signs x).map D.str)
  | _ => none
def seqI (f : ME) : MI := fun env st => (f env st).bind fun p => (seqOf p.1).map fun ds => (ds, p.2)
theorem ii_seq {te : TE} {f : ME} (h : Im K te f) : ImI K (iSeq K te) (seqI f) := fun dk H0 F0 F σ H env st ds st' g e R q => by
  obtain ⟨⟨d, s1⟩, h1, e⟩ := bnd e
  obtain ⟨es, h2, e⟩ := mpd e
  cases e
  refine h dk H0 F0 F σ H env st d s1 g h1 _ fun v F1 H1 x1 g1 r1 => ?_
  replace h2 : seqOf d = some ds := h2
  cases d with
  | lst xs =>
    cases h2
    cases r1 with
    | lst a1 a2 => exact .inl ⟨_, rfl, ⟨_, SqL.of (g1.wd.sub.lst a1)⟩, q _ F1 H1 x1 g1 (stdy_list a1 a2)⟩
  | tup xs =>
    cases h2
    cases r1 with
    | tup a1 a2 => exact .inr (.inl ⟨_, rfl, ⟨_, g1.wd.sub.sqT a1⟩, q _ F1 H1 x1 g1 (stdy_tup a1 a2)⟩)
  | str x =>
    cases h2
    cases r1
    exact .inr (.inr ⟨_, rfl, q _ F1 H1 x1 g1 (stdy_str x)⟩)
  | _ => cases h2

/-! ### enumerate -/
def enumD (ds : List D) : List D := ds.zipIdx.map fun p => .tup [.int ((p.2 : Nat) : Int), p.1]
theorem enumD_get {ds : List D} {i : Nat} {d : D} (h : (enumD ds)[i]? = some d) : ∃ x, ds[i]? = some x ∧ d = .tup [.int ((i : Nat) : Int), x] := by
  unfold enumD at h
  rw [List.getElem?_map, List.getElem?_zipIdx] at h
  obtain ⟨p, h1, h2⟩ := mpd h
  obtain ⟨x, h3, h4⟩ := mpd h1
  subst h4
  exact ⟨x, h3, by rw [← h2]; simp⟩
theorem enumD_len (ds : List D) : (enumD ds).length = ds.length := by unfold enumD; simp
/-- items that stand fast, each in a new pair with its number -/
def ItE (C : Hp → Prop) (xs : List V) : It := ⟨fun i H => i < xs.length ∧ C H, fun i H v H' => ∃ T x, v = .ref T ∧ H T = none ∧ H' = upd H T (.tup [.int ((i : Nat) : Int), x]) ∧ xs[i]? = some x, fun i H => xs.length ≤ i ∧ C H⟩
theorem pair_new {T : Addr} {i : Int} {x : V} {d : D} {F1 : Fz} {H1 : Hp} {st : S} (w : Wd K dk F1 H1 st) (hT : H1 T = none) (r : Rp K dk F1 x d) :
    ∃ F2, Px F1 H1 F2 (upd H1 T (.tup [.int i, x])) ∧ Rp K dk F2 (.ref T) (.tup [.int i, d]) := by
  have px : Px F1 H1 (Fz.up F1 T (.tup [.int i, x])) (upd H1 T (.tup [.int i, x])) := Px.new w.sub hT
  exact ⟨_, px, .tup (SqT.of Fz.up_same) (.cons (.int i) (.cons (r.mono px.f) .nil))⟩
theorem stdy_enumE {C : Hp → Prop} {vs : List V} {ds : List D} (hC : ∀ H1, Sb F H1 → C H1) (r : Rps K dk F vs ds) : Stdy K dk F (ItE C vs) (enumD ds) := fun F1 H1 st le w i => by
  have hc : C H1 := hC H1 (le.sb w.sub)
  refine ⟨fun d hd => ?_, fun hl => ⟨by rw [enumD_len, ← r.length] at hl; exact hl, hc⟩⟩
  obtain ⟨x, h1, rfl⟩ := enumD_get hd
  obtain ⟨v, h2, h3⟩ := r.get h1
  refine ⟨⟨?_, hc⟩, fun y H2 hy => ?_⟩
  · show i < vs.length
    by_cases hl : i < vs.length
    · exact hl
    · rw [List.getElem?_eq_none (by omega)] at h2; cases h2
  · obtain ⟨T, v', rfl, hT, rfl, e⟩ := hy
    rw [h2] at e
    cases e
    exact pair_new w hT (h3.mono le)
theorem stdy_enumL {a : Addr} {vs : List V} {ds : List D} (h : F a = some (.lst vs)) (r : Rps K dk F vs ds) : Stdy K dk F (Ite K a) (enumD ds) := fun F1 H1 st le w i => by
  have hq : SqL K H1 a vs := SqL.of (w.sub.lst (le.h _ _ h))
  refine ⟨fun d hd => ?_, fun hl => ⟨vs, hq, by rw [enumD_len, ← r.length] at hl; exact hl⟩⟩
  obtain ⟨x, h1, rfl⟩ := enumD_get hd
  obtain ⟨v, h2, h3⟩ := r.get h1
  refine ⟨⟨vs, v, hq, h2⟩, fun y H2 hy => ?_⟩
  obtain ⟨T, v', rfl, hT, rfl, e⟩ := hy
  have e' := e vs hq
  rw [h2] at e'
  cases e'
  exact pair_new w hT (h3.mono le)
/-- a turn of enumerate over what draws from it -/
theorem turnE {P : Program} {w : World} {K : Fg} {elts : List Expr} {kk : Nat} {tpos : Pos} (C : Hp → Prop) (xs : List V) (e it : Addr) (St1 : Nat → Heap → Prop)
    (fr : ∀ i h h', St1 i h → (∀ o, h.get? it = some o → h'.get? it = some o) → St1 i h')
    (ob : ∀ i h, St1 i h → ∃ o, h.get? it = some o ∧ ∀ v, o.data ≠ .cell v)
    (dr : ∀ (X : Cx), X.prog = P → X.w = w → X.K = K → X.calm = true → ∀ (i : Nat) (pins : List (Addr × Obj)) (s : Shared) (σ : L2.St) (H : Hp), Inv X pins σ H s → C H → H it = none → St1 i s.heap →
      ∃ (fp : List Addr) (St2 : Nat → Heap → Prop) (Pv : Nat → Value → Prop), Draws P w X.A.in1 it fp xs.length Pv St2 ∧ St2 i s.heap ∧ (∀ j h, St2 j h → St1 j h) ∧ (∀ b ∈ fp, b = it ∨ (∃ o, H b = some o) ∨ ∃ o, X.base.get? b = some o) ∧ ∀ j u, Pv j u → ∃ x, xs[j]? = some x ∧ RelV x u) :
    Turn P w K (.Tuple elts kk tpos) (ItE C xs) [e, it] e (fun i h => (∃ old, IsEnum h e it ((i : Nat) : Int) old) ∧ St1 i h ∧ e ≠ it ∧ i ≤ xs.length) where
  mem := List.mem_cons_self
  obj := fun i h tn b hb => by
    obtain ⟨⟨old, he⟩, hs, _⟩ := tn
    rcases List.mem_cons.mp hb with z | z
    · rw [z]; exact ⟨_, he, fun v q => nomatch q⟩
    · rw [List.mem_singleton.mp z]; exact ob i h hs
  keep := fun i h h' tn k => by
    obtain ⟨⟨old, he⟩, hs, hne, hl⟩ := tn
    exact ⟨⟨old, k e List.mem_cons_self _ he⟩, fr i h h' hs fun o q => k it (by simp) o q, hne, hl⟩
  item := by
    intro X hP hw hK hc i pins s σ H Er I hf tn hgo
    obtain ⟨hg, hC⟩ : i < xs.length ∧ C H := hgo
    obtain ⟨⟨old, he⟩, hs, hne, _⟩ := tn
    obtain ⟨fp, St2, Pv, Dw, h2, h21, hfp, hpv⟩ := dr X hP hw hK hc i pins s σ H I hC (hf it (by simp)).1 hs
    subst hP hw hK
    have hel : e < s.heap.objs.size := Heap.lt_size he
    have hil : it < s.heap.objs.size := by obtain ⟨o, q, _⟩ := ob i _ hs; exact Heap.lt_size q
    have hef : e ∉ fp := fun z => by
      rcases hfp e z with q | ⟨o, q⟩ | ⟨o, q⟩
      · exact hne q
      · rw [(hf e (by simp)).1] at q; cases q
      · have hx := (I.bs e o q).1
        obtain ⟨f0, f1, f2, f3, _⟩ := hf e (by simp)
        rcases f3 with f3 | f3
        · exact I.ok.noex e o q f3
        · exact absurd (Nat.lt_of_lt_of_le (Heap.lt_size (I.ok.bs e o q).1) f3) (Nat.lt_irrefl _)
    refine wpAny_pyNext_enum_itemD Dw he h2 hg hne hef fun u h' tk hu ho hst hT hsz hk => ?_
    obtain ⟨x, hx, ru⟩ := hpv i u hu
    refine ⟨_, rfl, wpAny_letOwnedTupleGo_enum (s := { s with heap := h', toks := tk + 1 }) ho fun h'' he' sb => ?_⟩
    have hT2 : h''.get? s.heap.objs.size = some { cls := .type "tuple", data := .seq #[.int i tk, u] } := (sb.2 _ (Nat.ne_of_gt hel)).trans hT
    have new : ObjOk X.prog X.w (upd H s.heap.objs.size (.tup [.int ((i : Nat) : Int), x])) h'' s.heap.objs.size (.tup [.int ((i : Nat) : Int), x]) := by
      refine ⟨?_, [.int i tk, u], .cons ⟨_, rfl⟩ (.cons ru .nil), ⟨_, hT2, rfl, _, rfl⟩⟩
      show 2 ≤ sizeLine
      decide
    have I1 : Inv X pins σ (upd H s.heap.objs.size (.tup [.int ((i : Nat) : Int), x])) { s with heap := h'', toks := tk + 1 } := by
      refine I.turnedNew (ch := [e, it]) (fun b o hb q => ?_) hf (Nat.le_refl _) new
      have n1 : b ≠ e := fun z => hb (by simp [z])
      have n2 : b ≠ it := fun z => hb (by simp [z])
      exact (sb.2 b n1).trans (hk b o n1 n2 q)
    refine ⟨.ref s.heap.objs.size, _, I1, rfl, ⟨_, x, rfl, I.hok.fresh (Nat.le_refl _), rfl, hx⟩, ⟨⟨u, ?_⟩, ?_, hne, hg⟩, fun b hb => ?_⟩
    · have e1 : ((i + 1 : Nat) : Int) = (i : Int) + 1 := by omega
      rw [e1]; exact he'
    · exact fr (i + 1) h' h'' (h21 _ _ hst) fun o q => (sb.2 it (Ne.symm hne)).trans q
    · have hb' : b < s.heap.objs.size := by
        rcases List.mem_cons.mp hb with z | z
        · rw [z]; exact hel
        · rw [List.mem_singleton.mp z]; exact hil
      rw [upd_ne (Nat.ne_of_lt hb')]
      exact (hf b hb).1
  done := by
    intro X hP hw hK hc i pins s σ H Er I hf tn hgo
    obtain ⟨hg, hC⟩ : xs.length ≤ i ∧ C H := hgo
    obtain ⟨⟨old, he⟩, hs, hne, hl⟩ := tn
    have ei : i = xs.length := Nat.le_antisymm hl hg
    subst ei
    obtain ⟨fp, St2, Pv, Dw, h2, h21, hfp, hpv⟩ := dr X hP hw hK hc xs.length pins s σ H I hC (hf it (by simp)).1 hs
    subst hP hw hK
    obtain ⟨f0, f1, f2, f3, f4, f5⟩ := hf it (by simp)
    exact wpAny_pyNext_enum_endD Dw he h2 fun h' eb => ⟨rfl, I.turned (t' := s.toks) (fun b o hb q => eb b o hb q) f0 f1 f3 f4 f5⟩
  self := fun A i s Q E tn h => by
    obtain ⟨⟨_, he⟩, _⟩ := tn
    exact wpAny_pyIter_enum he h
end
end MD

set_option Elab.async false
set_option linter.all false
set_option maxRecDepth 100000
set_option maxHeartbeats 2000000
namespace MD
open PySem L2

theorem newT (t : Addr) (items : Array Value) : Meets (Builtin.«enumerate.__new__» ⟨[.type "enumerate", .ref t], []⟩) (fun _ R s => s.heap.IsTuple t items ∧ R (.ok (.ret (.ref (s.heap.push { cls := .type "tuple_iterator", data := .fields #[.ref t, .int 0 0] }).objs.size)))
        { s with heap := (s.heap.push { cls := .type "tuple_iterator", data := .fields #[.ref t, .int 0 0] }).push { cls := .type "enumerate", data := .fields #[.none, .bool false, .ref s.heap.objs.size, rawInt 0, .none, .none] } }) :=
  .of_wp fun prog w A R s h => by
    obtain ⟨hp, g, d, tk, os⟩ := s
    obtain ⟨hL, h⟩ := h
    obtain ⟨⟨c0, dct, dt, sl⟩, hl, hc, n, hd⟩ := id hL
    have hsub := sub_enumerate
    wp_walk using AutoSeq1.wpAny_loadPart' hl
    refine wpAny_stack_any fun st => wpAny_pure ?_
    split
    · rename_i c _ _ _ _ _
      cases (c == Value.type "enumerate")
      · wp_walk using AutoSeq1.wpAny_loadPart' hl, wpAny_pyIter_tuple hL
        exact ⟨_, rfl, h⟩
      · wp_walk using AutoSeq1.wpAny_loadPart' hl, wpAny_pyIter_tuple hL
        exact ⟨_, rfl, h⟩
    · wp_walk using AutoSeq1.wpAny_loadPart' hl, wpAny_pyIter_tuple hL
      exact ⟨_, rfl, h⟩
theorem call_enumT {prog : Program} {w : World} {A : Around} {E : Value → Shared → Prop} {s : Shared} {t : Addr} {items : Array Value} {Q : Value → Shared → Prop} (hL : s.heap.IsTuple t items)
    (h : ∀ h', IsEnum h' (s.heap.objs.size + 1) s.heap.objs.size 0 .none → h'.IsTupleIter s.heap.objs.size t 0 → (∀ b o, s.heap.get? b = some o → h'.get? b = some o) → Q (.ref (s.heap.objs.size + 1)) { s with heap := h' }) :
    wpAny (model prog w) A (call (.type "enumerate") [.ref t]) Q E s := by
  refine callType_new F.called_enumerate (by decide) (F.typeCall_enumerate_1 _) (F.newCall_enumerate_1 _) (fun obj => F.args_object_init_2 obj _) F.entry_enumerate_new (newT t items) ⟨hL, ?_⟩
  have hz : (s.heap.push { cls := .type "tuple_iterator", data := .fields #[.ref t, .int 0 0] }).objs.size = s.heap.objs.size + 1 := Heap.size_push ..
  show _ ∧ _
  rw [hz]
  have he : IsEnum ((s.heap.push { cls := .type "tuple_iterator", data := .fields #[.ref t, .int 0 0] }).push { cls := .type "enumerate", data := .fields #[.none, .bool false, .ref s.heap.objs.size, rawInt 0, .none, .none] }) (s.heap.objs.size + 1) s.heap.objs.size 0 .none := by
    have q := Heap.get?_push_size (s.heap.push { cls := .type "tuple_iterator", data := .fields #[.ref t, .int 0 0] }) (o := { cls := .type "enumerate", data := .fields #[.none, .bool false, .ref s.heap.objs.size, rawInt 0, .none, .none] }) rfl
    rw [hz] at q
    exact q
  exact ⟨⟨_, he, rfl⟩, h _ he ⟨_, Heap.get?_push_of_some _ (Heap.get?_push_size _ rfl), rfl, rfl⟩ fun b o x => Heap.get?_push_of_some _ (Heap.get?_push_of_some _ x)⟩

section
variable {K : Fg} {dk : Dk} {F F' F0 : Fz} {H H' H0 : Hp} {σ : L2.St} {env : Sg} {st : S}
theorem turn_enumS {P : Program} {w : World} {elts : List Expr} {kk : Nat} {tpos : Pos} (e it : Addr) (x : Str) (t : Tok) :
    Turn P w K (.Tuple elts kk tpos) (ItE (fun _ => True) ((signs x).map V.str)) [e, it] e (fun i h => (∃ old, IsEnum h e it ((i : Nat) : Int) old) ∧ h.IsStrIter it (strIterType x) x t i ∧ e ≠ it ∧ i ≤ ((signs x).map V.str).length) := by
  refine turnE _ _ e it (fun i h => h.IsStrIter it (strIterType x) x t i) (fun i h h' st k => ?_) (fun i h st => ?_) fun X hP hw hK hc i pins s σ H I _ _ hs => ?_
  · obtain ⟨o, ho, r⟩ := st
    exact ⟨o, k o ho, r⟩
  · obtain ⟨o, ho, c, d⟩ := st
    exact ⟨o, ho, fun v z => by rw [d] at z; cases z⟩
  · have hd : X.A.in1.handled = none := I.ok.hd hc
    have hl : ((signs x).map V.str).length = x.cps.size := by unfold signs; simp
    subst hP hw
    refine ⟨[it], _, _, hl ▸ Draws.text (prog := X.prog) (w := X.w) hd it x t, hs, fun _ _ z => z, fun b hb => .inl (List.mem_singleton.mp hb), fun j u hu => ?_⟩
    obtain ⟨c, u', h1, rfl⟩ := hu
    refine ⟨.str ⟨#[c]⟩, ?_, ⟨_, rfl⟩⟩
    unfold signs
    rw [List.map_map, List.getElem?_map]
    have : x.cps.toList[j]? = some c := by simpa using h1
    rw [this]
    rfl
theorem turn_enumT {P : Program} {w : World} {elts : List Expr} {kk : Nat} {tpos : Pos} (a e it : Addr) (xs : List V) :
    Turn P w K (.Tuple elts kk tpos) (ItE (fun H => SqT K H a xs) xs) [e, it] e (fun i h => (∃ old, IsEnum h e it ((i : Nat) : Int) old) ∧ h.IsTupleIter it a i ∧ e ≠ it ∧ i ≤ xs.length) := by
  refine turnE _ _ e it (fun i h => h.IsTupleIter it a i) (fun i h h' st k => ?_) (fun i h st => ?_) fun X hP hw hK hc i pins s σ H I hq hn hs => ?_
  · obtain ⟨o, ho, r⟩ := st
    exact ⟨o, k o ho, r⟩
  · obtain ⟨o, ho, c, d⟩ := st
    exact ⟨o, ho, fun v z => by rw [d] at z; cases z⟩
  · have hd : X.A.in1.handled = none := I.ok.hd hc
    subst hP hw hK
    obtain ⟨its, rv, pt, hz⟩ := I.tuple hq
    have hl : xs.length = its.toArray.size := by rw [List.size_toArray]; exact rv.length
    have hb : (∃ o, H a = some o) ∨ ∃ o, X.base.get? a = some o := by
      rcases hq with (h | ⟨o, h⟩) | ⟨o, _, _, h, _⟩
      · exact .inl ⟨_, h⟩
      · exact .inl ⟨_, h⟩
      · exact .inr ⟨_, I.mod.kin a o h⟩
    have hai : a ≠ it := fun z => by
      obtain ⟨o, ho, c, d⟩ := hs
      obtain ⟨o2, ho2, c2, _⟩ := id pt
      rw [z, ho] at ho2
      cases ho2
      rw [c] at c2
      exact absurd c2 (by decide)
    refine ⟨[it, a], _, _, hl ▸ Draws.tuple (prog := X.prog) (w := X.w) hd it a hai its.toArray, ⟨hs, pt⟩, fun _ _ z => z.1, fun b hbm => ?_, fun j u hu => ?_⟩
    · rcases List.mem_cons.mp hbm with z | z
      · exact .inl z
      · rw [List.mem_singleton.mp z]; exact .inr hb
    · have hu' : its[j]? = some u := by simpa using hu
      have hjl : j < xs.length := by
        rw [rv.length]
        by_cases hl : j < its.length
        · exact hl
        · rw [List.getElem?_eq_none (by omega)] at hu'; cases hu'
      obtain ⟨u2, h1, h2⟩ := rv.get (List.getElem?_eq_getElem hjl)
      rw [hu'] at h1
      cases h1
      exact ⟨_, List.getElem?_eq_getElem hjl, h2⟩
def iEnumA (K : Fg) (ta : TA) : TI := fun σ H R => ta σ H fun vs H1 => (∃ a xs, vs = [.ref a] ∧ SqL K H1 a xs ∧ R (Ite K a) H1) ∨ (∃ a xs, vs = [.ref a] ∧ SqT K H1 a xs ∧ R (ItE (fun H => SqT K H a xs) xs) H1) ∨
  ∃ y, vs = [.str y] ∧ R (ItE (fun _ => True) ((signs y).map V.str)) H1
theorem pi_enumA {X : Cx} {e : Expr} {ta : TA} {p pos tpos : Pos} {elts : List Expr} {kk : Nat} (hg : Gl X "enumerate") (hm : X.mg "enumerate" = none) (ha : PA X [e] ta) (hs : starEach [e] X.env = [(false, eval e X.env)] := by rfl) :
    PI X (.Tuple elts kk tpos) (.Call (.Name "enumerate" p) [e] [] pos) (iEnumA X.K ta) := by
  constructor
  intro pins s σ H R I h
  refine PyProof.Rows.Call_ (ld_blt I hg hm PyProof.Rows.boot_enumerate (PyProof.Rows.callWith_type1 (thn (ha.run pos pins s σ H _ I h) fun us s1 q0 => ?_) hs rfl))
  obtain ⟨vs, H1, I1, r1, q1⟩ := q0
  have fpo : ∀ b ∈ [s1.heap.objs.size + 1, s1.heap.objs.size], FpOk X pins H1 b := fun b hb => by
    have hle : s1.heap.objs.size ≤ b := by
      rcases List.mem_cons.mp hb with z | z
      · rw [z]; exact Nat.le_add_right _ _
      · rw [List.mem_singleton.mp z]; exact Nat.le_refl _
    exact I1.fpOk hle (I1.hok.fresh hle)
  rcases q1 with ⟨a, xs, rfl, hq, q⟩ | ⟨a, xs, rfl, hq, q⟩ | ⟨y, rfl, q⟩
  · obtain ⟨u, rfl, ru⟩ := vals1 r1
    cases ru
    obtain ⟨its, rv, pl, hz⟩ := I1.list hq
    refine call_enumerate_list pl.isList fun h' he hit hsz hk => wpAny_pyIter_enum he ?_
    exact ⟨_, _, _, _, H1, rfl, I1.kept (t' := s1.toks) hk, turn_enum a (s1.heap.objs.size + 1) s1.heap.objs.size, ⟨⟨.none, he⟩, hit, Nat.succ_ne_self _⟩, fpo, q⟩
  · obtain ⟨u, rfl, ru⟩ := vals1 r1
    cases ru
    obtain ⟨its, rv, pl, hz⟩ := I1.tuple hq
    refine call_enumT (show s1.heap.IsTuple a its.toArray from pl) fun h' he hit hk => wpAny_pyIter_enum he ?_
    exact ⟨_, _, _, _, H1, rfl, I1.kept (t' := s1.toks) hk, turn_enumT a (s1.heap.objs.size + 1) s1.heap.objs.size xs, ⟨⟨.none, he⟩, hit, Nat.succ_ne_self _, Nat.zero_le _⟩, fpo, q⟩
  · obtain ⟨u, rfl, ru⟩ := vals1 r1
    obtain ⟨t, rfl⟩ := ru
    refine call_enumerate_str fun h' he hit hsz hk => wpAny_pyIter_enum he ?_
    exact ⟨_, _, _, _, H1, rfl, I1.kept (t' := s1.toks) hk, turn_enumS (s1.heap.objs.size + 1) s1.heap.objs.size y t, ⟨⟨.none, he⟩, hit, Nat.succ_ne_self _, Nat.zero_le _⟩, fpo, q⟩
def enumI (f : ME) : MI := fun env st => (f env st).bind fun p => (seqOf p.1).map fun ds => (enumD ds, p.2)
theorem Rps.mapStr : ∀ (xs : List Str), Rps K dk F (xs.map V.str) (xs.map D.str) := Rps.ofStrs
theorem ii_enum {te : TE} {f : ME} (h : Im K te f) : ImI K (iEnumA K (tCons te tNil)) (enumI f) := fun dk H0 F0 F σ H env st ds st' g e R q => by
  obtain ⟨⟨d, s1⟩, h1, e⟩ := bnd e
  obtain ⟨es, h2, e⟩ := mpd e
  cases e
  refine h dk H0 F0 F σ H env st d s1 g h1 _ fun v F1 H1 x1 g1 r1 => ?_
  replace h2 : seqOf d = some es := h2
  cases d with
  | lst xs =>
    cases h2
    cases r1 with
    | lst a1 a2 => exact .inl ⟨_, _, rfl, SqL.of (g1.wd.sub.lst a1), q _ F1 H1 x1 g1 (stdy_enumL a1 a2)⟩
  | tup xs =>
    cases h2
    cases r1 with
    | tup a1 a2 => exact .inr (.inl ⟨_, _, rfl, g1.wd.sub.sqT a1, q _ F1 H1 x1 g1 (stdy_enumE (fun H2 le => le.sqT a1) a2)⟩)
  | str x =>
    cases h2
    cases r1
    exact .inr (.inr ⟨_, rfl, q _ F1 H1 x1 g1 (stdy_enumE (fun _ _ => trivial) (Rps.ofStrs _))⟩)
  | _ => cases h2
end
end MD

set_option Elab.async false
set_option linter.all false
set_option maxRecDepth 100000
set_option maxHeartbeats 2000000
namespace MD
open PySem PySem.Spec PyProof.Rows L2

/-- a def keeps its promise wherever no repr is running -/
structure FnG (P : Program) (w : World) (K : Fg) (mg : Str → Option Value) (base : Heap) (k : Nat) (f : Addr) (fd : FuncData) (ps : List Str) (sp : Sp) : Prop where
  len : ∀ vs H Q E, sp vs H Q E → vs.length = ps.length
  run : ∀ (A : Around) (outer : List Env) (s : Shared) (H : Hp) (args : Args) (us : List Value) (vs : List V) (Q : VK) (E : XK), Room k A → A.guards = some [] → Env0 P w K mg base A outer s H → BindsTo s fd args (ps.zip us) → Vals vs us →
    sp vs H Q E → codeAny (model P w) A (.call (.ref f) args) (CR CX0 outer P w H s Q E) s

section
variable {X : Cx} {k : Nat} {f : Addr} {fd : FuncData} {ps : List Str} {sp : Sp} {x : Str} {p pos : Pos} {e : Expr} {es : List Expr} {t : TA}
theorem runG {pins : List (Addr × Obj)} {σ : L2.St} {H : Hp} {s : Shared} {Q : VK} {us : List Value} {vs : List V} (F : FnG X.prog X.w X.K X.mg X.base k f fd ps sp) (hr : Room k X.A) (gd : X.A.guards = some []) (hb : Binds X.K fd ps [])
    (I : L2.Inv X pins σ H s) (r : Vals vs us) (h : sp vs H Q E0) : wpAny (model X.prog X.w) X.A (call (.ref f) us) (EP X pins σ Q) X.xe s := by
  have hl : us.length = ps.length := r.length.symm.trans (F.len _ _ _ _ h)
  have bb := hb s us I.kIn (by rw [List.append_nil]; exact hl)
  rw [List.append_nil] at bb
  refine wpAny_call (codeAny_mono (F.run X.A X.stack s H ⟨us, []⟩ us vs Q E0 hr gd I.env0 bb r h) fun rr s' hq => ?_)
  cases rr with
  | error er => exact False.elim hq
  | ok fl =>
    cases fl with
    | ret u => exact I.after hq
    | next => exact False.elim hq
    | brk => exact False.elim hq
    | cont => exact False.elim hq
theorem pe_callG (F : FnG X.prog X.w X.K X.mg X.base k f fd ps sp) (hr : Room k X.A) (gd : X.A.guards = some []) (hg : Gl X x) (hm : X.mg x = some (.ref f)) (hk : PySem.W.keepIn X.K (.ref f) = true) (hb : Binds X.K fd ps [])
    (ha : PA X (e :: es) t) (hdb : (x == ("__debug__" : Str)) = false := by decide) (he : starEach (e :: es) X.env = (false, eval e X.env) :: starEach es X.env := by rfl) (hpl : (backTo pos (starEach es X.env)).any (·.1) = false := by rfl) :
    PE X (.Call (.Name x p) (e :: es) [] pos) (tCall sp [] E0 t) := by
  constructor
  intro pins s σ H Q I h
  refine wpAny_Call_Name_kw (ld_glob I hg hm ?_ hdb)
  refine PySem.W.callWith_K (h₀ := X.base) I.ok.mod.kin hk (thn (ha.run pos pins s σ H _ I h) fun us s1 q0 => ?_) he hpl
  obtain ⟨vs, H1, I1, r, q⟩ := q0
  rw [List.append_nil] at q
  exact ⟨I1.kIn, runG F hr gd hb I1 r q⟩
end

theorem guards_deeper {A : Around} (env : Env) (h : A.guards = some []) : (A.deeper env).guards = some [] := by
  first | exact h | (simp [Around.deeper, h]) 

/-- a def of the text by its body -/
theorem fnG_of {P : Program} {w : World} {K : Fg} {mg : Str → Option Value} {base : Heap} {x qual : Str} {st : Stmt} {f : Addr} {fd : FuncData} {N ps : List Str} {k : Nat} {sp : Sp} (Fn : Fun K x qual st f fd) (S : FnScope N ps (defScope st))
    (len : ∀ vs H Q E, sp vs H Q E → vs.length = ps.length)
    (hbody : ∀ (cdv : Value) (A : Around) (outer : List Env) (s : Shared) (H : Hp) (vs : List V) (Q : VK) (E : XK), Room k (A.deeper (envOfC qual (defScope st) s.heap.objs.size f cdv)) → (A.deeper (envOfC qual (defScope st) s.heap.objs.size f cdv)).guards = some [] → sp vs H Q E →
      ∃ t, PSs (cxOf CX0 P w K mg base N qual (defScope st) f cdv A outer s H E).nox (defBody st) t ∧ t { nx := fun _ H' => Q .non H', rt := Q } (L2.start N vs) H) : FnG P w K mg base (k + 1) f fd ps sp := by
  refine ⟨len, fun A outer s H args us vs Q E hr gd e0 hb r hsp => ?_⟩
  -- the promise, asked only where no repr is running
  let sp' : Sp := fun vs' H' Q' E' => sp vs' H' Q' E'
  obtain ⟨oc, od, kV, doc, pm, an, cdv, ct, osl, rfl, lk, hcd⟩ := Fn.ex
  have hl := len _ _ _ _ hsp
  have KX : K.In s.heap := e0.mod.kin.keeps fun b o e => (e0.bs b o e).1
  have lim : s.heap.NoLimit := e0.mod.nolimit.keeps fun b o e => (e0.bs b o e).1
  have hkind : ∀ y ∈ ps.zip us, (defScope st).names.lookup y.1 = some .local ∨ ((defScope st).names.lookup y.1 = some .cell ∧ ((cellsFrom (s.heap.objs.size + 1) (defScope st).names []).lookup y.1).isSome = true) := by
    rintro ⟨n, v⟩ hy
    rcases S.par n (List.of_mem_zip hy).1 with q | q
    · exact .inl q
    · exact .inr ⟨q, PySem.W.cellsFrom_some _ _ _ (.inl q)⟩
  refine codeAny_call_function hr.depth (KX _ _ lk) rfl S.co S.gen rfl (PySem.W.codeRec_of KX hcd) (hb _ _ _ _ ?_)
  refine wpAny_newFunctionEnv_cells S.kind hkind fun env he s1 y => ?_
  subst he
  refine ⟨lim.keeps y.toInCall.keep, codeAny_func ?_⟩
  obtain ⟨t, ht, hq⟩ := hbody cdv A outer s H vs Q E (hr.deeper _) (guards_deeper _ gd) hsp
  have I := inv_start (CX := CX0) (E := E) (qual := qual) (f := f) (cd := cdv) S hr.hd e0 hl r y
  refine wpAny_mono ((ht.nox).run [] s1 (L2.start N vs) H _ I hq) (fun fl s' hs => ?_) fun er s' hs => hs
  cases fl with
  | ret u =>
    obtain ⟨v, σ', H', J, rv, q⟩ := hs
    exact ⟨v, H', J.os, J.bare, J.base, J.hok, rv, q⟩
  | next =>
    obtain ⟨σ', H', J, q⟩ := hs
    exact ⟨V.non, H', J.os, J.bare, J.base, J.hok, rfl, q⟩
  | brk =>
    obtain ⟨_, _, _, q⟩ := hs
    exact False.elim q
  | cont =>
    obtain ⟨_, _, _, q⟩ := hs
    exact False.elim q

/-! ### promises by mirrors -/
abbrev MF := List D → S → Option (D × S)
/-- called with these data it gives what the mirror gives; n parameters -/
def spD (K : Fg) (n : Nat) (m : MF) : Sp := fun vs H Q _ => vs.length = n ∧ ∃ (dk : Dk) (F : Fz) (ds : List D) (st : S) (d : D) (st' : S), Wd K dk F H st ∧ Rps K dk F vs ds ∧ m ds st = some (d, st') ∧
  ∀ v F' H', Ext dk F H F' H' → Wd K dk F' H' st' → Rp K dk F' v d → Q v H'
def callM (m : MF) (a : MA) : ME := fun env st => (a env st).bind fun p => m p.1 p.2
section
variable {K : Fg}
theorem im_call {n : Nat} {m : MF} {ta : TA} {a : MA} {E : XK} (ha : ImA K ta a) (hn : ∀ env st p, a env st = some p → p.1.length = n) : Im K (tCall (spD K n m) [] E ta) (callM m a) := fun dk H0 F0 F σ H env st d st' g e Q q => by
  obtain ⟨⟨ds, s1⟩, h1, e⟩ := bnd e
  refine ha dk H0 F0 F σ H env st ds s1 g h1 _ fun vs F1 H1 x1 g1 r1 => ?_
  rw [List.append_nil]
  exact ⟨r1.length.trans (hn _ _ _ h1), dk, F1, ds, s1, d, st', g1.wd, r1, e, fun v F' H' x w r => q v F' H' (x1.trans x) (g1.step x w) r⟩
theorem an_nil : ∀ env st p, aNil env st = some p → p.1.length = 0 := fun env st p h => by cases h; rfl
theorem an_cons {f : ME} {r : MA} {n : Nat} (h : ∀ env st p, r env st = some p → p.1.length = n) : ∀ env st p, aCons f r env st = some p → p.1.length = n + 1 := fun env st p e => by
  obtain ⟨x, h1, e⟩ := bnd e
  obtain ⟨y, h2, e⟩ := mpd e
  cases e
  simp [h _ _ _ h2]
/-- a def's mirror, by its body's -/
def runM (N : Nat) (b : MS) : MF := fun ds st => (b (ds.map Sl.val ++ List.replicate (N - ds.length) Sl.un) st).bind fun p => match p.1 with
  | .rt d => some (d, p.2)
  | .nx _ => some (.non, p.2)
  | _ => none
theorem Rps.slots {dk : Dk} {F : Fz} : ∀ {vs : List V} {ds : List D} {i : Nat} {s : Sl}, Rps K dk F vs ds → (ds.map Sl.val)[i]? = some s → ∃ v d, vs[i]? = some v ∧ s = .val d ∧ Rp K dk F v d := fun {vs ds i s} r e => by
  rw [List.getElem?_map] at e
  obtain ⟨d, h1, h2⟩ := mpd e
  obtain ⟨v, h3, h4⟩ := r.get h1
  exact ⟨v, d, h3, h2.symm, h4⟩
theorem good_start {dk : Dk} {F : Fz} {H : Hp} {N : List Str} {vs : List V} {ds : List D} {st : S} (w : Wd K dk F H st) (r : Rps K dk F vs ds) (hl : vs.length ≤ N.length) : Good K dk H F F (L2.start N vs) H (ds.map Sl.val ++ List.replicate (N.length - ds.length) Sl.un) st := by
  have hlen := r.length
  refine ⟨w, Ext.refl F H, ?_, fun i s e => ?_, fun i j es fs p hne e1 e2 e3 => ?_⟩
  · unfold L2.start
    simp
    omega
  · by_cases hi : i < ds.length
    · rw [List.getElem?_append_left (by simpa using hi)] at e
      obtain ⟨v, d, h1, rfl, h2⟩ := r.slots e
      refine ⟨v, ?_, h2⟩
      unfold L2.start
      rw [List.getElem?_append_left (by rw [List.length_map, hlen]; exact hi), List.getElem?_map, h1]
      rfl
    · rw [List.getElem?_append_right (by simpa using hi), List.getElem?_replicate] at e
      split at e
      · cases e; trivial
      · cases e
  · exfalso
    by_cases hi : i < ds.length
    · rw [List.getElem?_append_left (by simpa using hi)] at e1
      obtain ⟨v, d, _, h, _⟩ := r.slots e1
      cases h
    · rw [List.getElem?_append_right (by simpa using hi), List.getElem?_replicate] at e1
      split at e1 <;> cases e1
/-- THE RULE: a def by its body's term t and the mirror b of t -/
theorem fnD {P : Program} {w : World} {mg : Str → Option Value} {base : Heap} {x qual : Str} {st : Stmt} {f : Addr} {fd : FuncData} {N ps : List Str} {k : Nat} {b : MS} (Fn : Fun K x qual st f fd) (S : FnScope N ps (defScope st)) (hN : ps.length ≤ N.length)
    (hbody : ∀ (cdv : Value) (A : Around) (outer : List Env) (s : Shared) (H : Hp) (E : XK), Room k (A.deeper (envOfC qual (defScope st) s.heap.objs.size f cdv)) → (A.deeper (envOfC qual (defScope st) s.heap.objs.size f cdv)).guards = some [] →
      ∃ t, PSs (cxOf CX0 P w K mg base N qual (defScope st) f cdv A outer s H E).nox (defBody st) t ∧ ImS K t b) : FnG P w K mg base (k + 1) f fd ps (spD K ps.length (runM N.length b)) := by
  refine fnG_of Fn S (fun vs H Q E h => h.1) fun cdv A outer s H vs Q E hr gd h => ?_
  obtain ⟨hlv, dk, F, ds, s0, d, s1, wd, r, e, q⟩ := h
  obtain ⟨t, h1, h2⟩ := hbody cdv A outer s H E hr gd
  refine ⟨t, h1, ?_⟩
  obtain ⟨⟨fl, s2⟩, e1, e⟩ := bnd e
  refine h2 dk H F F (L2.start N vs) H _ s0 fl s2 (good_start wd r (by rw [hlv]; exact hN)) e1 _ ?_
  cases fl with
  | rt d' => cases e; exact fun v F' H' x w r => q v F' H' x w r
  | nx en => cases e; exact fun F' σ' H' le g => q .non F' H' g.ext g.wd .non
  | bk en => cases e
  | ct en => cases e
end
end MD

set_option Elab.async false
set_option linter.all false
set_option maxRecDepth 100000
set_option maxHeartbeats 2000000
namespace MD
open PySem PySem.Spec PyProof.Rows L2

/-! ### the deck -/
structure DC where
  m1 : Int
  c1 : Int
  c2 : Int
  m2 : Int
def atOf (st : S) : Nat := ((st.n + 1) % (st.cells.length : Int)).toNat
def cellOf (st : S) : Int := if st.cells = [] then 0 else st.cells.getD (atOf st) 0
def drawV (c : DC) (many : Int) (st : S) : Int :=
  if cellOf st ≥ 10 ^ 18 then cellOf st % many else ((cellOf st % c.m1 + c.c1 * (st.n + 1) + c.c2) ^ 5 % c.m2) % many
def drawT (many : Int) (st : S) : S :=
  if cellOf st ≥ 10 ^ 18 then ⟨st.cells.set (atOf st) (cellOf st / many), st.n + 1, st.ob⟩ else ⟨st.cells, st.n + 1, st.ob⟩
def nMax : Int := 1000000000000
def drawM (c : DC) : MF
  | [.deck, .int many], st => if 0 < many ∧ many < 1073741824 ∧ 0 ≤ st.n ∧ st.n < nMax then some (.int (drawV c many st), drawT many st) else none
  | _, _ => none
def DC.ok (c : DC) : Prop := 0 < c.m1 ∧ c.m1 < 2 ^ 32 ∧ 0 < c.m2 ∧ c.m2 < 2 ^ 32 ∧ 0 ≤ c.c1 ∧ c.c1 < 2 ^ 16 ∧ 0 ≤ c.c2 ∧ c.c2 < 2 ^ 16

/-! readings used by the draw -/
section
variable {K : Fg}
def rInt1 : List V → Hp → VK → Prop := fun xs H Q => (∃ i, xs = [.int i] ∧ Q (.int i) H) ∨ ∃ k, xs = [.bl k] ∧ Q (.int (if k then 1 else 0)) H
def rLen1 (K : Fg) : List V → Hp → VK → Prop := fun xs H Q => ∃ x n, xs = [x] ∧ LenV K x H n ∧ Q (.int n) H
abbrev tInt (t : TE) : TE := tCB rInt1 (tCons t tNil)
abbrev tLen (K : Fg) (t : TE) : TE := tCB (rLen1 K) (tCons t tNil)
abbrev tIx (K : Fg) (a b : TE) : TE := tOp (rIx K) a b
abbrev tI (i : Int) : TE := tC (.int i)
abbrev tDk1 (K : Fg) : TE := tIx K (tVar 0) (tI 1)
abbrev tDk0 (K : Fg) : TE := tIx K (tVar 0) (tI 0)
def tDraw1 (K : Fg) : TS := tAsg (tOp (rI0 fun i j => .int (i + j)) (tDk1 K) (tI 1)) (gSub (tVar 0) (tI 1) rSetL)
def tDraw2 (K : Fg) : TS := tAsg (tTup (tCons (tI 0) (tCons (tUn (rU fun i => .int (-i)) (tI 1)) tNil))) (gTup K 2 (gCons (gName 2) (gCons (gName 3) gNil)))
def tDraw3 (K : Fg) : TS := tIfS (tTest (tOp (rI0 fun i j => .bl (decide (j < i))) (tLen K (tDk0 K)) (tI 0)))
  (tSeq (tAsg (tOp (rI (fun _ j => 0 < j) fun i j => .int (i % j)) (tInt (tDk1 K)) (tLen K (tDk0 K))) (gName 3)) (tAsg (tIx K (tDk0 K) (tVar 3)) (gName 2))) tNext
def tDraw4 (K : Fg) : TS := tIfS (tTest (tOp (rI0 fun i j => .bl (decide (j ≤ i))) (tVar 2) (tOp (rI CPow fun i j => .int (i ^ j.toNat)) (tI 10) (tI 18))))
  (tSeq (tAsg (tOp (rI CDiv fun i j => .int (i / j)) (tInt (tVar 2)) (tVar 1)) (gSub (tDk0 K) (tVar 3) rSetL)) (tRet (tOp (rI (fun _ j => 0 < j) fun i j => .int (i % j)) (tInt (tVar 2)) (tVar 1)))) tNext
def tDraw5 (K : Fg) (c : DC) : TS := tAsg (tOp (rI0 fun i j => .int (i + j)) (tOp (rI0 fun i j => .int (i + j)) (tOp (rI (fun _ j => 0 < j) fun i j => .int (i % j)) (tInt (tVar 2)) (tI c.m1))
  (tOp (rI CMul fun i j => .int (i * j)) (tI c.c1) (tDk1 K))) (tI c.c2)) (gName 4)
def tDraw6 (K : Fg) (c : DC) : TS := tRet (tOp (rI (fun _ j => 0 < j) fun i j => .int (i % j)) (tInt (tOp (rI (fun _ j => 0 < j) fun i j => .int (i % j)) (tInt (tOp (rI CPow fun i j => .int (i ^ j.toNat)) (tVar 4) (tI 5))) (tI c.m2))) (tVar 1))
def tDraw (K : Fg) (c : DC) : TS := tSeq (tDraw1 K) (tSeq (tDraw2 K) (tSeq (tDraw3 K) (tSeq (tDraw4 K) (tSeq (tDraw5 K c) (tDraw6 K c)))))

theorem at0 {α : Type} {x y : α} : L2.atI [x, y] 0 = some x := rfl
theorem at1 {α : Type} {x y : α} : L2.atI [x, y] 1 = some y := rfl
/-- deck[1], deck[0] -/
theorem rd1 {H : Hp} {a c : Addr} {n : Int} {σ : L2.St} {Q : VK} (hs : σ[0]? = some (some (.ref a))) (h : H a = some (.lst [.ref c, .int n])) (q : Q (.int n) H) : tDk1 K σ H Q :=
  ⟨_, hs, .inl ⟨a, _, 1, _, rfl, rfl, SqL.of h, at1, q⟩⟩
theorem rd0 {H : Hp} {a c : Addr} {n : Int} {σ : L2.St} {Q : VK} (hs : σ[0]? = some (some (.ref a))) (h : H a = some (.lst [.ref c, .int n])) (q : Q (.ref c) H) : tDk0 K σ H Q :=
  ⟨_, hs, .inl ⟨a, _, 0, _, rfl, rfl, SqL.of h, at0, q⟩⟩

theorem draw_ok {dk : Dk} {F : Fz} {H : Hp} {st : S} {c : DC} {many : Int} (hc : c.ok) (w : Wd K dk F H st) (h1 : 0 < many) (h2 : many < 1073741824) (h3 : 0 ≤ st.n) (h4 : st.n < nMax) {E : Ends}
    (q : ∀ F' H', Ext dk F H F' H' → Wd K dk F' H' (drawT many st) → E.rt (.int (drawV c many st)) H') : tDraw K c E [some (.ref dk.1), some (.int many), none, none, none] H := by
  obtain ⟨k1, k2, k3, k4, k5, k6, k7, k8⟩ := hc
  -- deck[1] = deck[1] + 1
  refine rd1 rfl w.d1 ⟨st.n, 1, rfl, rfl, _, rfl, dk.1, _, 1, 1, rfl, rfl, w.d1, rfl, ?_⟩
  have hH1 : upd H dk.1 (.lst ([V.ref dk.2, V.int st.n].set 1 (V.int (st.n + 1)))) = upd H dk.1 (.lst [.ref dk.2, .int (st.n + 1)]) := rfl
  rw [hH1]
  have a1 : ∀ (H' : Hp), H' = upd H dk.1 (.lst [.ref dk.2, .int (st.n + 1)]) → H' dk.1 = some (.lst [.ref dk.2, .int (st.n + 1)]) ∧ H' dk.2 = some (.lst (st.cells.map V.int)) := by
    rintro H' rfl
    exact ⟨upd_same, by rw [upd_ne w.ne.symm]; exact w.d2⟩
  generalize hHH : upd H dk.1 (.lst [.ref dk.2, .int (st.n + 1)]) = H1
  obtain ⟨b1, b2⟩ := a1 H1 hHH.symm
  -- cell, at = 0, -1
  refine ⟨1, rfl, by show 2 ≤ sizeLine; decide, fun p hp => ⟨p, _, rfl, SqT.of upd_same, rfl, _, _, rfl, _, _, rfl, rfl, ?_⟩⟩
  have p1 : p ≠ dk.1 := (ne_of_none b1 hp).symm
  have p2 : p ≠ dk.2 := (ne_of_none b2 hp).symm
  generalize hHp : upd H1 p (.tup [.int 0, .int (-1)]) = H2
  have c1 : H2 dk.1 = some (.lst [.ref dk.2, .int (st.n + 1)]) := by rw [← hHp, upd_ne p1.symm]; exact b1
  have c2 : H2 dk.2 = some (.lst (st.cells.map V.int)) := by rw [← hHp, upd_ne p2.symm]; exact b2
  have hp0 : H p = none := by
    rw [← hHH, upd_ne p1] at hp; exact hp
  have keep : ∀ a o, H a = some o → a ≠ dk.1 → a ≠ dk.2 → H2 a = some o := fun a o e n1 n2 => by
    rw [← hHp, upd_ne (ne_of_none e hp0), ← hHH, upd_ne n1]; exact e
  have keepF : Sb F H2 := fun a o e => by
    have m1 : a ≠ dk.1 := fun z => by rw [z, w.f1.1] at e; cases e
    have m2 : a ≠ dk.2 := fun z => by rw [z, w.f2.1] at e; cases e
    rcases w.sub a o e with q | ⟨od, kvs, q1, q2⟩
    · exact .inl (keep a o q m1 m2)
    · exact .inr ⟨od, kvs, q1, keep a _ q2 m1 m2⟩
  have keepO : ∀ (H3 : Hp), (∀ a o, H2 a = some o → a ≠ dk.2 → H3 a = some o) → ∀ (n : Nat) (a : Addr) (o : Ob), F.mu[n]? = some a → st.ob[n]? = some o → F a = none ∧ ObAt K dk F H3 a o := fun H3 hk n a o e1 e2 => by
    obtain ⟨q1, q2⟩ := w.ob n a o e1 e2
    have m1 : a ≠ dk.1 := fun z => w.f1.2 (z ▸ List.mem_of_getElem? e1)
    have m2 : a ≠ dk.2 := fun z => w.f2.2 (z ▸ List.mem_of_getElem? e1)
    exact ⟨q1, q2.keep (fun o e => hk a o (keep a o e m1 m2) m2) (Le.refl F)⟩
  have keepK : ∀ a o, H2 a = some o → Fro o → H a = some o := fun a o e f => by
    rw [← hHp, ← hHH] at e
    exact updK (by rintro ⟨_, _, z⟩; cases z) a o (updK (by rintro ⟨_, _, z⟩; cases z) a o e f) f
  have keepM : ∀ a, H a ≠ none → H2 a ≠ none := fun a e z => by
    by_cases n1 : a = dk.1
    · rw [n1, c1] at z; cases z
    · by_cases n2 : a = dk.2
      · rw [n2, c2] at z; cases z
      · cases q : H a with
        | none => exact e q
        | some o => rw [keep a o q n1 n2] at z; cases z
  have ext2 : Ext dk F H F H2 := ⟨fun a o e n1 n2 _ => keep a o e n1 n2, Le.refl F, fun _ h _ => h, keepM, fun _ h => .inl h, keepK⟩
  have wd2 : Wd K dk F H2 ⟨st.cells, st.n + 1, st.ob⟩ := ⟨keepF, c1, c2, w.f1, w.f2, w.ne, w.ml, w.nd, keepO H2 fun _ _ e _ => e⟩
  -- the cell
  have mid : ∀ (E' : Ends), (∀ v3, (st.cells ≠ [] → v3 = ((atOf st : Nat) : Int) ∧ atOf st < st.cells.length) → E'.nx [some (.ref dk.1), some (.int many), some (.int (cellOf st)), some (.int v3), none] H2) →
      tDraw3 K E' [some (.ref dk.1), some (.int many), some (.int 0), some (.int (-1)), none] H2 := by
    intro E' hE
    refine rd0 rfl c1 ⟨_, _, rfl, .inl ⟨_, SqL.of c2, rfl⟩, _, 0, rfl, rfl, _, rfl, ?_⟩
    by_cases hl : st.cells = []
    · dsimp only
      rw [if_neg (by simp [hl])]
      have e0 : cellOf st = 0 := by unfold cellOf; rw [if_pos hl]
      have := hE (-1) fun z => absurd hl z
      rw [e0] at this
      exact this
    · have hlen : 0 < st.cells.length := List.length_pos_iff.mpr hl
      dsimp only
      rw [if_pos (by simp; exact hlen)]
      refine rd1 rfl c1 (.inl ⟨_, rfl, rd0 rfl c1 ⟨_, _, rfl, .inl ⟨_, SqL.of c2, rfl⟩, _, _, rfl, rfl, by simp; exact hlen, ?_⟩⟩)
      have hm0 : 0 ≤ (st.n + 1) % (st.cells.length : Int) := Int.emod_nonneg _ (by omega)
      have hm1 : (st.n + 1) % (st.cells.length : Int) < st.cells.length := Int.emod_lt_of_pos _ (by omega)
      have hat : ((atOf st : Nat) : Int) = (st.n + 1) % (st.cells.length : Int) := by unfold atOf; omega
      have hal : atOf st < st.cells.length := by omega
      show tAsg (tIx K (tDk0 K) (tVar 3)) (gName 2) E' [some (.ref dk.1), some (.int many), some (.int 0), some (.int ((st.n + 1) % ((st.cells.map V.int).length : Int))), none] H2
      rw [List.length_map, ← hat]
      have hg : L2.atI (st.cells.map V.int) ((atOf st : Nat) : Int) = some (.int (st.cells.getD (atOf st) 0)) := by
        refine atI_nat ?_
        rw [List.getElem?_map, List.getElem?_eq_getElem hal, List.getD_eq_getElem?_getD, List.getElem?_eq_getElem hal]
        rfl
      refine rd0 rfl c1 ⟨_, rfl, .inl ⟨_, _, _, _, rfl, rfl, SqL.of c2, hg, ?_⟩⟩
      have e0 : cellOf st = st.cells.getD (atOf st) 0 := by unfold cellOf; rw [if_neg hl]
      have := hE ((atOf st : Nat) : Int) fun _ => ⟨rfl, hal⟩
      rw [e0] at this
      exact this
  refine mid _ fun v3 hv3 => ?_
  -- a great cell
  refine ⟨_, rfl, 10, 18, rfl, rfl, ⟨by decide, by decide, by decide⟩, _, _, rfl, rfl, _, rfl, ?_⟩
  by_cases hbig : cellOf st ≥ 10 ^ 18
  · have hne : st.cells ≠ [] := fun z => by
      have e0 : cellOf st = 0 := by unfold cellOf; rw [if_pos z]
      rw [e0] at hbig
      revert hbig; decide
    obtain ⟨e3, hal⟩ := hv3 hne
    dsimp only
    rw [if_pos (by simpa using hbig)]
    refine ⟨_, rfl, .inl ⟨_, rfl, _, rfl, _, _, rfl, rfl, ⟨h1, h2⟩, ?_⟩⟩
    refine rd0 rfl c1 ⟨_, rfl, dk.2, _, v3, atOf st, rfl, rfl, c2, ?_, ?_⟩
    · rw [e3]
      unfold ixN
      rw [if_pos (by omega), if_pos (by rw [List.length_map]; omega)]
      simp
    · refine ⟨_, rfl, .inl ⟨_, rfl, _, rfl, _, _, rfl, rfl, h1, ?_⟩⟩
      have ev : drawV c many st = cellOf st % many := by unfold drawV; rw [if_pos hbig]
      have et : drawT many st = ⟨st.cells.set (atOf st) (cellOf st / many), st.n + 1, st.ob⟩ := by unfold drawT; rw [if_pos hbig]
      have es : (st.cells.map V.int).set (atOf st) (.int (cellOf st / many)) = (st.cells.set (atOf st) (cellOf st / many)).map V.int := by rw [List.map_set]
      rw [es]
      have fin := q F (upd H2 dk.2 (.lst ((st.cells.set (atOf st) (cellOf st / many)).map V.int))) ⟨fun a o e n1 n2 _ => by rw [upd_ne n2]; exact keep a o e n1 n2, Le.refl F, fun _ h _ => h, fun a e z => by
        by_cases n2 : a = dk.2
        · rw [n2, upd_same] at z; cases z
        · rw [upd_ne n2] at z; exact keepM a e z, fun _ h => .inl h, fun a o e f => keepK a o (updK (by rintro ⟨_, _, z⟩; cases z) a o e f) f⟩ (by
          rw [et]
          exact ⟨fun a o e => by rw [upd_ne (fun z => by rw [z, w.f2.1] at e; cases e)]; exact keepF a o e, by rw [upd_ne w.ne]; exact c1, upd_same, w.f1, w.f2, w.ne, w.ml, w.nd, keepO _ fun a o e m => by rw [upd_ne m]; exact e⟩)
      rw [ev] at fin
      exact fin
  · dsimp only
    rw [if_neg (by simpa using hbig)]
    have hmix : 0 ≤ cellOf st % c.m1 ∧ cellOf st % c.m1 < c.m1 := ⟨Int.emod_nonneg _ (by omega), Int.emod_lt_of_pos _ k1⟩
    refine ⟨_, rfl, .inl ⟨_, rfl, _, _, rfl, rfl, k1, ?_⟩⟩
    refine rd1 rfl c1 ⟨_, _, rfl, rfl, .inl ⟨by omega, by omega⟩, _, _, rfl, rfl, _, _, rfl, rfl, ?_⟩
    have hb : c.c1 * (st.n + 1) ≤ 65536 * 1000000000001 := by
      unfold nMax at h4
      have x1 : c.c1 * (st.n + 1) ≤ 65536 * (st.n + 1) := Int.mul_le_mul_of_nonneg_right (by omega) (by omega)
      omega
    have hb0 : 0 ≤ c.c1 * (st.n + 1) := Int.mul_nonneg k5 (by omega)
    refine ⟨_, rfl, _, _, rfl, rfl, ⟨by decide, by decide, ?_⟩, .inl ⟨_, rfl, _, _, rfl, rfl, k3, .inl ⟨_, rfl, _, rfl, _, _, rfl, rfl, h1, ?_⟩⟩⟩
    · omega
    · have ev : drawV c many st = ((cellOf st % c.m1 + c.c1 * (st.n + 1) + c.c2) ^ 5 % c.m2) % many := by unfold drawV; rw [if_neg hbig]
      have et : drawT many st = ⟨st.cells, st.n + 1, st.ob⟩ := by unfold drawT; rw [if_neg hbig]
      have fin := q F H2 ext2 (by rw [et]; exact wd2)
      rw [ev] at fin
      exact fin
end
end MD

set_option Elab.async false
set_option linter.all false
set_option maxRecDepth 100000
set_option maxHeartbeats 2000000
namespace MD
open PySem PySem.Spec PyProof.Rows L2

section
variable {K : Fg} {P : Program} {w : World} {mg : Str → Option Value} {base : Heap}
theorem fn_draw {x qual : Str} {st : Stmt} {f : Addr} {fd : FuncData} {N ps : List Str} {k : Nat} {c : DC} (hc : c.ok) (Fn : Fun K x qual st f fd) (S : FnScope N ps (defScope st)) (hN : N.length = 5) (hp : ps.length = 2)
    (hbody : ∀ (cdv : Value) (A : Around) (outer : List Env) (s : Shared) (H : Hp) (E : XK), PSs (cxOf CX0 P w K mg base N qual (defScope st) f cdv A outer s H E).nox (defBody st) (tDraw K c)) : FnG P w K mg base (k + 1) f fd ps (spD K 2 (drawM c)) := by
  refine fnG_of Fn S (fun vs H Q E h => by rw [hp]; exact h.1) fun cdv A outer s H vs Q E hr gd h => ⟨_, hbody cdv A outer s H E, ?_⟩
  obtain ⟨hlv, dk, F, ds, s0, d, s1, wd, r, e, q⟩ := h
  unfold drawM at e
  split at e
  · split at e
    · rename_i hcnd
      cases e
      cases r with
      | cons a b => cases b with
        | cons b c' =>
          cases c'
          cases a
          cases b
          have es : ∀ i : Int, L2.start N [V.ref dk.1, V.int i] = [some (.ref dk.1), some (.int i), none, none, none] := fun i => by
            unfold L2.start
            rw [hN]
            rfl
          rw [es _]
          exact draw_ok hc wd hcnd.1 hcnd.2.1 hcnd.2.2.1 hcnd.2.2.2 fun F' H' x w => q _ F' H' x w (.int _)
    · cases e
  · cases e

/-! ### the deck is made -/
def absI (i : Int) : Int := if i < 0 then -i else i
def spDeck (K : Fg) : Sp := fun vs H Q _ => ∃ (a : Addr) (ns : List Int), vs = [.ref a] ∧ SqL K H a (ns.map V.int) ∧ ns.length ≤ 63 ∧
  ∀ (dk : Dk) (H' : Hp), Lh H H' → Wd K dk ⟨fun _ => none, []⟩ H' ⟨ns.map absI, 0, []⟩ → Q (.ref dk.1) H'
def rAbs1 : List V → Hp → VK → Prop := fun xs H Q => ∃ i, xs = [.int i] ∧ Q (.int (if i < 0 then -i else i)) H
def tDeck (K : Fg) : TS := tRet (tLst (tCons (tLc (iList K (tSl (rSlL K) (tVar 0) tNoPart (tPart (tI 63)))) (gName 1) tYes (tCB rAbs1 (tCons (tVar 1) tNil)) [1]) (tCons (tI 0) tNil)))
theorem deck_ok {H : Hp} {a : Addr} {ns : List Int} {E : Ends} (hs : SqL K H a (ns.map V.int)) (hl : ns.length ≤ 63) (q : ∀ (dk : Dk) (H' : Hp), Lh H H' → Wd K dk ⟨fun _ => none, []⟩ H' ⟨ns.map absI, 0, []⟩ → E.rt (.ref dk.1) H') :
    tDeck K E [some (.ref a), none] H := by
  refine ⟨_, rfl, _, rfl, a, _, rfl, hs, fun p hp => ?_⟩
  have ec : cutV (ns.map V.int) none (some 63) = ns.map V.int := by
    unfold cutV
    have e1 : HT.sIx (ns.map V.int).length 0 none = 0 := rfl
    have e2 : HT.sIx (ns.map V.int).length (ns.map V.int).length (some 63) = ns.length := by
      rw [List.length_map]
      have := HT.sIx_nat ns.length ns.length 63
      rw [show ((63 : Nat) : Int) = 63 from rfl] at this
      rw [this]; omega
    rw [e1, e2, List.drop_zero, Nat.sub_zero]
    exact List.take_of_length_le (by rw [List.length_map]; exact Nat.le_refl _)
  rw [ec]
  refine ⟨p, rfl, ⟨_, SqL.of upd_same⟩, fun c hc => ?_⟩
  have ncp : c ≠ p := fun z => by rw [z, upd_same] at hc; cases hc
  have hcH : H c = none := by rw [upd_ne ncp] at hc; exact hc
  refine lc_list (xs := ns.map V.int) (fun i H' => Lh H H' ∧ H' p = some (.lst (ns.map V.int)) ∧ H' c = some (.lst (((ns.take i).map absI).map V.int))) ⟨(Lh.new hp).trans (Lh.new hc), by rw [upd_ne ncp.symm, upd_same], upd_same⟩ (fun i H' _ h => SqL.of h.2.1) (fun i v H' hv h => ?_) fun H' h => ?_
  · obtain ⟨h1, h2, h3⟩ := h
    rw [List.getElem?_map] at hv
    obtain ⟨n, hn, rfl⟩ := mpd hv
    have hil : i < ns.length := by
      by_cases hi : i < ns.length
      · exact hi
      · rw [List.getElem?_eq_none (by omega)] at hn; cases hn
    refine ⟨rfl, ?_⟩
    show tCB rAbs1 (tCons (tVar 1) tNil) _ H' _
    refine ⟨_, rfl, n, rfl, _, h3, ?_, fun b o e => ?_, ?_, ?_⟩
    · rw [List.length_map, List.length_map, List.length_take]
      exact Nat.lt_of_le_of_lt (Nat.min_le_right _ _) (small1000 (by omega))
    · rw [upd_ne (ne_of_none e hcH)]; exact h1 b o e
    · rw [upd_ne ncp.symm]; exact h2
    · rw [upd_same, List.take_add_one, hn]
      simp [absI]
  · obtain ⟨h1, h2, h3⟩ := h
    rw [List.length_map, List.take_length] at h3
    refine ⟨by show 2 ≤ sizeLine; decide, fun d hd => ?_⟩
    have ndc : d ≠ c := fun z => by rw [z, h3] at hd; cases hd
    have fin := q (d, c) (upd H' d (.lst [.ref c, .int 0])) (h1.trans (Lh.new hd)) ⟨fun _ _ z => (nomatch z), upd_same, (upd_ne (a := d) ndc.symm).trans h3, ⟨rfl, fun z => nomatch z⟩, ⟨rfl, fun z => nomatch z⟩, ndc, rfl, List.nodup_nil, fun n a o z => by simp at z⟩
    exact fin
theorem fn_deck {x qual : Str} {st : Stmt} {f : Addr} {fd : FuncData} {N ps : List Str} {k : Nat} (Fn : Fun K x qual st f fd) (S : FnScope N ps (defScope st)) (hN : N.length = 2) (hp : ps.length = 1)
    (hbody : ∀ (cdv : Value) (A : Around) (outer : List Env) (s : Shared) (H : Hp) (E : XK), PSs (cxOf CX0 P w K mg base N qual (defScope st) f cdv A outer s H E).nox (defBody st) (tDeck K)) : FnG P w K mg base (k + 1) f fd ps (spDeck K) := by
  refine fnG_of Fn S (fun vs H Q E h => ?_) fun cdv A outer s H vs Q E hr gd h => ⟨_, hbody cdv A outer s H E, ?_⟩
  · obtain ⟨a, ns, rfl, _⟩ := h
    rw [hp]; rfl
  · obtain ⟨a, ns, rfl, hs, hl, q⟩ := h
    have es : L2.start N [V.ref a] = [some (.ref a), none] := by
      unfold L2.start
      rw [hN]
      rfl
    rw [es]
    exact deck_ok hs hl fun dk H' le wd => q dk H' le wd

/-! ### the law -/
def spLaw (K : Fg) : Sp := fun vs H Q _ => ∃ (a : Addr) (ns : List Int), vs = [.ref a] ∧ SqL K H a (ns.map V.int) ∧ ns.length ≤ 63 ∧ ∀ H', Q (.bl true) H'
/-- the slots behind the law's first statement: the script, the deck, all else -/
def env0 (n : Nat) : Sg := .un :: .val .deck :: List.replicate (n - 2) .un
theorem fn_law {x qual : Str} {st : Stmt} {f : Addr} {fd : FuncData} {N ps : List Str} {k : Nat} {b : MS} (Fn : Fun K x qual st f fd) (S : FnScope N ps (defScope st)) (hN : 2 ≤ N.length) (hp : ps.length = 1)
    (hb : ∀ ns : List Int, ns.length ≤ 63 → ∃ s1, b (env0 N.length) ⟨ns.map absI, 0, []⟩ = some (.rt (.bl true), s1))
    (hbody : ∀ (cdv : Value) (A : Around) (outer : List Env) (s : Shared) (H : Hp) (E : XK), Room k (A.deeper (envOfC qual (defScope st) s.heap.objs.size f cdv)) → (A.deeper (envOfC qual (defScope st) s.heap.objs.size f cdv)).guards = some [] →
      ∃ t, PSs (cxOf CX0 P w K mg base N qual (defScope st) f cdv A outer s H E).nox (defBody st) (tSeq (tAsg (tCall (spDeck K) [] E0 (tCons (tVar 0) tNil)) (gName 1)) t) ∧ ImS K t b) : FnG P w K mg base (k + 1) f fd ps (spLaw K) := by
  refine fnG_of Fn S (fun vs H Q E h => ?_) fun cdv A outer s H vs Q E hr gd h => ?_
  · obtain ⟨a, ns, rfl, _⟩ := h
    rw [hp]; rfl
  · obtain ⟨a, ns, rfl, hs, hl, q⟩ := h
    obtain ⟨t, h1, h2⟩ := hbody cdv A outer s H E hr gd
    refine ⟨_, h1, ?_⟩
    obtain ⟨m, hm⟩ : ∃ m, N.length = m + 2 := ⟨N.length - 2, by omega⟩
    have es : L2.start N [V.ref a] = some (.ref a) :: none :: List.replicate m none := by
      unfold L2.start
      rw [hm]
      rfl
    rw [es]
    refine ⟨_, rfl, a, ns, rfl, hs, hl, fun dk H' le wd => ?_⟩
    obtain ⟨s1, hr1⟩ := hb ns hl
    have g : Good K dk H' ⟨fun _ => none, []⟩ ⟨fun _ => none, []⟩ (some (.ref a) :: some (.ref dk.1) :: List.replicate m none) H' (env0 N.length) ⟨ns.map absI, 0, []⟩ := by
      refine ⟨wd, Ext.refl _ _, by unfold env0; rw [hm]; simp, fun i s e => ?_, fun i j ds es p hne e1 e2 e3 => ?_⟩
      · unfold env0 at e
        match i with
        | 0 => cases e; trivial
        | 1 => cases e; exact ⟨_, rfl, .deck⟩
        | i + 2 =>
          have e' : (List.replicate (N.length - 2) Sl.un)[i]? = some s := e
          rw [List.getElem?_replicate] at e'
          split at e'
          · cases e'; trivial
          · cases e'
      · exfalso
        unfold env0 at e1
        match i with
        | 0 => cases e1
        | 1 => cases e1
        | i + 2 =>
          have e' : (List.replicate (N.length - 2) Sl.un)[i]? = some (.own ds) := e1
          rw [List.getElem?_replicate] at e'
          split at e' <;> cases e'
    refine h2 dk H' _ _ _ H' _ _ _ s1 g hr1 _ ?_
    intro v F' H2 _ _ r
    cases r
    exact q H2
end
end MD

set_option Elab.async false
set_option linter.all false
set_option maxRecDepth 100000
set_option maxHeartbeats 2000000
namespace MD
open PySem PySem.Spec PyProof.Rows L2

/-- the law's own call, from a heap in which nothing is tracked but the script -/
theorem law_core {P : Program} {w : World} {K : Fg} {mg mb : Str → Option Value} {k : Nat} {fa a : Addr} {fd : FuncData} {x : Str} {sp : Sp} {s1 : Shared} {vs : List Value} (KX : K.In s1.heap) (hns : s1.heap.Ns mainGlobals mg) (hb : s1.heap.Ns builtinsNs mb)
    (hbb : ∀ y : Str, y ≠ "__name__" → mb y = bootBuiltins y) (hlim : s1.heap.NoLimit) (hg : s1.gens = #[]) (ha : s1.heap.get? a = some { cls := .type "list", data := .seq vs.toArray }) (hr : Room k callerA)
    (Fn : ∀ base : Heap, K.In base → base.Ns mainGlobals mg → FnG P w K mg base k fa fd [x] sp) (hbind : ∀ (s : Shared) (u : Value), BindsTo s fd ⟨[u], []⟩ [(x, u)])
    (H : Hp) (hO : Only H) (hok : HOk P w H s1.heap) (hA : ∀ b, H b ≠ none → b = a) (hK : H a ≠ none → K.lookup a = none) (hsp : sp [.ref a] H (fun v _ => v = .bl true) E0) :
    codeAny (model P w) callerA (.call (.ref fa) ⟨[.ref a], []⟩) (fun r s' => r = .ok (.ret (.bool true)) ∧ OldK s1.heap s'.heap ∧ s'.os = s1.os ∧ AllBare s'.gens) s1 := by
  have only : ∀ {b : Addr} {o : Obj} {es : Array DictEntry} {ep : Nat}, s1.heap.get? b = some o → o.data = .dict es ep → H b = none := by
    intro b o es ep e d
    by_cases hz : H b = none
    · exact hz
    · have hba := hA b hz
      rw [hba, ha] at e
      have e' := (Option.some.inj e).symm
      rw [e'] at d
      exact absurd d (fun z => Data.noConfusion z)
  have low : ∀ {b : Addr} {m : Str → Option Value}, s1.heap.Ns b m → (hidT s1.heap H).Ns b m := by
    intro b m hm
    obtain ⟨o, es, ep, e, d, r⟩ := hm
    exact ⟨o, es, ep, hidT_get e (only e d), d, r⟩
  have kin : K.In (hidT s1.heap H) := by
    intro b o e
    refine hidT_get (KX b o e) ?_
    by_cases hz : H b = none
    · exact hz
    · have hba := hA b hz
      rw [hba] at hz e
      rw [hK hz] at e
      cases e
  obtain ⟨mc, l1, l2⟩ := hlim
  have md : Mod K mg (hidT s1.heap H) := ⟨kin, low hns, ⟨mb, low hb, hbb⟩, ⟨mc, low l1, l2⟩⟩
  have en : Env0 P w K mg (hidT s1.heap H) callerA [] s1 H := by
    refine ⟨rfl, md, fun b o e => of_hidT e, Nat.le_of_eq (hidT_size _ _), trivial, fun b z => ?_, hok, .of_eq hg⟩
    exact absurd (show b ∈ ([] : List Addr) from z) (by simp)
  refine codeAny_mono ((Fn _ kin (low hns)).run callerA [] s1 H ⟨[.ref a], []⟩ [.ref a] [.ref a] _ _ hr rfl en (hbind s1 (.ref a)) (.cons rfl .nil) hsp) fun r s' h => ?_
  rcases r with er | fl
  · exact False.elim h
  · cases fl with
    | ret u =>
      obtain ⟨v, H', os, bare, un, hok', r', q⟩ := h
      replace q : v = .bl true := q
      rw [q] at r'
      have hu : u = Value.bool true := r'
      rw [hu]
      refine ⟨rfl, OldK.of_keep fun b o e => ?_, os, bare⟩
      by_cases hz : H b = none
      · exact un.keep b o e hz (fun z => absurd (show b ∈ ([] : List Addr) from z) (by simp)) (by simp)
      · rcases hO b with z | ⟨ob, xs, z⟩
        · exact absurd z hz
        · have k1 := (hok b _ z).1
          have k2 := (hok' b _ (un.frzs b ob _ z)).1
          rw [e] at k1
          rw [k2, k1]
    | next => exact False.elim h
    | brk => exact False.elim h
    | cont => exact False.elim h
theorem law_callG {P : Program} {w : World} {K : Fg} {mg mb : Str → Option Value} {k : Nat} {fa a : Addr} {fd : FuncData} {x : Str} {sp : Sp} {s1 : Shared} {vs : List Value} {ns : List Int} (KX : K.In s1.heap) (hns : s1.heap.Ns mainGlobals mg) (hb : s1.heap.Ns builtinsNs mb)
    (hbb : ∀ y : Str, y ≠ "__name__" → mb y = bootBuiltins y) (hlim : s1.heap.NoLimit) (hg : s1.gens = #[]) (ha : s1.heap.get? a = some { cls := .type "list", data := .seq vs.toArray }) (hi : IntsAre vs ns) (hl : ns.length ≤ sizeLine) (hr : Room k callerA)
    (Fn : ∀ base : Heap, K.In base → base.Ns mainGlobals mg → FnG P w K mg base k fa fd [x] sp) (hbind : ∀ (s : Shared) (u : Value), BindsTo s fd ⟨[u], []⟩ [(x, u)])
    (hsp : ∀ H : Hp, SqL K H a (ns.map V.int) → sp [.ref a] H (fun v _ => v = .bl true) E0) :
    codeAny (model P w) callerA (.call (.ref fa) ⟨[.ref a], []⟩) (fun r s' => r = .ok (.ret (.bool true)) ∧ OldK s1.heap s'.heap ∧ s'.os = s1.os ∧ AllBare s'.gens) s1 := by
  have rv := vals_ints hi
  have lenV := hi.length
  by_cases hk : K.lookup a = none
  · let H : Hp := fun b => if b = a then some (.frz { cls := .type "list", data := .seq vs.toArray } (.lst (ns.map V.int))) else none
    have atA : H a = some (.frz { cls := .type "list", data := .seq vs.toArray } (.lst (ns.map V.int))) := if_pos rfl
    have off : ∀ b, b ≠ a → H b = none := fun b z => if_neg z
    refine law_core KX hns hb hbb hlim hg ha hr Fn hbind H (fun b => ?_) (fun b u z => ?_) (fun b z => ?_) (fun _ => hk) (hsp H (.inl (.inr ⟨_, atA⟩)))
    · by_cases e : b = a
      · rw [e]; exact .inr ⟨_, _, atA⟩
      · exact .inl (off b e)
    · by_cases e : b = a
      · rw [e, atA] at z
        cases z
        rw [e]
        exact ⟨ha, by rw [List.length_map]; exact hl, vs, _, rv, ha⟩
      · rw [off b e] at z; cases z
    · by_cases e : b = a
      · exact e
      · exact absurd (off b e) z
  · obtain ⟨o, ho⟩ : ∃ o, K.lookup a = some o := Option.ne_none_iff_exists'.mp hk
    have e := KX a o ho
    rw [ha] at e
    have eo : o = { cls := .type "list", data := .seq vs.toArray } := (Option.some.inj e).symm
    subst eo
    refine law_core KX hns hb hbb hlim hg ha hr Fn hbind (fun _ => none) (fun _ => .inl rfl) (fun b u z => nomatch (show (none : Option HO) = some u from z)) (fun b z => absurd rfl z) (fun z => absurd rfl z) (hsp _ ?_)
    exact .inr ⟨_, vs.toArray, _, ho, rfl, rfl, rfl, by rw [List.size_toArray, lenV]; exact hl, by simpa using rv⟩
/-- what k_head leaves, from the law's promise -/
theorem walkG {l : PySem.W.OpenLaw} {n k : Nat} {q : Program} {loose : List Str} {XP : (Str → Option Value) → Heap → Prop} {YP : World → Heap → Prop} {d : DefRec} {K : Params → Fg} {x : Str} (hn : l.most = some n) (hn2 : n ≤ 63) (hdf : d.params.defaults = []) (hr : Room k callerA)
    (hY : ∀ (w : World) (h : Heap), YP w h → (K w.params).In h)
    (Fn : ∀ (w : World) (mg : Str → Option Value) (fa : Addr) (h : Heap), (K w.params).In h → h.Ns mainGlobals mg → mg d.name = some (.ref fa) →
      ∃ fd : FuncData, (∀ (s : Shared) (u : Value), BindsTo s fd ⟨[u], []⟩ [(x, u)]) ∧ ∀ base : Heap, (K w.params).In base → base.Ns mainGlobals mg → FnG l.prog w (K w.params) mg base k fa fd [x] (spLaw (K w.params))) :
    PySem.W.WalkO q loose XP YP l.row.toRowW d [] (fun f vs => PySem.call f vs) := by
  refine Att.attach_call hn hdf fun w s₀ s₁ mg mb fa o pm cd doc a vs ns G Y ho hd hcd hmg hobj hints hlen hg => ?_
  have KX := hY w _ Y
  obtain ⟨fd, hb, hF⟩ := Fn w mg fa _ KX G.T.g hmg
  have small : ns.length ≤ sizeLine := Nat.le_trans (Nat.le_trans hlen hn2) (by decide)
  exact law_callG KX G.T.g G.T.b G.T.builtins G.T.nolimit hg hobj hints small hr hF hb fun H hS => ⟨a, ns, rfl, hS, Nat.le_trans hlen hn2, fun _ => rfl⟩
end MD

set_option Elab.async false
set_option linter.all false
set_option maxRecDepth 100000
set_option maxHeartbeats 2000000
namespace MD
open PySem PySem.Spec PyProof.Rows L2

section
variable {K : Fg} {dk : Dk} {F F' F0 : Fz} {H H' H0 : Hp} {X : Cx}
/-! rules of several kinds in one -/
def rAddA (K : Fg) : R2 := fun x y H Q => rI0 (fun i j => .int (i + j)) x y H Q ∨ (∃ i j, x = .str i ∧ y = .str j ∧ i.length + j.length ≤ sizeLine ∧ Q (.str (i ++ j)) H) ∨ rCatA K x y H Q ∨ rCat x y H Q
theorem op_addA : OpR X (binaryOp .Add) (rAddA X.K) := OpR.or op_add (OpR.or op_add_str (OpR.or op_catA op_cat))
def addM : D → D → Option D
  | .int i, .int j => some (.int (i + j))
  | .str i, .str j => if i.length + j.length ≤ sizeLine then some (.str (i ++ j)) else none
  | .tup i, .tup j => if i.length + j.length ≤ sizeLine then some (.tup (i ++ j)) else none
  | .lst i, .lst j => if i.length + j.length ≤ sizeLine then some (.lst (i ++ j)) else none
  | _, _ => none
theorem ro_addA : RO K (rAddA K) addM := by
  intro dk F H st x y d e z w rx ry hz Q q
  unfold addM at hz
  split at hz
  · exact .inl (ro_I0 (fun i j => rc_int (i + j)) dk F H st x y _ _ z w rx ry hz Q q)
  · exact .inr (.inl (ro_strCat dk F H st x y _ _ z w rx ry hz Q q))
  · exact .inr (.inr (.inl (ro_tupCat dk F H st x y _ _ z w rx ry hz Q q)))
  · refine .inr (.inr (.inr (rof_lstCat.ro dk F H st x y _ _ z w rx ry ?_ Q q)))
    unfold lstCat
    split at hz
    · rename_i hc
      simp only [hc, if_true]; exact hz
    · cases hz
  · cases hz
abbrev subM : D → D → Option D := iI fun i j => .int (i - j)
abbrev mulM : D → D → Option D := iIC CMul fun i j => .int (i * j)
abbrev fdivM : D → D → Option D := iIC CDiv fun i j => .int (i / j)
abbrev modM : D → D → Option D := iIC (fun _ j => 0 < j) fun i j => .int (i % j)
abbrev powM : D → D → Option D := iIC CPow fun i j => .int (i ^ j.toNat)
abbrev ltM : D → D → Option D := iI fun i j => .bl (decide (i < j))
abbrev leM : D → D → Option D := iI fun i j => .bl (decide (i ≤ j))
abbrev gtM : D → D → Option D := iI fun i j => .bl (decide (j < i))
abbrev geM : D → D → Option D := iI fun i j => .bl (decide (j ≤ i))
theorem ro_sub : RO K (rI0 fun i j => .int (i - j)) subM := ro_I0 fun i j => rc_int _
theorem ro_mul : RO K (rI CMul fun i j => .int (i * j)) mulM := ro_I fun i j => rc_int _
theorem ro_fdiv : RO K (rI CDiv fun i j => .int (i / j)) fdivM := ro_I fun i j => rc_int _
theorem ro_mod : RO K (rI (fun _ j => 0 < j) fun i j => .int (i % j)) modM := ro_I fun i j => rc_int _
theorem ro_pow : RO K (rI CPow fun i j => .int (i ^ j.toNat)) powM := ro_I fun i j => rc_int _
theorem ro_lt : RO K (rI0 fun i j => .bl (decide (i < j))) ltM := ro_I0 fun i j => rc_bl _
theorem ro_le : RO K (rI0 fun i j => .bl (decide (i ≤ j))) leM := ro_I0 fun i j => rc_bl _
theorem ro_gt : RO K (rI0 fun i j => .bl (decide (j < i))) gtM := ro_I0 fun i j => rc_bl _
theorem ro_ge : RO K (rI0 fun i j => .bl (decide (j ≤ i))) geM := ro_I0 fun i j => rc_bl _
theorem ro_ipAdd : RO K (ipI fun i j => i + j) (iI fun i j => .int (i + j)) := ro_I0 fun i j => rc_int _
theorem ro_ipSub : RO K (ipI fun i j => i - j) (iI fun i j => .int (i - j)) := ro_I0 fun i j => rc_int _
/-! in -/
def rInA (K : Fg) : R2 := fun x y H Q => (∃ (c : Nat) (z : Str), x = .str ⟨#[c]⟩ ∧ y = .str z ∧ Q (.bl (decide (c ∈ z.cps.toList))) H) ∨ rIn K false x y H Q
def rNotInA (K : Fg) : R2 := fun x y H Q => (∃ (c : Nat) (z : Str), x = .str ⟨#[c]⟩ ∧ y = .str z ∧ Q (.bl (!decide (c ∈ z.cps.toList))) H) ∨ rIn K true x y H Q
theorem op_inA : OpR X (compareOp .In) (rInA X.K) := OpR.or op_in_sign op_in_seq
theorem op_notInA : OpR X (compareOp .NotIn) (rNotInA X.K) := OpR.or op_notIn_sign op_notIn_seq
def inM (d e : D) : Option D := match e with
  | .str _ => inSign d e
  | _ => inSeq false d e
def notInM (d e : D) : Option D := match e with
  | .str _ => notInSign d e
  | _ => inSeq true d e
theorem ro_in : RO K (rInA K) inM := by
  intro dk F H st x y d e z w rx ry hz Q q
  unfold inM at hz
  split at hz
  · exact .inl (ro_inSign dk F H st x y _ _ z w rx ry hz Q q)
  · exact .inr (ro_inSeq false dk F H st x y _ _ z w rx ry hz Q q)
theorem ro_notIn : RO K (rNotInA K) notInM := by
  intro dk F H st x y d e z w rx ry hz Q q
  unfold notInM at hz
  split at hz
  · exact .inl (ro_notInSign dk F H st x y _ _ z w rx ry hz Q q)
  · exact .inr (ro_inSeq true dk F H st x y _ _ z w rx ry hz Q q)
/-! tuple(..) of a list, a tuple, a text -/
def rTupA (K : Fg) : List V → Hp → VK → Prop := fun xs H Q => (∃ p ys, xs = [.ref p] ∧ ((SqL K H p ys ∧ ∀ l, H l = none → Q (.ref l) (upd H l (.tup ys))) ∨ (SqT K H p ys ∧ Q (.ref p) H))) ∨
  ∃ x, xs = [.str x] ∧ x.cps.size ≤ sizeLine ∧ ∀ p, H p = none → Q (.ref p) (upd H p (.tup ((signs x).map V.str)))
theorem call_tupA (hc : X.calm = true) : CallR X (.type "tuple") (rTupA X.K) := CallR.or call_tuple_of (call_tupStr hc)
def tupleM : List D → Option D
  | [.lst ds] => some (.tup ds)
  | [.tup ds] => some (.tup ds)
  | [.str x] => if x.cps.size ≤ sizeLine then some (.tup ((signs x).map D.str)) else none
  | _ => none
theorem rc_tupA : RC K (rTupA K) tupleM := by
  intro dk F H st vs ds z w rx hz Q q
  unfold tupleM at hz
  split at hz
  · exact .inl (rc_tupOf dk F H st vs _ z w rx hz Q q)
  · exact .inl (rc_tupOf dk F H st vs _ z w rx hz Q q)
  · exact .inr (rc_tupStr dk F H st vs _ z w rx hz Q q)
  · cases hz
/-! module constants -/
theorem pe_gstr {x : Str} {s : Str} {pos : Pos} (hg : Gl X x) (hm : ∃ t, X.mg x = some (.str s t)) (hd : (x == ("__debug__" : Str)) = false := by decide) : PE X (.Name x pos) (tC (.str s)) := by
  obtain ⟨t, h⟩ := hm
  exact pe_glob hg h ⟨t, rfl⟩ hd
theorem pe_gint {x : Str} {i : Int} {pos : Pos} (hg : Gl X x) (hm : ∃ t, X.mg x = some (.int i t)) (hd : (x == ("__debug__" : Str)) = false := by decide) : PE X (.Name x pos) (tC (.int i)) := by
  obtain ⟨t, h⟩ := hm
  exact pe_glob hg h ⟨t, rfl⟩ hd
end
/-! a def that is known to its callers -/
def Cal (P : Program) (w : World) (K : Fg) (mg : Str → Option Value) (base : Heap) (k : Nat) (x : Str) (ps : List Str) (sp : Sp) : Prop :=
  ∃ f fd, FnG P w K mg base k f fd ps sp ∧ mg x = some (.ref f) ∧ PySem.W.keepIn K (.ref f) = true ∧ Binds K fd ps []
section
variable {X : Cx} {k j : Nat} {ps : List Str} {sp : Sp} {x : Str} {p pos : Pos} {e : Expr} {es : List Expr} {t : TA}
theorem pe_callC (C : Cal X.prog X.w X.K X.mg X.base j x ps sp) (hr : Room k X.A) (gd : X.A.guards = some []) (hg : Gl X x) (ha : PA X (e :: es) t) (hj : j ≤ k := by decide) (hdb : (x == ("__debug__" : Str)) = false := by decide)
    (he : starEach (e :: es) X.env = (false, eval e X.env) :: starEach es X.env := by rfl) (hpl : (backTo pos (starEach es X.env)).any (·.1) = false := by rfl) : PE X (.Call (.Name x p) (e :: es) [] pos) (tCall sp [] E0 t) := by
  obtain ⟨f, fd, F, hm, hk, hb⟩ := C
  exact pe_callG F (hr.mono hj) gd hg hm hk hb ha hdb he hpl
end
end MD

set_option Elab.async false
set_option linter.all false
set_option maxRecDepth 100000
set_option maxHeartbeats 1000000
namespace MD
open PySem L2

/-! ### dicts with ints and texts as keys -/
def keyOf : D → Option Key
  | .int i => some (.inl i)
  | .str x => some (.inr x)
  | _ => none
def keyD : Key → D
  | .inl i => .int i
  | .inr x => .str x
section
variable {K : Fg} {dk : Dk} {F F' F0 : Fz} {H H' H0 : Hp} {σ : L2.St} {env : Sg} {st : S}
theorem keyOf_rw {v : V} {d : D} {k : Key} (r : Rw K dk F H v d) (h : keyOf d = some k) : v = kV k := by
  cases d with
  | int i => cases h; exact r.int
  | str x => cases h; exact r.str
  | _ => cases h
theorem keyD_rp (k : Key) : Rp K dk F (kV k) (keyD k) := by
  cases k with
  | inl i => exact .int i
  | inr x => exact .str x
def getK {α : Type} : List Key → List α → Key → Option α
  | k' :: ks, x :: xs, k => if k' = k then some x else getK ks xs k
  | _, _, _ => none
theorem getK_val : ∀ {vs : List V} {ds : List D} (ks : List Key) (k : Key), Rps K dk F vs ds → ks.length = vs.length →
    (∀ d, getK ks ds k = some d → ∃ v, valV (ks.zip vs) k = some v ∧ Rp K dk F v d) ∧ (getK ks ds k = none → valV (ks.zip vs) k = none)
  | _, _, [], k, .nil, _ => ⟨fun d h => (by cases h), fun _ => rfl⟩
  | _, _, [], k, .cons a r, h => by simp at h
  | _, _, k' :: ks, k, .nil, h => by simp at h
  | v :: vs, d :: ds, k' :: ks, k, .cons a r, h => by
    obtain ⟨i1, i2⟩ := getK_val ks k r (by simpa using h)
    rw [List.zip_cons_cons]
    unfold getK
    by_cases e : k' = k
    · rw [if_pos e, valV_pos (p := (k', v)) e]
      exact ⟨fun d' h => (by cases h; exact ⟨v, rfl, a⟩), fun h => (by cases h)⟩
    · rw [if_neg e, valV_neg (p := (k', v)) e]
      exact ⟨i1, i2⟩
def hasK (ks : List Key) (k : Key) : Bool := ks.any fun k' => decide (k' = k)
def putKs (ks : List Key) (k : Key) : List Key := if hasK ks k = true then ks else ks ++ [k]
def putVs {α : Type} (ks : List Key) (xs : List α) (k : Key) (x : α) : List α := if hasK ks k = true then List.zipWith (fun k' x' => if k' = k then x else x') ks xs else xs ++ [x]
theorem put_len {α : Type} {ks : List Key} {xs : List α} {k : Key} {x : α} (h : ks.length = xs.length) : (putKs ks k).length = (putVs ks xs k x).length := by
  unfold putKs putVs
  by_cases e : hasK ks k = true
  · rw [if_pos e, if_pos e, List.length_zipWith, h, Nat.min_self]
  · rw [if_neg e, if_neg e, List.length_append, List.length_append, h]; rfl
theorem any_zip {vs : List V} (k : Key) : ∀ (ks : List Key) (vs : List V), ks.length = vs.length → ((ks.zip vs).any fun kv => decide (kv.1 = k)) = hasK ks k
  | [], [], _ => rfl
  | k' :: ks, v :: vs, h => by
    rw [List.zip_cons_cons, List.any_cons, any_zip (vs := vs) k ks vs (by simpa using h)]
    rfl
theorem map_zip (k : Key) (v : V) : ∀ (ks : List Key) (vs : List V), (ks.zip vs).map (fun kv => if kv.1 = k then (kv.1, v) else kv) = ks.zip (List.zipWith (fun k' x' => if k' = k then v else x') ks vs)
  | [], _ => rfl
  | _ :: _, [] => rfl
  | k' :: ks, u :: vs => by
    rw [List.zip_cons_cons, List.map_cons, map_zip k v ks vs, List.zipWith_cons_cons, List.zip_cons_cons]
    by_cases e : k' = k
    · simp [e]
    · simp [e]
theorem put_zip {ks : List Key} {vs : List V} {k : Key} {v : V} (h : ks.length = vs.length) : putK (ks.zip vs) k v = (putKs ks k).zip (putVs ks vs k v) := by
  unfold putK putKs putVs
  rw [any_zip (vs := vs) k ks vs h]
  by_cases e : hasK ks k = true
  · rw [if_pos e, if_pos e, if_pos e, map_zip]
  · rw [if_neg e, if_neg e, if_neg e, List.zip_append h]; rfl
theorem put_rps {k : Key} {v : V} {d : D} (r : Rp K dk F v d) : ∀ {vs : List V} {ds : List D} (ks : List Key), Rps K dk F vs ds → Rps K dk F (List.zipWith (fun k' x' => if k' = k then v else x') ks vs) (List.zipWith (fun k' x' => if k' = k then d else x') ks ds)
  | _, _, [], _ => .nil
  | _, _, _ :: _, .nil => .nil
  | _, _, k' :: ks, .cons a b => by
    rw [List.zipWith_cons_cons, List.zipWith_cons_cons]
    refine .cons ?_ (put_rps r ks b)
    by_cases e : k' = k
    · rw [if_pos e, if_pos e]; exact r
    · rw [if_neg e, if_neg e]; exact a
theorem putVs_rps {k : Key} {v : V} {d : D} {vs : List V} {ds : List D} {ks : List Key} (r : Rp K dk F v d) (rs : Rps K dk F vs ds) : Rps K dk F (putVs ks vs k v) (putVs ks ds k d) := by
  unfold putVs
  by_cases e : hasK ks k = true
  · rw [if_pos e, if_pos e]; exact put_rps r ks rs
  · rw [if_neg e, if_neg e]; exact rs.append (Rps.one r)

theorem pe_or {X : Cx} {e : Expr} {t t' : TE} (h : PE X e t) (h' : PE X e t') : PE X e (fun σ H Q => t σ H Q ∨ t' σ H Q) :=
  ⟨fun pins s σ H Q I q => q.elim (h.run pins s σ H Q I) (h'.run pins s σ H Q I)⟩
theorem ps_or {X : Cx} {e : Stmt} {t t' : TS} (h : PS X e t) (h' : PS X e t') : PS X e (fun E σ H => t E σ H ∨ t' E σ H) :=
  ⟨fun pins s σ H E I q => q.elim (h.run pins s σ H E I) (h'.run pins s σ H E I)⟩
/-! e[k], of a list, a tuple, a text, a dict -/
def dgetD : List Key → List D → D → Option D := fun ks ds k => (keyOf k).bind fun k => getK ks ds k
def subD (d e : D) : Option D := match d with
  | .dic ks ds => dgetD ks ds e
  | d => ixM d e
def tSub (K : Fg) (ta tb : TE) : TE := fun σ H Q => tDGet ta tb σ H Q ∨ tOp (rIx K) ta tb σ H Q
theorem pe_sub {X : Cx} {o i : Expr} {pos : Pos} {ta tb : TE} (hu : X.A.units + 1 < cLine) (ho : PE X o ta) (hi : PE X i tb) (hs : NoSl i := by intro _ _; rfl) (hs' : PlainIx i := by intro _ _; rfl) : PE X (.Subscript o i pos) (tSub X.K ta tb) :=
  pe_or (pe_dget hu ho hi hs) (pe_ix ix_seq ho hi hs')
theorem im_sub {ta tb : TE} {fa fb : ME} (ha : ImW K ta fa) (hb : ImW K tb fb) : Im K (tSub K ta tb) (opM subD fa fb) := fun dk H0 F0 F σ H env st d st' g e Q q => by
  obtain ⟨⟨x, s1⟩, h1, e'⟩ := bnd e
  obtain ⟨⟨y, s2⟩, h2, e'⟩ := bnd e'
  obtain ⟨z, h3, e'⟩ := mpd e'
  cases e'
  by_cases hd : ∃ ks ds, dr s2 x = .dic ks ds
  · obtain ⟨ks, ds, hd⟩ := hd
    refine .inl ?_
    refine ha dk H0 F0 F σ H env st x s1 g h1 _ fun v F1 H1 x1 g1 r1 => ?_
    refine hb dk H0 F0 F1 σ H1 env s1 y _ g1 h2 _ fun u F2 H2 x2 g2 r2 => ?_
    have r3 := (r1.ext x2).dr g2.wd
    rw [hd] at r3
    obtain ⟨p, vs, rfl, hr, hl, r⟩ := r3.d g2.wd.sub
    replace h3 : subD (dr s2 x) (dr s2 y) = some d := h3
    rw [hd] at h3
    obtain ⟨k, h4, h5⟩ := bnd (show (keyOf (dr s2 y)).bind (fun k => getK ks ds k) = some d from h3)
    obtain ⟨w, hw, rw'⟩ := (getK_val ks k r hl).1 _ h5
    exact ⟨p, w, rfl, .inl ⟨_, k, hr, keyOf_rw (r2.dr g2.wd) h4, hw.symm⟩, q w F2 H2 (x1.trans x2) g2 rw'⟩
  · refine .inr (im_op ro_ix ha hb dk H0 F0 F σ H env st d s2 g ?_ Q q)
    unfold opM
    rw [h1]
    show ((fb env s1).bind _) = _
    rw [h2]
    show (ixM (dr s2 x) (dr s2 y)).map _ = _
    have : subD (dr s2 x) (dr s2 y) = ixM (dr s2 x) (dr s2 y) := by
      unfold subD
      split
      · rename_i ks ds hx
        exact absurd ⟨ks, ds, hx⟩ hd
      · rfl
    rw [← this, show subD (dr s2 x) (dr s2 y) = some d from h3]
    rfl
/-! k in d, k not in d -/
def cntD (neg : Bool) (d e : D) : Option D := match e with
  | .dic ks ds => (keyOf d).map fun k => .bl (if neg then !(getK ks ds k).isSome else (getK ks ds k).isSome)
  | e => if neg then notInM d e else inM d e
def tIn (K : Fg) (ta tb : TE) : TE := fun σ H Q => tDIn ta tb σ H Q ∨ tOp (rInA K) ta tb σ H Q
def tNotIn (K : Fg) (ta tb : TE) : TE := fun σ H Q => tDNotIn ta tb σ H Q ∨ tOp (rNotInA K) ta tb σ H Q
theorem pe_in {X : Cx} {a b : Expr} {pos : Pos} {ta tb : TE} (hu : X.A.units + 1 < cLine) (ha : PE X a ta) (hb : PE X b tb) (hm : behindInMarks .In b = false := by rfl) : PE X (.Compare a [.In] [b] pos) (tIn X.K ta tb) :=
  pe_or (pe_cmp (pc_din hu ha hb) hm) (pe_cmpR op_inA ha hb hm)
theorem pe_notIn {X : Cx} {a b : Expr} {pos : Pos} {ta tb : TE} (hu : X.A.units + 1 < cLine) (ha : PE X a ta) (hb : PE X b tb) (hm : behindInMarks .NotIn b = false := by rfl) : PE X (.Compare a [.NotIn] [b] pos) (tNotIn X.K ta tb) :=
  pe_or (pe_cmp (pc_dnotin hu ha hb) hm) (pe_cmpR op_notInA ha hb hm)
theorem im_inX (neg : Bool) {ta tb t : TE} {fa fb : ME} (r : R2) (ro : RO K r (fun d e => if neg then notInM d e else inM d e))
    (hin : ∀ σ H Q, (ta σ H fun y H1 => tb σ H1 fun x H2 => ∃ a o, x = .ref a ∧ DGet H2 a y o ∧ Q (.bl (if neg then !o.isSome else o.isSome)) H2) ∨ tOp r ta tb σ H Q → t σ H Q) (ha : ImW K ta fa) (hb : ImW K tb fb) : Im K t (opM (cntD neg) fa fb) := fun dk H0 F0 F σ H env st d st' g e Q q => by
  obtain ⟨⟨x, s1⟩, h1, e'⟩ := bnd e
  obtain ⟨⟨y, s2⟩, h2, e'⟩ := bnd e'
  obtain ⟨z, h3, e'⟩ := mpd e'
  cases e'
  refine hin σ H Q ?_
  by_cases hd : ∃ ks ds, dr s2 y = .dic ks ds
  · obtain ⟨ks, ds, hd⟩ := hd
    refine .inl ?_
    refine ha dk H0 F0 F σ H env st x s1 g h1 _ fun v F1 H1 x1 g1 r1 => ?_
    refine hb dk H0 F0 F1 σ H1 env s1 y _ g1 h2 _ fun u F2 H2 x2 g2 r2 => ?_
    have r3 := r2.dr g2.wd
    rw [hd] at r3
    obtain ⟨p, vs, rfl, hr, hl, r⟩ := r3.d g2.wd.sub
    replace h3 : cntD neg (dr s2 x) (dr s2 y) = some d := h3
    rw [hd] at h3
    obtain ⟨k, h4, h5⟩ := mpd (show (keyOf (dr s2 x)).map (fun k => D.bl (if neg then !(getK ks ds k).isSome else (getK ks ds k).isSome)) = some d from h3)
    subst h5
    obtain ⟨i1, i2⟩ := getK_val ks k r hl
    refine ⟨p, _, rfl, .inl ⟨_, k, hr, keyOf_rw ((r1.ext x2).dr g2.wd) h4, rfl⟩, ?_⟩
    have es : (valV (ks.zip vs) k).isSome = (getK ks ds k).isSome := by
      cases hk : getK ks ds k with
      | none => rw [i2 hk]; rfl
      | some w => obtain ⟨u, hu, _⟩ := i1 w hk; rw [hu]; rfl
    rw [es]
    exact q _ F2 H2 (x1.trans x2) g2 (.bl _)
  · refine .inr (im_op ro ha hb dk H0 F0 F σ H env st d s2 g ?_ Q q)
    unfold opM
    rw [h1]
    show ((fb env s1).bind _) = _
    rw [h2]
    show ((fun d e => if neg then notInM d e else inM d e) (dr s2 x) (dr s2 y)).map _ = _
    have : cntD neg (dr s2 x) (dr s2 y) = if neg then notInM (dr s2 x) (dr s2 y) else inM (dr s2 x) (dr s2 y) := by
      unfold cntD
      split
      · rename_i ks ds hx
        exact absurd ⟨ks, ds, hx⟩ hd
      · rfl
    dsimp only
    rw [← this, show cntD neg (dr s2 x) (dr s2 y) = some d from h3]
    rfl
theorem im_in {ta tb : TE} {fa fb : ME} (ha : ImW K ta fa) (hb : ImW K tb fb) : Im K (tIn K ta tb) (opM (cntD false) fa fb) := im_inX false (rInA K) ro_in (fun σ H Q h => h) ha hb
theorem im_notIn {ta tb : TE} {fa fb : ME} (ha : ImW K ta fa) (hb : ImW K tb fb) : Im K (tNotIn K ta tb) (opM (cntD true) fa fb) := im_inX true (rNotInA K) ro_notIn (fun σ H Q h => h) ha hb
/-! len(d), list(d) -/
theorem call_lenR {X : Cx} : CallR X (.builtin "len") (fun xs H Q => ∃ a kvs, xs = [V.ref a] ∧ Rd H a (.dK kvs) ∧ Q (.int kvs.length) H) := by
  intro pins s σ H xs us Q I r h
  obtain ⟨a, kvs, rfl, ha, q⟩ := h
  obtain ⟨u, rfl, ru⟩ := vals1 r
  cases ru
  exact d_len I ha fun t s' I' => ⟨.int kvs.length, H, I', ⟨t, rfl⟩, q⟩
def lenA : List D → Option D
  | [.dic ks _] => some (.int ks.length)
  | ds => lenM ds
def rLenA (K : Fg) : List V → Hp → VK → Prop := fun xs H Q => (∃ a kvs, xs = [V.ref a] ∧ Rd H a (.dK kvs) ∧ Q (.int kvs.length) H) ∨ ∃ x n, xs = [x] ∧ LenV K x H n ∧ Q (.int n) H
theorem call_lenA {X : Cx} : CallR X (.builtin "len") (rLenA X.K) := CallR.or call_lenR call_len
theorem rc_lenA : RC K (rLenA K) lenA := by
  intro dk F H st vs ds z w rx hz Q q
  unfold lenA at hz
  split at hz
  · cases hz
    obtain ⟨v, rfl, r⟩ := rx.one
    obtain ⟨p, vs, rfl, hr, hl, r⟩ := r.d w.sub
    refine .inl ⟨p, _, rfl, hr, ?_⟩
    rw [List.length_zip, hl, Nat.min_self, ← hl]
    exact q _ F H (Px.refl w.sub) (.int _)
  · exact .inr (rc_len dk F H st vs _ z w rx hz Q q)
/-! d.get(k), d.get(k, x) -/
def isDicD : D → Option (List Key × List D)
  | .dic ks ds => some (ks, ds)
  | _ => none
theorem isDicD_eq {d : D} {q : List Key × List D} (h : isDicD d = some q) : d = .dic q.1 q.2 := by
  cases d <;> first | (cases h; rfl) | cases h
def get1M (fd fk : ME) : ME := fun env st => (fd env st).bind fun p => (isDicD (dr p.2 p.1)).bind fun _ => (fk env p.2).bind fun q => (isDicD (dr q.2 p.1)).bind fun z => (keyOf q.1).map fun k => ((getK z.1 z.2 k).getD .non, q.2)
theorem im_get1 {td ty : TE} {fd fk : ME} (hd : ImW K td fd) (hk : ImW K ty fk) : Im K (tDGet1 td ty) (get1M fd fk) := fun dk H0 F0 F σ H env st d st' g e Q q => by
  obtain ⟨⟨x, s1⟩, h1, e⟩ := bnd e
  obtain ⟨_, h2, e⟩ := bnd e
  obtain ⟨⟨y, s2⟩, h3, e⟩ := bnd e
  obtain ⟨⟨ks, ds⟩, h4, e⟩ := bnd e
  obtain ⟨k, h5, e⟩ := mpd e
  cases e
  refine hd dk H0 F0 F σ H env st x s1 g h1 _ fun v F1 H1 x1 g1 r1 => ?_
  have r1' := r1.dr g1.wd
  rw [isDicD_eq h2] at r1'
  obtain ⟨p, _, rfl, hr, _, _⟩ := r1'.d g1.wd.sub
  refine ⟨p, rfl, .inl ⟨_, hr⟩, ?_⟩
  refine hk dk H0 F0 F1 σ H1 env s1 y _ g1 h3 _ fun u F2 H2 x2 g2 r2 => ?_
  have r3 := (r1.ext x2).dr g2.wd
  rw [isDicD_eq h4] at r3
  obtain ⟨p', vs, e', hr, hl, r⟩ := r3.d g2.wd.sub
  cases e'
  obtain ⟨i1, i2⟩ := getK_val ks k r hl
  refine ⟨_, .inl ⟨_, k, hr, keyOf_rw r2.w h5, rfl⟩, ?_⟩
  dsimp only at q ⊢
  cases hk : getK ks ds k with
  | none =>
    rw [i2 hk]
    rw [hk] at q
    exact q .non F2 H2 (x1.trans x2) g2 .non
  | some d =>
    obtain ⟨u, hu, ru⟩ := i1 d hk
    rw [hu]
    rw [hk] at q
    exact q u F2 H2 (x1.trans x2) g2 ru
def get2M (fd fk fx : ME) : ME := fun env st => (fd env st).bind fun p => (isDicD (dr p.2 p.1)).bind fun _ => (fk env p.2).bind fun q => (fx env q.2).bind fun r => (isDicD (dr r.2 p.1)).bind fun z => (keyOf q.1).map fun k => ((getK z.1 z.2 k).getD r.1, r.2)
theorem im_get2 {td ty tx : TE} {fd fk fx : ME} (hd : ImW K td fd) (hk : ImW K ty fk) (hx : Im K tx fx) : Im K (tDGet2 td ty tx) (get2M fd fk fx) := fun dk H0 F0 F σ H env st d st' g e Q q => by
  obtain ⟨⟨x, s1⟩, h1, e⟩ := bnd e
  obtain ⟨_, h2, e⟩ := bnd e
  obtain ⟨⟨y, s2⟩, h3, e⟩ := bnd e
  obtain ⟨⟨z, s3⟩, h6, e⟩ := bnd e
  obtain ⟨⟨ks, ds⟩, h4, e⟩ := bnd e
  obtain ⟨k, h5, e⟩ := mpd e
  cases e
  refine hd dk H0 F0 F σ H env st x s1 g h1 _ fun v F1 H1 x1 g1 r1 => ?_
  have r1' := r1.dr g1.wd
  rw [isDicD_eq h2] at r1'
  obtain ⟨p, _, rfl, hr, _, _⟩ := r1'.d g1.wd.sub
  refine ⟨p, rfl, .inl ⟨_, hr⟩, ?_⟩
  refine hk dk H0 F0 F1 σ H1 env s1 y _ g1 h3 _ fun u F2 H2 x2 g2 r2 => ?_
  refine hx dk H0 F0 F2 σ H2 env s2 z _ g2 h6 _ fun w F3 H3 x3 g3 rz => ?_
  have x23 := x2.trans x3
  have r3 := (r1.ext x23).dr g3.wd
  rw [isDicD_eq h4] at r3
  obtain ⟨p', vs, e', hr, hl, r⟩ := r3.d g3.wd.sub
  cases e'
  obtain ⟨i1, i2⟩ := getK_val ks k r hl
  refine ⟨_, .inl ⟨_, k, hr, keyOf_rw (r2.ext x3).w h5, rfl⟩, ?_⟩
  dsimp only at q ⊢
  cases hk : getK ks ds k with
  | none =>
    rw [i2 hk]
    rw [hk] at q
    exact q w F3 H3 (x1.trans x23) g3 rz
  | some d =>
    obtain ⟨u, hu, ru⟩ := i1 d hk
    rw [hu]
    rw [hk] at q
    exact q u F3 H3 (x1.trans x23) g3 ru
/-! d[k] = v, of a name's own dict -/
def dputM (i : Nat) (fk fv : ME) : MS := fun env st => match env[i]? with
  | some (.own (.dic ks, ds)) => (fv env st).bind fun p => (fk env p.2).bind fun q => (keyOf q.1).bind fun k => if ds.length < sizeLine then some (.nx (env.set i (.own (.dic (putKs ks k), putVs ks ds k p.1))), q.2) else none
  | _ => none
theorem is_dput {ty tv : TE} {fk fv : ME} (i : Nat) (hk : ImW K ty fk) (hv : Im K tv fv) : ImS K (sDPut (tVar i) ty tv) (dputM i fk fv) := fun dk H0 F0 F σ H env st fl st' g e E hd => by
  unfold dputM at e
  split at e
  · rename_i ks ds he
    obtain ⟨⟨d, s1⟩, e1, e⟩ := bnd e
    obtain ⟨⟨y, s2⟩, e2, e⟩ := bnd e
    obtain ⟨k, e3, e⟩ := bnd e
    split at e
    · rename_i hz
      cases e
      obtain ⟨p, vs, h1, ⟨h2, h2'⟩, h3, h4, h5, h6, h7⟩ := g.sl i _ he
      refine hv dk H0 F0 F σ H env st d s1 g e1 _ fun v F1 H1 x1 g1 r1 => ?_
      refine ⟨.ref p, join_eq h1, hk dk H0 F0 F1 σ H1 env s1 y s2 g1 e2 _ fun u F2 H2 x2 g2 r2 => ?_⟩
      have x12 := x1.trans x2
      have hl := h7.length
      refine ⟨p, _, rfl, .inl ⟨ks.zip vs, k, x12.h _ _ h2 h5 h6 (.inl h3.2), keyOf_rw r2.w e3, ?_, rfl⟩, ?_⟩
      · rw [List.length_zip, h2', Nat.min_self, hl]; exact hz
      · refine hd F2 σ _ x12.f (g2.mut (ds' := (.dic (putKs ks k), putVs ks ds k d)) (vs' := putVs ks vs k v) he (join_eq h1) ⟨?_, put_len h2'⟩ (putVs_rps (r1.mono x2.f) (h7.mono x12.f)))
        rw [upd_same, put_zip h2']
    · cases e
  · cases e
/-! ### new dicts -/
abbrev MK := Sg → S → Option ((List Key × List D) × S)
def ImK (K : Fg) (te : TE) (f : MK) : Prop := ∀ (dk : Dk) (H0 : Hp) (F0 F : Fz) (σ : L2.St) (H : Hp) (env : Sg) (st : S) (q : List Key × List D) (st' : S), Good K dk H0 F0 F σ H env st → f env st = some (q, st') →
  ∀ Q : VK, (∀ p vs F' H', Ext dk F H F' H' → Good K dk H0 F0 F' σ H' env st' → H p = none → F'.out p → H' p = some (.dK (q.1.zip vs)) → q.1.length = vs.length → Rps K dk F' vs q.2 → Q (.ref p) H') → te σ H Q
def frzK (f : MK) : ME := fun env st => (f env st).map fun p => (.dic p.1.1 p.1.2, p.2)
theorem ImK.im {te : TE} {f : MK} (h : ImK K te f) : Im K te (frzK f) := fun dk H0 F0 F σ H env st d st' g e Q q => by
  obtain ⟨⟨⟨ks, ds⟩, s1⟩, h1, h2⟩ := mpd e
  cases h2
  refine h dk H0 F0 F σ H env st _ s1 g h1 Q fun p vs F' H' x g' hp fp hl hl2 r => ?_
  have nd := g.nedk hp
  have le : Le F' (F'.up p (.dK (ks.zip vs))) := Le.new fp.1
  exact q (.ref p) _ H' (x.freeze hp fp) (g'.freeze hl fp (g.fresh0 hp) nd.1 nd.2 (g.noown hp)) (.dic Fz.up_same hl2 (r.mono le))
theorem ImK.w {te : TE} {f : MK} (h : ImK K te f) : ImW K te (frzK f) := h.im.w
def ownK (i : Nat) (f : MK) : MS := fun env st => (f env st).map fun p => (.nx (env.set i (.own (.dic p.1.1, p.1.2))), p.2)
theorem is_ownK {te : TE} {f : MK} (i : Nat) (h : ImK K te f) : ImS K (tAsg te (gName i)) (ownK i f) := fun dk H0 F0 F σ H env st fl st' g e E hd => by
  obtain ⟨⟨⟨ks, ds⟩, s1⟩, e1, e⟩ := mpd e
  cases e
  refine h dk H0 F0 F σ H env st _ s1 g e1 _ fun p vs F1 H1 x1 g1 hp fp hl hl2 r => ?_
  have nd := g.nedk hp
  exact hd F1 _ H1 x1.f (g1.setO (ds := (.dic ks, ds)) ⟨hl, hl2⟩ fp (g.fresh0 hp) nd.1 nd.2 (g.noown hp) r)
/-! {k: v, ..} -/
def mrgL {α : Type} : List Key → List α → List (Key × α) → List Key × List α
  | ks, xs, [] => (ks, xs)
  | ks, xs, (k, x) :: r => mrgL (putKs ks k) (putVs ks xs k x) r
theorem mrg_zip : ∀ (kvs : List (Key × V)) (ks : List Key) (vs : List V), ks.length = vs.length → mergeK (ks.zip vs) kvs = (mrgL ks vs kvs).1.zip (mrgL ks vs kvs).2 ∧ (mrgL ks vs kvs).1.length = (mrgL ks vs kvs).2.length
  | [], ks, vs, h => ⟨rfl, h⟩
  | (k, v) :: r, ks, vs, h => by
    have ih := mrg_zip r (putKs ks k) (putVs ks vs k v) (put_len h)
    rw [← put_zip h] at ih
    exact ih
inductive Rpk (K : Fg) (dk : Dk) (F : Fz) : List (Key × V) → List (Key × D) → Prop
  | nil : Rpk K dk F [] []
  | cons {k : Key} {v : V} {d : D} {kvs : List (Key × V)} {kds : List (Key × D)} : Rp K dk F v d → Rpk K dk F kvs kds → Rpk K dk F ((k, v) :: kvs) ((k, d) :: kds)
theorem Rpk.mono (le : Le F F') : ∀ {kvs : List (Key × V)} {kds : List (Key × D)}, Rpk K dk F kvs kds → Rpk K dk F' kvs kds
  | _, _, .nil => .nil
  | _, _, .cons a b => .cons (a.mono le) (Rpk.mono le b)
theorem Rpk.length : ∀ {kvs : List (Key × V)} {kds : List (Key × D)}, Rpk K dk F kvs kds → kvs.length = kds.length
  | _, _, .nil => rfl
  | _, _, .cons a b => by simp [Rpk.length b]
theorem mrg_rps : ∀ {kvs : List (Key × V)} {kds : List (Key × D)} (ks : List Key) {vs : List V} {ds : List D}, Rpk K dk F kvs kds → Rps K dk F vs ds → (mrgL ks vs kvs).1 = (mrgL ks ds kds).1 ∧ Rps K dk F (mrgL ks vs kvs).2 (mrgL ks ds kds).2
  | _, _, ks, _, _, .nil, r => ⟨rfl, r⟩
  | _, _, ks, _, _, .cons a b, r => mrg_rps (putKs ks _) b (putVs_rps a r)
abbrev MP := Sg → S → Option (List (Key × D) × S)
def ImP (K : Fg) (trs : List (TE × TE)) (f : MP) : Prop := ∀ (dk : Dk) (H0 : Hp) (F0 F : Fz) (σ : L2.St) (H : Hp) (env : Sg) (st : S) (kds : List (Key × D)) (st' : S), Good K dk H0 F0 F σ H env st → f env st = some (kds, st') →
  ∀ Q : List (V × V) → Hp → Prop, (∀ kvs F' H', Ext dk F H F' H' → Good K dk H0 F0 F' σ H' env st' → Rpk K dk F' kvs kds → Q (kvs.map fun kv => (kV kv.1, kv.2)) H') → tPairs trs σ H Q
def pNil : MP := fun _ st => some ([], st)
theorem ip_nil : ImP K [] pNil := fun dk H0 F0 F σ H env st kds st' g e Q q => by
  cases e
  exact q [] F H (Ext.refl F H) g .nil
def pCons (fk fv : ME) (r : MP) : MP := fun env st => (fk env st).bind fun p => (keyOf p.1).bind fun k => (fv env p.2).bind fun q => (r env q.2).map fun z => ((k, q.1) :: z.1, z.2)
theorem ip_cons {tk tv : TE} {trs : List (TE × TE)} {fk fv : ME} {r : MP} (hk : Im K tk fk) (hv : Im K tv fv) (hr : ImP K trs r) : ImP K ((tk, tv) :: trs) (pCons fk fv r) := fun dk H0 F0 F σ H env st kds st' g e Q q => by
  obtain ⟨⟨y, s1⟩, e1, e⟩ := bnd e
  obtain ⟨k, e2, e⟩ := bnd e
  obtain ⟨⟨d, s2⟩, e3, e⟩ := bnd e
  obtain ⟨⟨kds', s3⟩, e4, e⟩ := mpd e
  cases e
  refine hk dk H0 F0 F σ H env st y s1 g e1 _ fun v F1 H1 x1 g1 r1 => ?_
  refine hv dk H0 F0 F1 σ H1 env s1 d s2 g1 e3 _ fun u F2 H2 x2 g2 r2 => ?_
  refine hr dk H0 F0 F2 σ H2 env s2 kds' _ g2 e4 _ fun kvs F3 H3 x3 g3 r3 => ?_
  have := q ((k, u) :: kvs) F3 H3 (x1.trans (x2.trans x3)) g3 (.cons (r2.mono x3.f) r3)
  rw [List.map_cons] at this
  have hv : v = kV k := keyOf_rw (H := H1) (.rp r1) e2
  rw [hv]
  exact this
def dispK (f : MP) : MK := fun env st => (f env st).bind fun p => if p.1.length ≤ 15 then some (mrgL [] [] p.1, p.2) else none
theorem ik_disp {trs : List (TE × TE)} {f : MP} (h : ImP K trs f) : ImK K (tDisp trs) (dispK f) := fun dk H0 F0 F σ H env st kd st' g e Q q => by
  obtain ⟨⟨kds, s1⟩, e1, e⟩ := bnd e
  dsimp only at e
  split at e
  · rename_i hz
    cases e
    intro p hp
    have nd := g.nedk hp
    have px : Px F H F (upd H p (.dK [])) := Px.lay g.wd.sub hp
    have fp := g.wd.out hp
    refine h dk H0 F0 F σ _ env st kds _ (g.px px) e1 _ fun kvs F1 H1 x1 g1 r1 => ?_
    have h1 : H1 p = some (.dK []) := x1.h _ _ upd_same nd.1 nd.2 (.inl fp.2)
    have f1 : F1.out p := x1.out fp (nn upd_same)
    have no := g.noown hp
    refine ⟨h1, kvs, rfl, by rw [r1.length]; exact hz, ?_⟩
    have g2 : Good K dk H0 F0 F1 σ (upd H1 p (.dK (mergeK [] kvs))) env st' := g1.mutT h1 f1 (g.fresh0 hp) nd.1 nd.2 no
    obtain ⟨z1, z2⟩ := mrg_zip kvs [] [] rfl
    obtain ⟨y1, y2⟩ := mrg_rps (K := K) (dk := dk) (F := F1) [] r1 Rps.nil
    refine q p (mrgL [] [] kvs).2 F1 _ ?_ g2 hp f1 (by rw [upd_same, ← y1]; exact congrArg (fun z => some (HO.dK z)) z1) (by rw [← y1]; exact z2) y2
    exact (px.ext.trans x1).upd hp
  · cases e
/-- {} -/
def newK : MK := fun env st => some (([], []), st)
theorem ik_new : ImK K tDNewK newK := fun dk H0 F0 F σ H env st kd st' g e Q q => by
  cases e
  intro p hp
  have px : Px F H F (upd H p (.dK [])) := Px.lay g.wd.sub hp
  exact q p [] F _ px.ext (g.px px) hp (g.wd.out hp) upd_same rfl .nil
/-- dict(d) -/
def cpyK (f : ME) : MK := fun env st => (f env st).bind fun p => (isDicD (dr p.2 p.1)).map fun q => (q, p.2)
theorem ik_cpy {te : TE} {f : ME} (h : ImW K te f) : ImK K (tCB (fun xs H Q => ∃ (a : Addr) (kvs : List (Key × V)), xs = [.ref a] ∧ Rd H a (.dK kvs) ∧ ∀ p, H p = none → Q (.ref p) (upd H p (.dK kvs))) (tCons te tNil)) (cpyK f) := fun dk H0 F0 F σ H env st kd st' g e Q q => by
  obtain ⟨⟨x, s1⟩, h1, e⟩ := bnd e
  obtain ⟨⟨ks, ds⟩, h2, e⟩ := mpd e
  cases e
  refine h dk H0 F0 F σ H env st x s1 g h1 _ fun v F1 H1 x1 g1 r1 => ?_
  have r3 := r1.dr g1.wd
  rw [isDicD_eq h2] at r3
  obtain ⟨p, vs, rfl, hr, hl, r⟩ := r3.d g1.wd.sub
  refine ⟨p, _, rfl, hr, fun p' hp => ?_⟩
  have px : Px F1 H1 F1 (upd H1 p' (.dK (ks.zip vs))) := Px.lay g1.wd.sub hp
  exact q p' vs F1 _ (x1.trans px.ext) (g1.px px) (x1.back hp) (g1.wd.out hp) upd_same hl r
end
end MD

set_option Elab.async false
set_option linter.all false
set_option maxRecDepth 100000
set_option maxHeartbeats 1000000
namespace MD
open PySem L2

/-! ### things of the store, changed -/
def S.put (st : S) (n : Nat) (o : Ob) : S := { st with ob := st.ob.set n o }
section
variable {K : Fg} {dk : Dk} {F F' F0 : Fz} {H H' H0 : Hp} {σ σ' : L2.St} {env env' : Sg} {st st' st'' : S}
theorem mu_lt {n : Nat} {a : Addr} (h : F.mu[n]? = some a) : n < F.mu.length := by
  by_cases hl : n < F.mu.length
  · exact hl
  · rw [List.getElem?_eq_none (by omega)] at h; cases h
theorem Wd.ndk (w : Wd K dk F H st) {a : Addr} (h : a ∈ F.mu) : a ≠ dk.1 ∧ a ≠ dk.2 := ⟨fun z => w.f1.2 (z ▸ h), fun z => w.f2.2 (z ▸ h)⟩
theorem Wd.put {n : Nat} {a : Addr} {o' : HO} {ob' : Ob} (w : Wd K dk F H st) (hn : F.mu[n]? = some a) (ho : ObAt K dk F (L2.upd H a o') a ob') : Wd K dk F (L2.upd H a o') (st.put n ob') := by
  have hm := List.mem_of_getElem? hn
  obtain ⟨n1, n2⟩ := w.ndk hm
  have hln := mu_lt hn
  obtain ⟨fa, _⟩ := w.ob n a _ hn (List.getElem?_eq_getElem (by rw [← w.ml]; exact hln))
  refine ⟨fun b u e => ?_, by rw [upd_ne n1.symm]; exact w.d1, by rw [upd_ne n2.symm]; exact w.d2, w.f1, w.f2, w.ne, by rw [w.ml]; simp [S.put], w.nd, fun m b u h1 h2 => ?_⟩
  · rw [upd_ne (ne_of_none e fa)]; exact w.sub b u e
  · by_cases hmn : n = m
    · subst hmn
      rw [hn] at h1; cases h1
      have h2' : (st.ob.set n ob')[n]? = some u := h2
      rw [List.getElem?_set_self (by rw [← w.ml]; exact hln)] at h2'
      cases h2'
      exact ⟨fa, ho⟩
    · have h2' : (st.ob.set n ob')[m]? = some u := h2
      rw [List.getElem?_set_ne hmn] at h2'
      obtain ⟨q1, q2⟩ := w.ob m b u h1 h2'
      have nb : b ≠ a := fun z => hmn (by
        subst z
        exact (List.getElem?_inj hln w.nd).mp (hn.trans h1.symm))
      exact ⟨q1, q2.keep (fun _ e => by rw [upd_ne nb]; exact e) (Le.refl F)⟩
theorem Ext.put {n : Nat} {a : Addr} {o o' : HO} (x : Ext dk F0 H0 F H) (hn : F.mu[n]? = some a) (ha : H a = some o) (nf : ¬ Fro o) (nf' : ¬ Fro o') : Ext dk F0 H0 F (L2.upd H a o') := by
  have hm := List.mem_of_getElem? hn
  refine ⟨fun b u e n1 n2 n3 => ?_, x.f, x.n, fun b e z => ?_, x.u, fun b u e f => x.k b u (updK nf' b u e f) f⟩
  · have e' := x.h b u e n1 n2 n3
    by_cases nb : b = a
    · subst nb
      rw [ha] at e'; cases e'
      rcases n3 with n3 | n3
      · rcases x.u b hm with q | q
        · exact absurd q n3
        · rw [q] at e; cases e
      · exact absurd n3 nf
    · rw [upd_ne nb]; exact e'
  · by_cases nb : b = a
    · subst nb; rw [upd_same] at z; cases z
    · rw [upd_ne nb] at z; exact x.m b e z
theorem Good.put {n : Nat} {a : Addr} {o o' : HO} {ob' : Ob} (g : Good K dk H0 F0 F σ H env st) (hn : F.mu[n]? = some a) (ha : H a = some o) (nf : ¬ Fro o) (ho : ObAt K dk F (upd H a o') a ob')
    (nf' : ¬ Fro o' := by rintro ⟨_, _, z⟩; cases z) : Good K dk H0 F0 F σ (upd H a o') env (st.put n ob') := by
  refine ⟨g.wd.put hn ho, g.ext.put hn ha nf nf', g.len, fun i s e => ?_, g.dis⟩
  have q := g.sl i s e
  cases s with
  | un => trivial
  | val d => exact q
  | own ds =>
    obtain ⟨p, vs, h1, h2, h3, h4⟩ := q
    have np : p ≠ a := fun z => h3.2 (z ▸ List.mem_of_getElem? hn)
    exact ⟨p, vs, h1, h2.keep fun o e => by rw [upd_ne np]; exact e, h3, h4⟩
/-! new things of the store -/
def Fz.ad (F : Fz) (p : Addr) : Fz := ⟨F.hp, F.mu ++ [p]⟩
def S.ad (st : S) (o : Ob) : S := { st with ob := st.ob ++ [o] }
theorem Le.ad {p : Addr} : Le F (F.ad p) := ⟨Lh.refl _, [p], rfl⟩
theorem Good.ad {p : Addr} {o : HO} {ob : Ob} (g : Good K dk H0 F0 F σ H env st) (hp : H p = some o) (fp : F.out p) (h0 : H0 p = none) (n1 : p ≠ dk.1) (n2 : p ≠ dk.2)
    (no : ∀ (i : Nat) (ds : Own), env[i]? = some (.own ds) → σ[i]? ≠ some (some (.ref p))) (ho : ObAt K dk (F.ad p) H p ob) : Good K dk H0 F0 (F.ad p) σ H env (st.ad ob) := by
  have le : Le F (F.ad p) := Le.ad
  have w := g.wd
  refine ⟨⟨w.sub, w.d1, w.d2, ⟨w.f1.1, fun z => ?_⟩, ⟨w.f2.1, fun z => ?_⟩, w.ne, ?_, ?_, fun n a u h1 h2 => ?_⟩, ⟨g.ext.h, g.ext.f.trans le, g.ext.n, g.ext.m, fun a ha => ?_, g.ext.k⟩, g.len, fun i s e => ?_, g.dis⟩
  · rcases List.mem_append.mp z with z | z
    · exact w.f1.2 z
    · exact n1 (List.mem_singleton.mp z).symm
  · rcases List.mem_append.mp z with z | z
    · exact w.f2.2 z
    · exact n2 (List.mem_singleton.mp z).symm
  · simp [Fz.ad, S.ad, w.ml]
  · show (F.mu ++ [p]).Nodup
    rw [List.nodup_append]
    refine ⟨w.nd, by simp, fun a ha b hb z => fp.2 ?_⟩
    rw [List.mem_singleton.mp hb] at z
    exact z ▸ ha
  · have h1' : (F.mu ++ [p])[n]? = some a := h1
    have h2' : (st.ob ++ [ob])[n]? = some u := h2
    by_cases hl : n < F.mu.length
    · rw [List.getElem?_append_left hl] at h1'
      rw [List.getElem?_append_left (by rw [← w.ml]; exact hl)] at h2'
      obtain ⟨q1, q2⟩ := w.ob n a u h1' h2'
      exact ⟨q1, q2.keep (fun _ e => e) le⟩
    · have hn : n = F.mu.length := by
        have := mu_lt h1
        simp [Fz.ad] at this
        omega
      subst hn
      rw [List.getElem?_append_right (Nat.le_refl _), Nat.sub_self] at h1'
      rw [w.ml, List.getElem?_append_right (Nat.le_refl _), Nat.sub_self] at h2'
      cases h1'; cases h2'
      exact ⟨fp.1, ho⟩
  · have ha' : a ∈ F.mu ++ [p] := ha
    rcases List.mem_append.mp ha' with z | z
    · exact g.ext.u a z
    · rw [List.mem_singleton.mp z]; exact .inr h0
  · have q := g.sl i s e
    cases s with
    | un => trivial
    | val d => obtain ⟨v, h1, h2⟩ := q; exact ⟨v, h1, h2.mono le⟩
    | own ds =>
      obtain ⟨r, vs, h1, h2, h3, h4, h5, h6, h7⟩ := q
      have nr : r ≠ p := fun z => no i ds e (by rw [← z]; exact join_eq h1)
      refine ⟨r, vs, h1, h2, ⟨h3.1, fun z => ?_⟩, h4, h5, h6, h7.mono le⟩
      rcases List.mem_append.mp z with z | z
      · exact h3.2 z
      · exact nr (List.mem_singleton.mp z)
theorem Ext.ad {p : Addr} (x : Ext dk F H F' H') (hp : H p = none) : Ext dk F H (F'.ad p) H' :=
  ⟨x.h, x.f.trans Le.ad, x.n, x.m, fun a ha => by
    have ha' : a ∈ F'.mu ++ [p] := ha
    rcases List.mem_append.mp ha' with z | z
    · exact x.u a z
    · rw [List.mem_singleton.mp z]; exact .inr hp, x.k⟩
theorem ad_at (w : Wd K dk F H st) (p : Addr) : (F.ad p).mu[st.ob.length]? = some p := by
  show (F.mu ++ [p])[st.ob.length]? = some p
  rw [← w.ml, List.getElem?_append_right (Nat.le_refl _), Nat.sub_self]; rfl
/-- a new list, a new dict for the store -/
def stoL (f : MA) : ME := fun env st => (f env st).map fun p => (.ref p.2.ob.length, p.2.ad (.lst p.1))
theorem ImF.sto {te : TE} {f : MA} (h : ImF K te f) : Im K te (stoL f) := fun dk H0 F0 F σ H env st d st' g e Q q => by
  obtain ⟨⟨ds, s1⟩, h1, h2⟩ := mpd e
  cases h2
  refine h dk H0 F0 F σ H env st ds s1 g h1 Q fun p vs F' H' x g' hp fp hl r => ?_
  have nd := g.nedk hp
  exact q (.ref p) _ H' (x.ad hp) (g'.ad hl fp (g.fresh0 hp) nd.1 nd.2 (g.noown hp) (.lst hl (r.mono Le.ad))) (.ref (ad_at g'.wd p))
def stoK (f : MK) : ME := fun env st => (f env st).map fun p => (.ref p.2.ob.length, p.2.ad (.dic false p.1.1 p.1.2))
theorem ImK.sto {te : TE} {f : MK} (h : ImK K te f) : Im K te (stoK f) := fun dk H0 F0 F σ H env st d st' g e Q q => by
  obtain ⟨⟨⟨ks, ds⟩, s1⟩, h1, h2⟩ := mpd e
  cases h2
  refine h dk H0 F0 F σ H env st _ s1 g h1 Q fun p vs F' H' x g' hp fp hl hl2 r => ?_
  have nd := g.nedk hp
  exact q (.ref p) _ H' (x.ad hp) (g'.ad hl fp (g.fresh0 hp) nd.1 nd.2 (g.noown hp) (.dic hl hl2 (r.mono Le.ad))) (.ref (ad_at g'.wd p))
/-! e.append(x), e[k] = x, of a thing of the store -/
def refOf : D → Option Nat
  | .ref n => some n
  | _ => none
theorem refOf_eq {d : D} {n : Nat} (h : refOf d = some n) : d = .ref n := by
  cases d <;> first | (cases h; rfl) | cases h
def lstAt (st : S) (n : Nat) : Option (List D) := match st.ob[n]? with
  | some (.lst ds) => some ds
  | _ => none
theorem lstAt_eq {n : Nat} {ds : List D} (h : lstAt st n = some ds) : st.ob[n]? = some (.lst ds) := by
  unfold lstAt at h
  split at h
  · rename_i e; cases h; exact e
  · cases h
def dicAt (st : S) (n : Nat) : Option (List Key × List D) := match st.ob[n]? with
  | some (.dic false ks ds) => some (ks, ds)
  | _ => none
theorem dicAt_eq {n : Nat} {q : List Key × List D} (h : dicAt st n = some q) : st.ob[n]? = some (.dic false q.1 q.2) := by
  unfold dicAt at h
  split at h
  · rename_i e; cases h; exact e
  · cases h
theorem Wd.lstAt {n : Nat} {a : Addr} {ds : List D} (w : Wd K dk F H st) (hn : F.mu[n]? = some a) (h : lstAt st n = some ds) : ∃ vs, H a = some (.lst vs) ∧ Rps K dk F vs ds := by
  obtain ⟨_, q⟩ := w.ob n a _ hn (lstAt_eq h)
  cases q with
  | lst h r => exact ⟨_, h, r⟩
theorem Wd.dicAt {n : Nat} {a : Addr} {q : List Key × List D} (w : Wd K dk F H st) (hn : F.mu[n]? = some a) (h : dicAt st n = some q) : ∃ vs, H a = some (.dK (q.1.zip vs)) ∧ q.1.length = vs.length ∧ Rps K dk F vs q.2 := by
  obtain ⟨_, q⟩ := w.ob n a _ hn (dicAt_eq h)
  cases q with
  | dic h l r => exact ⟨_, h, l, r⟩
theorem Rp.refn {v : V} {n : Nat} (r : Rp K dk F v (.ref n)) : ∃ a, v = .ref a ∧ F.mu[n]? = some a := by
  cases r with
  | ref h => exact ⟨_, rfl, h⟩
def sappM (fo f : ME) : MS := fun env st => (fo env st).bind fun o => (refOf o.1).bind fun n => (lstAt o.2 n).bind fun _ => (f env o.2).bind fun p => (lstAt p.2 n).bind fun ds => if ds.length < sizeLine then some (.nx env, p.2.put n (.lst (ds ++ [p.1]))) else none
theorem is_sapp {to te : TE} {fo f : ME} (ho : Im K to fo) (h : Im K te f) : ImS K (tDrop (tBM K "list" rAppend to (tCons te tNil))) (sappM fo f) := fun dk H0 F0 F σ H env st fl st' g e E hd => by
  obtain ⟨⟨x, s1⟩, h1, e⟩ := bnd e
  obtain ⟨n, h2, e⟩ := bnd e
  obtain ⟨_, h0, e⟩ := bnd e
  obtain ⟨⟨d, s2⟩, h3, e⟩ := bnd e
  obtain ⟨ds, h4, e⟩ := bnd e
  split at e
  · rename_i hz
    cases e
    refine ho dk H0 F0 F σ H env st x s1 g h1 _ fun v F1 H1 x1 g1 r1 => ?_
    have hx : x = .ref n := refOf_eq h2
    subst hx
    obtain ⟨a, rfl, ha⟩ := r1.refn
    obtain ⟨vs0, hv0, _⟩ := g1.wd.lstAt ha h0
    refine ⟨.inl ⟨rfl, vs0, SqL.of hv0⟩, ?_⟩
    refine h dk H0 F0 F1 σ H1 env s1 d s2 g1 h3 _ fun u F2 H2 x2 g2 r2 => ?_
    have ha2 := x2.f.at ha
    obtain ⟨vs, hv, rv⟩ := g2.wd.lstAt ha2 h4
    refine ⟨a, vs, u, rfl, rfl, hv, by rw [rv.length]; exact hz, ?_⟩
    exact hd F2 σ _ (x1.f.trans x2.f) (g2.put ha2 hv (by rintro ⟨_, _, z⟩; cases z) (.lst upd_same (rv.append (Rps.one r2))))
  · cases e
def sputM (fo fk fv : ME) : MS := fun env st => (fv env st).bind fun p => (fo env p.2).bind fun o => (refOf o.1).bind fun n => (fk env o.2).bind fun q => (keyOf q.1).bind fun k => (dicAt q.2 n).bind fun z => if z.2.length < sizeLine then some (.nx env, q.2.put n (.dic false (putKs z.1 k) (putVs z.1 z.2 k p.1))) else none
theorem is_sput {to ty tv : TE} {fo fk fv : ME} (ho : Im K to fo) (hk : ImW K ty fk) (hv : Im K tv fv) : ImS K (sDPut to ty tv) (sputM fo fk fv) := fun dk H0 F0 F σ H env st fl st' g e E hd => by
  obtain ⟨⟨d, s1⟩, h1, e⟩ := bnd e
  obtain ⟨⟨x, s2⟩, h2, e⟩ := bnd e
  obtain ⟨n, h3, e⟩ := bnd e
  obtain ⟨⟨y, s3⟩, h4, e⟩ := bnd e
  obtain ⟨k, h5, e⟩ := bnd e
  obtain ⟨⟨ks, ds⟩, h6, e⟩ := bnd e
  split at e
  · rename_i hz
    cases e
    refine hv dk H0 F0 F σ H env st d s1 g h1 _ fun v F1 H1 x1 g1 r1 => ?_
    refine ho dk H0 F0 F1 σ H1 env s1 x s2 g1 h2 _ fun u F2 H2 x2 g2 r2 => ?_
    have hx : x = .ref n := refOf_eq h3
    subst hx
    obtain ⟨a, rfl, ha⟩ := r2.refn
    refine hk dk H0 F0 F2 σ H2 env s2 y s3 g2 h4 _ fun w F3 H3 x3 g3 r3 => ?_
    have ha3 := x3.f.at ha
    obtain ⟨vs, hvs, hl, rv⟩ := g3.wd.dicAt ha3 h6
    refine ⟨a, _, rfl, .inl ⟨ks.zip vs, k, hvs, keyOf_rw r3.w h5, ?_, rfl⟩, ?_⟩
    · have := rv.length
      rw [List.length_zip, hl, Nat.min_self, this]; exact hz
    · refine hd F3 σ _ (x1.f.trans (x2.f.trans x3.f)) (g3.put ha3 hvs (by rintro ⟨_, _, z⟩; cases z) ?_)
      exact .dic (by rw [upd_same]; exact congrArg (fun z => some (HO.dK z)) (put_zip hl)) (put_len hl) (putVs_rps (r1.mono (x2.f.trans x3.f)) rv)
  · cases e
/-! ### locks -/
theorem Good.lock {a : Addr} {od : Obj} {u : HO} (g : Good K dk H0 F0 F σ H env st) (no : ∀ (i : Nat) (ds : Own), env[i]? = some (.own ds) → σ[i]? ≠ some (some (.ref a))) (w : Wd K dk F (upd H a (.frz od u)) st') :
    Good K dk (upd H0 a (.frz od u)) F F σ (upd H a (.frz od u)) env st' := by
  refine ⟨w, ⟨fun b o e n1 n2 n3 => ?_, Le.refl F, fun _ h _ => h, fun b e z => ?_, fun _ h => .inl h, fun b o e f => ?_⟩, g.len, fun i s e => ?_, g.dis⟩
  · by_cases nb : b = a
    · subst nb; rw [upd_same] at e ⊢; exact e
    · rw [upd_ne nb] at e ⊢
      exact g.ext.h b o e n1 n2 (n3.imp (fun n3 z => n3 (g.ext.f.mem z)) id)
  · by_cases nb : b = a
    · subst nb; rw [upd_same] at z; cases z
    · rw [upd_ne nb] at e z; exact g.ext.m b e z
  · by_cases nb : b = a
    · subst nb; rw [upd_same] at e ⊢; exact e
    · rw [upd_ne nb] at e ⊢; exact g.ext.k b o e f
  · have q := g.sl i s e
    cases s with
    | un => trivial
    | val d => exact q
    | own ds =>
      obtain ⟨p, vs, h1, h2, h3, h4, h5⟩ := q
      have np : p ≠ a := fun z => no i ds e (by rw [← z]; exact join_eq h1)
      exact ⟨p, vs, h1, h2.keep fun o e => by rw [upd_ne np]; exact e, h3, by rw [upd_ne np]; exact h4, h5⟩
theorem Ext.unlock {a : Addr} {od : Obj} {u : HO} (x : Ext dk F0 H0 F H) (ha : H a = some u) (nf : ¬ Fro u) (y : Ext dk F (L2.upd H0 a (.frz od u)) F' H') : Ext dk F0 H0 F' (L2.upd H' a u) := by
  refine ⟨fun b o e n1 n2 n3 => ?_, x.f.trans y.f, fun b h1 h2 => ?_, fun b e z => ?_, fun b h => ?_, fun b o e f => ?_⟩
  · by_cases nb : b = a
    · subst nb
      have e' := x.h b o e n1 n2 n3
      rw [ha] at e'; rw [upd_same]; exact e'
    · rw [upd_ne nb]
      refine y.h b o (by rw [upd_ne nb]; exact e) n1 n2 (n3.imp (fun n3 z => ?_) id)
      rcases x.u b z with q | q
      · exact n3 q
      · rw [q] at e; cases e
  · refine y.n b (x.n b h1 h2) ?_
    by_cases nb : b = a
    · subst nb; rw [upd_same]; exact fun z => nomatch z
    · rw [upd_ne nb]; exact h2
  · by_cases nb : b = a
    · subst nb; rw [upd_same] at z; cases z
    · rw [upd_ne nb] at z; exact y.m b (by rw [upd_ne nb]; exact e) z
  · rcases y.u b h with q | q
    · exact x.u b q
    · refine .inr ?_
      by_cases nb : b = a
      · subst nb; rw [upd_same] at q; cases q
      · rw [upd_ne nb] at q; exact q
  · by_cases nb : b = a
    · subst nb; rw [upd_same] at e; cases e; exact absurd f nf
    · rw [upd_ne nb] at e
      have := y.k b o e f
      rw [upd_ne nb] at this; exact this
theorem Good.unlock {a : Addr} {od : Obj} {u : HO} (g : Good K dk H0 F0 F σ H env st) (ha : H a = some u) (nf : ¬ Fro u) (g' : Good K dk (upd H0 a (.frz od u)) F F' σ' H' env' st') (w : Wd K dk F' (upd H' a u) st'') : Good K dk H0 F0 F' σ' (upd H' a u) env' st'' := by
  refine ⟨w, g.ext.unlock ha nf g'.ext, g'.len, fun i s e => ?_, g'.dis⟩
  have q := g'.sl i s e
  cases s with
  | un => trivial
  | val d => exact q
  | own ds =>
    obtain ⟨p, vs, h1, h2, h3, h4, h5⟩ := q
    have np : p ≠ a := fun z => by rw [z, upd_same] at h4; cases h4
    exact ⟨p, vs, h1, h2.keep fun o e => by rw [upd_ne np]; exact e, h3, by rw [upd_ne np] at h4; exact h4, h5⟩
/-- what is locked stays -/
theorem Good.stays {a : Addr} {od : Obj} {u : HO} (g : Good K dk H0 F0 F σ H env st) (ha : H a = some (.frz od u)) (g' : Good K dk H0 F0 F' σ' H' env' st') : H' a = some (.frz od u) := by
  have n1 : a ≠ dk.1 := fun z => by rw [z, g.wd.d1] at ha; cases ha
  have n2 : a ≠ dk.2 := fun z => by rw [z, g.wd.d2] at ha; cases ha
  exact g'.ext.h _ _ (g.ext.k _ _ ha ⟨_, _, rfl⟩) n1 n2 (.inr ⟨_, _, rfl⟩)
theorem Wd.lockF {a : Addr} {od : Obj} {kvs : List (Key × V)} (w : Wd K dk F H st) (ha : F a = some (.dK kvs)) : Wd K dk F (L2.upd H a (.frz od (.dK kvs))) st := by
  have n1 : a ≠ dk.1 := fun z => by rw [z, w.f1.1] at ha; cases ha
  have n2 : a ≠ dk.2 := fun z => by rw [z, w.f2.1] at ha; cases ha
  refine ⟨fun b u e => ?_, by rw [upd_ne n1.symm]; exact w.d1, by rw [upd_ne n2.symm]; exact w.d2, w.f1, w.f2, w.ne, w.ml, w.nd, fun m b u h1 h2 => ?_⟩
  · by_cases nb : b = a
    · subst nb; rw [ha] at e; cases e; rw [upd_same]; exact .inr ⟨od, kvs, rfl, rfl⟩
    · rw [upd_ne nb]; exact w.sub b u e
  · obtain ⟨q1, q2⟩ := w.ob m b u h1 h2
    have nb : b ≠ a := fun z => by rw [z, ha] at q1; cases q1
    exact ⟨q1, q2.keep (fun _ e => by rw [upd_ne nb]; exact e) (Le.refl F)⟩
theorem Wd.unlockF {a : Addr} {kvs : List (Key × V)} (w : Wd K dk F H st) (ha : F a = some (.dK kvs)) : Wd K dk F (L2.upd H a (.dK kvs)) st := by
  have n1 : a ≠ dk.1 := fun z => by rw [z, w.f1.1] at ha; cases ha
  have n2 : a ≠ dk.2 := fun z => by rw [z, w.f2.1] at ha; cases ha
  refine ⟨fun b u e => ?_, by rw [upd_ne n1.symm]; exact w.d1, by rw [upd_ne n2.symm]; exact w.d2, w.f1, w.f2, w.ne, w.ml, w.nd, fun m b u h1 h2 => ?_⟩
  · by_cases nb : b = a
    · subst nb; rw [ha] at e; cases e; rw [upd_same]; exact .inl rfl
    · rw [upd_ne nb]; exact w.sub b u e
  · obtain ⟨q1, q2⟩ := w.ob m b u h1 h2
    have nb : b ≠ a := fun z => by rw [z, ha] at q1; cases q1
    exact ⟨q1, q2.keep (fun _ e => by rw [upd_ne nb]; exact e) (Le.refl F)⟩
/-! ### loops -/
/-- a loop over a walk that is good as long as all is good -/
theorem for_core {g : TG} {tb : TS} {t : MG} {b : MS} {is : List Nat} {ds : List D} {fl : Fl} {J : It} {E : Ends} (hg : ImG K g t is) (hb : ImS K tb b) (gd : Good K dk H0 F0 F σ H env st)
    (sd : ∀ (F2 : Fz) (σ2 : L2.St) (H2 : Hp) (env2 : Sg) (st2 : S), Le F F2 → Good K dk H0 F0 F2 σ2 H2 env2 st2 → ∀ i : Nat, (∀ d, ds[i]? = some d → J.go i H2 ∧ ∀ x H3, J.yld i H2 x H3 → ∃ F3, Px F2 H2 F3 H3 ∧ Rp K dk F3 x d) ∧ (ds.length ≤ i → J.stop i H2))
    (e : forL t b ds env st = some (fl, st')) (hd : Dn K dk H0 F0 F E st' fl) : ∀ (R : Prop), ((∃ W : Nat → Nat → L2.St → Hp → Prop, (∃ m, W 0 m σ H) ∧ ∀ i m σ H, W i m σ H → (J.stop i H ∧ E.nx σ H) ∨ (J.go i H ∧ ∃ Nx : L2.St → Hp → Prop, (∀ σ' H', Nx σ' H' → ∃ m', m' < m ∧ W (i + 1) m' σ' H') ∧ ∀ x H', J.yld i H x H' → g x σ H' fun σ2 H2 => tb ⟨Nx, E.rt, E.nx, Nx⟩ σ2 H2)) → R) → R := by
  intro R hR
  refine hR ?_
  let P : Nat → L2.St → Hp → Prop := fun i σ H => ∃ F2 env st, Le F F2 ∧ Good K dk H0 F0 F2 σ H env st ∧ forL t b (ds.drop i) env st = some (fl, st')
  refine ⟨fun i m σ H => m = ds.length - i ∧ i ≤ ds.length ∧ P i σ H, ⟨_, rfl, Nat.zero_le _, F, env, st, Le.refl F, gd, e⟩, ?_⟩
  rintro i m σ2 H2 ⟨rfl, hle, F2, env2, s2, le2, g2, e2⟩
  by_cases hlt : i < ds.length
  · have hdi : ds[i]? = some ds[i] := List.getElem?_eq_getElem hlt
    obtain ⟨hgo, hy⟩ := (sd F2 σ2 H2 env2 s2 le2 g2 i).1 _ hdi
    refine .inr ⟨hgo, P (i + 1), fun σ' H' hp => ⟨_, by omega, rfl, hlt, hp⟩, fun x H3 hx => ?_⟩
    obtain ⟨F3, px, rx⟩ := hy x H3 hx
    have g3 := g2.px px
    rw [List.drop_eq_getElem_cons hlt] at e2
    obtain ⟨env3, e3, e2⟩ := bnd e2
    obtain ⟨⟨fl3, s3⟩, e4, e2⟩ := bnd e2
    refine hg dk H0 F0 F3 σ2 H3 env2 s2 x _ env3 g3 rx e3 _ fun σ4 g4 _ => ?_
    refine hb dk H0 F0 F3 σ4 H3 env3 s2 fl3 s3 g4 e4 _ ?_
    cases fl3 with
    | nx e5 => exact fun F5 σ5 H5 l5 g5 => ⟨F5, e5, s3, (le2.trans px.f).trans l5, g5, e2⟩
    | ct e5 => exact fun F5 σ5 H5 l5 g5 => ⟨F5, e5, s3, (le2.trans px.f).trans l5, g5, e2⟩
    | bk e5 =>
      cases e2
      exact fun F5 σ5 H5 l5 g5 => hd F5 σ5 H5 ((le2.trans px.f).trans l5) g5
    | rt r =>
      cases e2
      exact hd
  · have ei : i = ds.length := by omega
    subst ei
    rw [List.drop_length] at e2
    cases e2
    exact .inl ⟨(sd F2 σ2 H2 env2 _ le2 g2 ds.length).2 (Nat.le_refl _), hd F2 σ2 H2 le2 g2⟩
end
end MD

set_option Elab.async false
set_option linter.all false
set_option maxRecDepth 100000
set_option maxHeartbeats 1000000
namespace MD
open PySem L2

/-- the walk goes through these data, while what stood stays -/
def StdyX (K : Fg) (dk : Dk) (F : Fz) (H : Hp) (J : It) (ds : List D) : Prop := ∀ (F1 : Fz) (H1 : Hp) (st : S), Le F F1 → Ext dk F H F1 H1 → Wd K dk F1 H1 st → ∀ i : Nat,
  (∀ d, ds[i]? = some d → J.go i H1 ∧ ∀ x H2, J.yld i H1 x H2 → ∃ F2, Px F1 H1 F2 H2 ∧ Rp K dk F2 x d) ∧ (ds.length ≤ i → J.stop i H1)
def ImIX (K : Fg) (wi : TI) (f : MI) : Prop := ∀ (dk : Dk) (H0 : Hp) (F0 F : Fz) (σ : L2.St) (H : Hp) (env : Sg) (st : S) (ds : List D) (st' : S), Good K dk H0 F0 F σ H env st → f env st = some (ds, st') →
  ∀ R : It → Hp → Prop, (∀ J F' H', Ext dk F H F' H' → Good K dk H0 F0 F' σ H' env st' → StdyX K dk F' H' J ds → R J H') → wi σ H R
section
variable {K : Fg} {dk : Dk} {F F' F0 : Fz} {H H' H0 : Hp} {σ σ' : L2.St} {env env' : Sg} {st st' st'' : S}
theorem if_compX {wi : TI} {g : TG} {tt : TT} {te : TE} {vs : List Nat} {it : MI} {t : MG} {c : MT} {f : ME} {is : List Nat} (hi : ImIX K wi it) (hg : ImG K g t is) (ht : ImT K tt c) (he : Im K te f) (hv : ∀ i ∈ is, i ∈ vs) :
    ImF K (tLc wi g tt te vs) (compM it t c f vs) := fun dk H0 F0 F σ H env st out st' gd e Q q => by
  obtain ⟨⟨ds, s1⟩, e1, e⟩ := bnd e
  replace e : (if ds.length ≤ sizeLine then compL t c f (wipeE env vs) ds s1 else none) = some (out, st') := e
  split at e
  · rename_i hz
    refine hi dk H0 F0 F σ H env st ds s1 gd e1 _ fun J F1 H1 x1 g1 sd Dn hD => ?_
    have hDH : H Dn = none := by
      cases w : H Dn with
      | none => rfl
      | some o => exact absurd hD (x1.m Dn (by rw [w]; exact fun z => nomatch z))
    have nd := g1.nedk hD
    have h0D := g1.fresh0 hD
    have noD := g1.noown hD
    have noW : ∀ (j : Nat) (es : Own), (wipeE env vs)[j]? = some (.own es) → (wipe σ vs)[j]? ≠ some (some (.ref Dn)) := fun j es e => by
      rcases wipeE_get e with z | ⟨z1, z2⟩
      · cases z
      · rw [wipe_off z2]; exact noD j es z1
    let P : Nat → Hp → Prop := fun i H => ∃ F2 st2 acc done rest, Le F1 F2 ∧ Ext dk F1 H1 F2 H ∧ Good K dk H0 F0 F2 (wipe σ vs) H (wipeE env vs) st2 ∧ H Dn = some (.lst acc) ∧ F2.out Dn ∧ acc.length ≤ i ∧ Rps K dk F2 acc done ∧
      compL t c f (wipeE env vs) (ds.drop i) st2 = some (rest, st') ∧ done ++ rest = out
    have px0 : Px F1 H1 F1 (upd H1 Dn (.lst [])) := Px.lay g1.wd.sub hD
    refine ⟨fun i m H => m = ds.length - i ∧ i ≤ ds.length ∧ P i H, ⟨_, rfl, Nat.zero_le _, F1, s1, [], [], out, Le.refl F1, px0.ext, (g1.wiped).px px0, upd_same, g1.wd.out hD, Nat.zero_le _, .nil, e, rfl⟩, ?_⟩
    rintro i m H2 ⟨rfl, hle, F2, s2, acc, done, rest, le2, x2, g2, hacc, f2, hal, racc, e2, eo⟩
    by_cases hlt : i < ds.length
    · have hdi : ds[i]? = some ds[i] := List.getElem?_eq_getElem hlt
      obtain ⟨hgo, hy⟩ := (sd F2 H2 s2 le2 x2 g2.wd i).1 _ hdi
      refine .inr ⟨hgo, P (i + 1), fun H' hp => ⟨_, by omega, rfl, hlt, hp⟩, fun x H3 hx => ?_⟩
      obtain ⟨F3, px, rx⟩ := hy x H3 hx
      have g3 := g2.px px
      rw [List.drop_eq_getElem_cons hlt] at e2
      obtain ⟨env3, e3, e2⟩ := bnd e2
      obtain ⟨⟨b, s4⟩, e4, e2⟩ := bnd e2
      refine hg dk H0 F0 F3 (wipe σ vs) H3 (wipeE env vs) s2 x _ env3 g3 rx e3 _ fun σ4 g4 tg => ?_
      have same : ∀ j : Nat, j ∉ vs → σ4[j]? = (wipe σ vs)[j]? ∧ env3[j]? = (wipeE env vs)[j]? := fun j hj => tg.same j fun z => hj (hv j z)
      have weq : wipe σ4 vs = wipe σ vs := by
        rw [wipe_eq tg.len fun j hj => (same j hj).1, wipe_wipe]
      have nD3 : H2 Dn ≠ none := by rw [hacc]; exact fun z => nomatch z
      have back : ∀ {F5 : Fz} {H5 : Hp} {st5 : S}, Good K dk H0 F0 F5 σ4 H5 env3 st5 → Good K dk H0 F0 F5 (wipe σ vs) H5 (wipeE env vs) st5 := fun {F5 H5 st5} g5 =>
        g5.reslot (by rw [wipe_length, wipeE_length]; exact gd.len) fun j s es => by
          rcases wipeE_get es with z | ⟨z1, z2⟩
          · exact .inl z
          · exact .inr ⟨(same j z2).2.trans es, (same j z2).1.symm⟩
      refine ⟨weq, ?_⟩
      refine ht dk H0 F0 F3 σ4 H3 env3 s2 b s4 g4 e4 _ fun F5 H5 x5 g5 => ?_
      have x25 : Ext dk F2 H2 F5 H5 := px.ext.trans x5
      have a5 : H5 Dn = some (.lst acc) := x25.h _ _ hacc nd.1 nd.2 (.inl f2.2)
      have f5 : F5.out Dn := x25.out f2 nD3
      cases b with
      | false =>
        exact ⟨F5, s4, acc, done, rest, le2.trans x25.f, x2.trans x25, back g5, a5, f5, by omega, racc.mono x25.f, e2, eo⟩
      | true =>
        replace e2 : ((f env3 s4).bind fun q => (compL t c f (wipeE env vs) (ds.drop (i + 1)) q.2).map fun r => (q.1 :: r.1, r.2)) = some (rest, st') := e2
        obtain ⟨⟨y, s6⟩, e6, e2⟩ := bnd e2
        obtain ⟨⟨rest', s7⟩, e7, e2⟩ := mpd e2
        cases e2
        refine he dk H0 F0 F5 σ4 H5 env3 s4 y s6 g5 e6 _ fun v F6 H6 x6 g6 r6 => ?_
        have x26 := x25.trans x6
        have a6 : H6 Dn = some (.lst acc) := x26.h _ _ hacc nd.1 nd.2 (.inl f2.2)
        have f6 : F6.out Dn := x26.out f2 nD3
        refine ⟨acc, a6, by omega, F6, s6, acc ++ [v], done ++ [y], rest', le2.trans x26.f, ?_, (back g6).mutT a6 f6 h0D nd.1 nd.2 noW, upd_same, f6, by simp; omega, (racc.mono x26.f).append (Rps.one r6), e7, by rw [← eo]; simp⟩
        exact (x2.trans x26).upd hD
    · have ei : i = ds.length := by omega
      subst ei
      rw [List.drop_length] at e2
      cases e2
      refine .inl ⟨(sd F2 H2 _ le2 x2 g2.wd ds.length).2 (Nat.le_refl _), ?_⟩
      rw [List.append_nil] at eo
      subst eo
      have g9 : Good K dk H0 F0 F2 σ H2 env st' := by
        have gx := g1.step x2 g2.wd
        exact gx
      exact q Dn acc F2 H2 (x1.trans x2) g9 hDH f2 hacc racc
  · cases e
/-! ### {k: v for ..} -/
def dcL (t : MG) (c : MT) (fk fv : ME) (env : Sg) : List D → List Key × List D → S → Option ((List Key × List D) × S)
  | [], a, st => some (a, st)
  | d :: ds, a, st => (t d env).bind fun e => (c e st).bind fun p => if p.1 then (fk e p.2).bind fun x => (keyOf x.1).bind fun k => (fv e x.2).bind fun y => dcL t c fk fv env ds (putKs a.1 k, putVs a.1 a.2 k y.1) y.2 else dcL t c fk fv env ds a p.2
def dcM (it : MI) (t : MG) (c : MT) (fk fv : ME) (vs : List Nat) : MK := fun env st => (it env st).bind fun p => if p.1.length ≤ sizeLine then dcL t c fk fv (wipeE env vs) p.1 ([], []) p.2 else none
theorem putKs_len {ks : List Key} {k : Key} : (putKs ks k).length ≤ ks.length + 1 := by
  unfold putKs
  split
  · omega
  · simp
theorem ik_dc {wi : TI} {g : TG} {tt : TT} {tk tv : TE} {vs : List Nat} {it : MI} {t : MG} {c : MT} {fk fv : ME} {is : List Nat} (hi : ImI K wi it) (hg : ImG K g t is) (ht : ImT K tt c) (hk : Im K tk fk) (he : Im K tv fv) (hv : ∀ i ∈ is, i ∈ vs) :
    ImK K (tDc wi g tt tk tv vs) (dcM it t c fk fv vs) := fun dk H0 F0 F σ H env st out st' gd e Q q => by
  obtain ⟨⟨ds, s1⟩, e1, e⟩ := bnd e
  replace e : (if ds.length ≤ sizeLine then dcL t c fk fv (wipeE env vs) ds ([], []) s1 else none) = some (out, st') := e
  split at e
  · rename_i hz
    refine hi dk H0 F0 F σ H env st ds s1 gd e1 _ fun J F1 H1 x1 g1 sd Dn hD => ?_
    have hDH : H Dn = none := x1.back hD
    have nd := g1.nedk hD
    have h0D := g1.fresh0 hD
    have noD := g1.noown hD
    have noW : ∀ (j : Nat) (es : Own), (wipeE env vs)[j]? = some (.own es) → (wipe σ vs)[j]? ≠ some (some (.ref Dn)) := fun j es e => by
      rcases wipeE_get e with z | ⟨z1, z2⟩
      · cases z
      · rw [wipe_off z2]; exact noD j es z1
    let P : Nat → Hp → Prop := fun i H => ∃ F2 st2 acc ks ks', Le F1 F2 ∧ Ext dk F1 H1 F2 H ∧ Good K dk H0 F0 F2 (wipe σ vs) H (wipeE env vs) st2 ∧ H Dn = some (.dK (ks.zip acc)) ∧ ks.length = acc.length ∧ F2.out Dn ∧ acc.length ≤ i ∧ Rps K dk F2 acc ks' ∧
      dcL t c fk fv (wipeE env vs) (ds.drop i) (ks, ks') st2 = some (out, st')
    have px0 : Px F1 H1 F1 (upd H1 Dn (.dK [])) := Px.lay g1.wd.sub hD
    refine ⟨fun i m H => m = ds.length - i ∧ i ≤ ds.length ∧ P i H, ⟨_, rfl, Nat.zero_le _, F1, s1, [], [], [], Le.refl F1, px0.ext, (g1.wiped).px px0, upd_same, rfl, g1.wd.out hD, Nat.zero_le _, .nil, e⟩, ?_⟩
    rintro i m H2 ⟨rfl, hle, F2, s2, acc, ks, ks', le2, x2, g2, hacc, hkl, f2, hal, racc, e2⟩
    by_cases hlt : i < ds.length
    · have hdi : ds[i]? = some ds[i] := List.getElem?_eq_getElem hlt
      obtain ⟨hgo, hy⟩ := (sd F2 H2 s2 le2 g2.wd i).1 _ hdi
      refine .inr ⟨hgo, P (i + 1), fun H' hp => ⟨_, by omega, rfl, hlt, hp⟩, fun x H3 hx => ?_⟩
      obtain ⟨F3, px, rx⟩ := hy x H3 hx
      have g3 := g2.px px
      rw [List.drop_eq_getElem_cons hlt] at e2
      obtain ⟨env3, e3, e2⟩ := bnd e2
      obtain ⟨⟨b, s4⟩, e4, e2⟩ := bnd e2
      refine hg dk H0 F0 F3 (wipe σ vs) H3 (wipeE env vs) s2 x _ env3 g3 rx e3 _ fun σ4 g4 tg => ?_
      have same : ∀ j : Nat, j ∉ vs → σ4[j]? = (wipe σ vs)[j]? ∧ env3[j]? = (wipeE env vs)[j]? := fun j hj => tg.same j fun z => hj (hv j z)
      have weq : wipe σ4 vs = wipe σ vs := by
        rw [wipe_eq tg.len fun j hj => (same j hj).1, wipe_wipe]
      have nD3 : H2 Dn ≠ none := nn hacc
      have back : ∀ {F5 : Fz} {H5 : Hp} {st5 : S}, Good K dk H0 F0 F5 σ4 H5 env3 st5 → Good K dk H0 F0 F5 (wipe σ vs) H5 (wipeE env vs) st5 := fun {F5 H5 st5} g5 =>
        g5.reslot (by rw [wipe_length, wipeE_length]; exact gd.len) fun j s es => by
          rcases wipeE_get es with z | ⟨z1, z2⟩
          · exact .inl z
          · exact .inr ⟨(same j z2).2.trans es, (same j z2).1.symm⟩
      refine ⟨weq, ?_⟩
      refine ht dk H0 F0 F3 σ4 H3 env3 s2 b s4 g4 e4 _ fun F5 H5 x5 g5 => ?_
      have x25 : Ext dk F2 H2 F5 H5 := px.ext.trans x5
      have a5 : H5 Dn = some (.dK (ks.zip acc)) := x25.h _ _ hacc nd.1 nd.2 (.inl f2.2)
      have f5 : F5.out Dn := x25.out f2 nD3
      cases b with
      | false =>
        exact ⟨F5, s4, acc, ks, ks', le2.trans x25.f, x2.trans x25, back g5, a5, hkl, f5, by omega, racc.mono x25.f, e2⟩
      | true =>
        replace e2 : ((fk env3 s4).bind fun x => (keyOf x.1).bind fun k => (fv env3 x.2).bind fun y => dcL t c fk fv (wipeE env vs) (ds.drop (i + 1)) (putKs ks k, putVs ks ks' k y.1) y.2) = some (out, st') := e2
        obtain ⟨⟨y, s6⟩, e6, e2⟩ := bnd e2
        obtain ⟨k, ek, e2⟩ := bnd e2
        obtain ⟨⟨z, s7⟩, e7, e2⟩ := bnd e2
        refine hk dk H0 F0 F5 σ4 H5 env3 s4 y s6 g5 e6 _ fun v F6 H6 x6 g6 r6 => ?_
        refine he dk H0 F0 F6 σ4 H6 env3 s6 z s7 g6 e7 _ fun u F7 H7 x7 g7 r7 => ?_
        have x27 := (x25.trans x6).trans x7
        have a7 : H7 Dn = some (.dK (ks.zip acc)) := x27.h _ _ hacc nd.1 nd.2 (.inl f2.2)
        have f7 : F7.out Dn := x27.out f2 nD3
        have hzl : (ks.zip acc).length = acc.length := by rw [List.length_zip, hkl, Nat.min_self]
        refine ⟨ks.zip acc, k, keyOf_rw (H := H6) (.rp r6) ek, a7, by rw [hzl]; omega, F7, s7, putVs ks acc k u, putKs ks k, putVs ks ks' k z, le2.trans x27.f, (x2.trans x27).upd hD, (back g7).mutT a7 f7 h0D nd.1 nd.2 noW, by rw [upd_same]; exact congrArg (fun z => some (HO.dK z)) (put_zip hkl), put_len hkl, f7, ?_, putVs_rps r7 (racc.mono x27.f), e2⟩
        rw [← put_len hkl]
        have := putKs_len (ks := ks) (k := k)
        omega
    · have ei : i = ds.length := by omega
      subst ei
      rw [List.drop_length] at e2
      cases e2
      refine .inl ⟨(sd F2 H2 _ le2 g2.wd ds.length).2 (Nat.le_refl _), ?_⟩
      have g9 : Good K dk H0 F0 F2 σ H2 env st' := g1.step x2 g2.wd
      exact q Dn acc F2 H2 (x1.trans x2) g9 hDH f2 hacc hkl racc
  · cases e
/-! ### walks over the keys of a dict -/
/-- an expression that only looks: a name, a field -/
def Pth (K : Fg) (te : TE) (f : ME) : Prop := ∀ (dk : Dk) (H0 : Hp) (F0 F : Fz) (σ : L2.St) (H : Hp) (env : Sg) (st : S) (d : D) (st' : S), Good K dk H0 F0 F σ H env st → f env st = some (d, st') →
  st' = st ∧ ∃ v, Rp K dk F v d ∧ (∀ Q : VK, Q v H → te σ H Q) ∧ ∀ (a : Addr) (od : Obj) (kvs : List (Key × V)), H a = some (.dK kvs) → ∀ Q : VK, Q v (upd H a (.frz od (.dK kvs))) → te σ (upd H a (.frz od (.dK kvs))) Q
theorem pth_var (i : Nat) : Pth K (tVar i) (rd i) := fun dk H0 F0 F σ H env st d st' g e => by
  unfold rd at e
  split at e
  · rename_i d' he
    cases e
    obtain ⟨v, h1, h2⟩ := g.sl i _ he
    exact ⟨rfl, v, h2, fun Q q => ⟨v, join_eq h1, q⟩, fun a od kvs _ Q q => ⟨v, join_eq h1, q⟩⟩
  · cases e
theorem itk_ok {a : Addr} {od : Obj} {ks : List Key} {vs : List V} (hl : ks.length = vs.length) (w : Wd K dk F H st) (ha : H a = some (.frz od (.dK (ks.zip vs)))) (i : Nat) :
    (∀ d, (ks.map keyD)[i]? = some d → (Itk a od (ks.zip vs)).go i H ∧ ∀ x H3, (Itk a od (ks.zip vs)).yld i H x H3 → ∃ F3, Px F H F3 H3 ∧ Rp K dk F3 x d) ∧ ((ks.map keyD).length ≤ i → (Itk a od (ks.zip vs)).stop i H) := by
  have hz : (ks.zip vs).length = ks.length := by rw [List.length_zip, hl, Nat.min_self]
  refine ⟨fun d hd => ?_, fun h => ⟨ha, by rw [hz]; simpa using h⟩⟩
  rw [List.getElem?_map] at hd
  obtain ⟨k, hk, rfl⟩ := mpd hd
  have hj : i < ks.length := by
    by_cases hl : i < ks.length
    · exact hl
    · rw [List.getElem?_eq_none (by omega)] at hk; cases hk
  refine ⟨⟨ha, by rw [hz]; exact hj⟩, fun y H2 hy => ?_⟩
  obtain ⟨e1, k', v', hkv, e2⟩ := hy
  subst e1 e2
  have : k' = k := by
    have hh := congrArg (Option.map Prod.fst) hkv
    rw [← List.getElem?_map, List.map_fst_zip (by omega), hk] at hh
    exact (Option.some.inj hh).symm
  subst this
  exact ⟨F, Px.refl w.sub, keyD_rp k'⟩
theorem for_keys {te : TE} {g : TG} {tb : TS} {t : MG} {b : MS} {is : List Nat} {a : Addr} {od : Obj} {ks : List Key} {vs : List V} {fl : Fl} {E : Ends} (hg : ImG K g t is) (hb : ImS K tb b) (gd : Good K dk H0 F0 F σ H env st)
    (ha : H a = some (.frz od (.dK (ks.zip vs)))) (hl : ks.length = vs.length) (hte : ∀ Q : VK, Q (.ref a) H → te σ H Q) (e : forL t b (ks.map keyD) env st = some (fl, st')) (hd : Dn K dk H0 F0 F E st' fl) : tFor (iKeys te) g tb E σ H := by
  refine hte _ ⟨a, od, rfl, .inl ⟨_, ha, ?_⟩⟩
  exact for_core hg hb gd (fun F2 σ2 H2 env2 st2 le g2 i => itk_ok hl g2.wd (gd.stays ha g2) i) e hd _ id
def tForK (te : TE) (g : TG) (tb : TS) : TS := fun E σ H => tLock (tFor (iKeys te) g tb) E σ H ∨ tFor (iKeys te) g tb E σ H
def unl (st : S) (n : Nat) : S := match st.ob[n]? with
  | some (.dic _ ks ds) => st.put n (.dic false ks ds)
  | _ => st
def lck (st : S) (n : Nat) : S := match st.ob[n]? with
  | some (.dic _ ks ds) => st.put n (.dic true ks ds)
  | _ => st
def forK (f : ME) (t : MG) (b : MS) : MS := fun env st => (f env st).bind fun p => match p.1 with
  | .dic ks _ => forL t b (ks.map keyD) env st
  | .ref n => match st.ob[n]? with
    | some (.dic false ks _) => (forL t b (ks.map keyD) env (lck st n)).map fun r => (r.1, unl r.2 n)
    | some (.dic true ks _) => forL t b (ks.map keyD) env st
    | _ => none
  | _ => none
theorem nfk {kvs : List (Key × V)} : ¬ Fro (.dK kvs) := by rintro ⟨_, _, z⟩; cases z
theorem Wd.lckS {n : Nat} {a : Addr} {od : Obj} {ks : List Key} {vs : List V} {ds : List D} (w : Wd K dk F H st) (hn : F.mu[n]? = some a) (ho : st.ob[n]? = some (.dic false ks ds)) (hl : ks.length = vs.length) (r : Rps K dk F vs ds) :
    Wd K dk F (L2.upd H a (.frz od (.dK (ks.zip vs)))) (lck st n) := by
  unfold lck
  rw [ho]
  exact w.put hn (.lck upd_same hl r)
theorem Wd.unlS {n : Nat} {a : Addr} {od : Obj} {kvs : List (Key × V)} (w : Wd K dk F H st) (hn : F.mu[n]? = some a) (ha : H a = some (.frz od (.dK kvs))) : Wd K dk F (L2.upd H a (.dK kvs)) (unl st n) := by
  have hlt : n < st.ob.length := by rw [← w.ml]; exact mu_lt hn
  obtain ⟨q1, q2⟩ := w.ob n a _ hn (List.getElem?_eq_getElem hlt)
  unfold unl
  rw [List.getElem?_eq_getElem hlt]
  generalize st.ob[n] = o at q2
  cases q2 with
  | lst h r => rw [ha] at h; cases h
  | dic h l r => rw [ha] at h; cases h
  | lck h l r =>
    rw [ha] at h
    cases h
    exact w.put hn (.dic upd_same l r)
  | ins c h l r => rw [ha] at h; cases h
theorem Dn.unlock {a : Addr} {od : Obj} {u : HO} {fl : Fl} {E : Ends} (g : Good K dk H0 F0 F σ H env st) (ha : H a = some u) (nf : ¬ Fro u) (hs : ∀ F' H', Wd K dk F' H' st' → Le F F' → H' a = some (.frz od u) → Wd K dk F' (L2.upd H' a u) st'')
    (n1 : a ≠ dk.1) (n2 : a ≠ dk.2) (hd : Dn K dk H0 F0 F E st'' fl) :
    Dn K dk (L2.upd H0 a (.frz od u)) F F ⟨fun σ' H' => H' a = some (.frz od u) ∧ E.nx σ' (L2.upd H' a u), fun v H' => H' a = some (.frz od u) ∧ E.rt v (L2.upd H' a u), fun σ' H' => H' a = some (.frz od u) ∧ E.bk σ' (L2.upd H' a u), fun σ' H' => H' a = some (.frz od u) ∧ E.ct σ' (L2.upd H' a u)⟩ st' fl := by
  have key : ∀ {F' : Fz} {H' : Hp}, Ext dk F (L2.upd H0 a (.frz od u)) F' H' → H' a = some (.frz od u) := fun x => x.h _ _ upd_same n1 n2 (.inr ⟨_, _, rfl⟩)
  cases fl with
  | nx env' => exact fun F' σ' H' le g' => ⟨key g'.ext, hd F' σ' _ le (g.unlock ha nf g' (hs F' H' g'.wd le (key g'.ext)))⟩
  | bk env' => exact fun F' σ' H' le g' => ⟨key g'.ext, hd F' σ' _ le (g.unlock ha nf g' (hs F' H' g'.wd le (key g'.ext)))⟩
  | ct env' => exact fun F' σ' H' le g' => ⟨key g'.ext, hd F' σ' _ le (g.unlock ha nf g' (hs F' H' g'.wd le (key g'.ext)))⟩
  | rt d => exact fun v F' H' x w r => ⟨key x, hd v F' _ (g.ext.unlock ha nf x) (hs F' H' w x.f (key x)) r⟩
theorem is_forK {te : TE} {f : ME} {g : TG} {tb : TS} {t : MG} {b : MS} {is : List Nat} (hp : Pth K te f) (hg : ImG K g t is) (hb : ImS K tb b) : ImS K (tForK te g tb) (forK f t b) := fun dk H0 F0 F σ H env st fl st' gd e E hd => by
  obtain ⟨⟨d, s1⟩, e1, e⟩ := bnd e
  obtain ⟨es, v, r, q1, q2⟩ := hp dk H0 F0 F σ H env st d s1 gd e1
  cases d with
  | dic ks ds =>
    dsimp only at e
    cases r with
    | @dic a _ vs _ ha hl r =>
      have n1 : a ≠ dk.1 := fun z => by rw [z, gd.wd.f1.1] at ha; cases ha
      have n2 : a ≠ dk.2 := fun z => by rw [z, gd.wd.f2.1] at ha; cases ha
      have no : ∀ (i : Nat) (ds : Own), env[i]? = some (.own ds) → σ[i]? ≠ some (some (.ref a)) := fun i ds hi hs => by
        obtain ⟨p, _, h1, _, h3, _⟩ := gd.sl i _ hi
        rw [hs] at h1
        cases h1
        have h31 := h3.1
        rw [ha] at h31; cases h31
      rcases gd.wd.sub a _ ha with hH | ⟨od, kvs, ek, hH⟩
      · refine .inl ⟨a, _, hH, trivial, fun od => ?_⟩
        have gl := gd.lock (od := od) no (gd.wd.lockF ha)
        refine for_keys hg hb gl upd_same hl (q2 a od _ hH) e (Dn.unlock gd hH nfk (fun F' H' w le _ => w.unlockF (le.h _ _ ha)) n1 n2 hd)
      · exact .inr (for_keys hg hb gd hH hl q1 e hd)
  | ref n =>
    cases r with
    | @ref a _ hn =>
      have hm := List.mem_of_getElem? hn
      obtain ⟨n1, n2⟩ := gd.wd.ndk hm
      have no : ∀ (i : Nat) (ds : Own), env[i]? = some (.own ds) → σ[i]? ≠ some (some (.ref a)) := fun i ds hi hs => by
        obtain ⟨p, _, h1, _, h3, _⟩ := gd.sl i _ hi
        rw [hs] at h1
        cases h1
        exact h3.2 hm
      dsimp only at e
      split at e
      · rename_i ks ds ho
        obtain ⟨⟨fl2, s2⟩, e2, e⟩ := mpd e
        cases e
        obtain ⟨_, ob⟩ := gd.wd.ob n a _ hn ho
        cases ob with
        | @dic _ vs _ hH hl r =>
          refine .inl ⟨a, _, hH, trivial, fun od => ?_⟩
          have gl := gd.lock (od := od) no (gd.wd.lckS hn ho hl r)
          refine for_keys hg hb gl upd_same hl (q2 a od _ hH) e2 (Dn.unlock gd hH nfk (fun F' H' w le hf => w.unlS (le.at hn) hf) n1 n2 hd)
      · rename_i ks ds ho
        obtain ⟨_, ob⟩ := gd.wd.ob n a _ hn ho
        cases ob with
        | lck hH hl r => exact .inr (for_keys hg hb gd hH hl q1 e hd)
      · cases e
  | _ => cases e
/-! comprehensions over the keys of a frozen dict -/
def keysI (f : ME) : MI := fun env st => (f env st).bind fun p => (isDicD p.1).map fun q => (q.1.map keyD, p.2)
def tLcK (te : TE) (g : TG) (tt : TT) (tv : TE) (vs : List Nat) : TE := fun σ H Q => tLockE (tLc (iKeys te) g tt tv vs) σ H Q ∨ tLc (iKeys te) g tt tv vs σ H Q
/-- the walk over a locked dict -/
def wK (te : TE) : TI := iKeys te
theorem if_compK {te : TE} {f : ME} {g : TG} {tt : TT} {tv : TE} {vs : List Nat} {t : MG} {c : MT} {fv : ME} {is : List Nat} (hp : Pth K te f) (hg : ImG K g t is) (ht : ImT K tt c) (he : Im K tv fv) (hv : ∀ i ∈ is, i ∈ vs) :
    ImF K (tLcK te g tt tv vs) (compM (keysI f) t c fv vs) := fun dk H0 F0 F σ H env st out st' gd e Q q => by
  obtain ⟨⟨ds, s1⟩, e1, e'⟩ := bnd e
  obtain ⟨⟨d, s2⟩, e2, e3⟩ := bnd e1
  obtain ⟨⟨ks, es⟩, e4, e5⟩ := mpd e3
  cases e5
  obtain ⟨hs, v, r, q1, q2⟩ := hp dk H0 F0 F σ H env st d _ gd e2
  have hs' : s2 = st := hs
  subst hs'
  have hd' : d = .dic ks es := isDicD_eq e4
  subst hd'
  -- the comprehension at a heap where the dict is locked
  have core : ∀ {a : Addr} {od : Obj} {us : List V} {H0' H1 : Hp} {F0' : Fz} (Q' : VK), Good K dk H0' F0' F σ H1 env s2 → H1 a = some (.frz od (.dK (ks.zip us))) → ks.length = us.length → (∀ Q : VK, Q (.ref a) H1 → te σ H1 Q) →
      (∀ p vs F' H', Ext dk F H1 F' H' → Good K dk H0' F0' F' σ H' env st' → H1 p = none → F'.out p → H' p = some (.lst vs) → Rps K dk F' vs out → Q' (.ref p) H') → tLc (iKeys te) g tt tv vs σ H1 Q' := by
    intro a od us H0' H1 F0' Q' g1 ha hl hte hq
    have n1 : a ≠ dk.1 := fun z => by rw [z, g1.wd.d1] at ha; cases ha
    have n2 : a ≠ dk.2 := fun z => by rw [z, g1.wd.d2] at ha; cases ha
    let wi : TI := fun σ' H' R => σ' = σ → H' = H1 → iKeys te σ' H' R
    have hx : tLc wi g tt tv vs σ H1 Q' := if_compX (wi := fun σ' H' R => σ' = σ → H' = H1 → iKeys te σ' H' R) (it := fun _ s => some (ks.map keyD, s)) (fun dk2 H02 F02 F2 σ2 H2 env2 st2 ds2 st2' gd2 ee2 R qq => by
        intro z1 z2
        cases ee2
        subst z1 z2
        exact hte _ ⟨a, od, rfl, .inl ⟨_, ha, qq _ F2 _ (Ext.refl _ _) gd2 fun F3 H3 st3 le x w i => by
          have n1' : a ≠ dk2.1 := fun z => by rw [z, gd2.wd.d1] at ha; cases ha
          have n2' : a ≠ dk2.2 := fun z => by rw [z, gd2.wd.d2] at ha; cases ha
          exact itk_ok hl w (x.h _ _ ha n1' n2' (.inr ⟨_, _, rfl⟩)) i⟩⟩) hg ht he hv dk H0' F0' F σ H1 env s2 out st' g1 e' Q' hq
    exact hx rfl rfl
  cases r with
  | @dic a _ us _ ha hl r =>
    rcases gd.wd.sub a _ ha with hH | ⟨od, kvs, ek, hH⟩
    · have no : ∀ (i : Nat) (ds : Own), env[i]? = some (.own ds) → σ[i]? ≠ some (some (.ref a)) := fun i ds hi hs => by
        obtain ⟨p, _, h1, _, h3, _⟩ := gd.sl i _ hi
        rw [hs] at h1
        cases h1
        have h31 := h3.1
        rw [ha] at h31; cases h31
      have n1 : a ≠ dk.1 := fun z => by rw [z, gd.wd.f1.1] at ha; cases ha
      have n2 : a ≠ dk.2 := fun z => by rw [z, gd.wd.f2.1] at ha; cases ha
      refine .inl ⟨a, _, hH, trivial, fun od => ?_⟩
      have gl := gd.lock (od := od) no (gd.wd.lockF ha)
      refine core _ gl upd_same hl (q2 a od _ hH) fun p ws F' H' x g' hp' fp' hl' r' => ?_
      have hk : H' a = some (.frz od (.dK (ks.zip us))) := x.h _ _ upd_same n1 n2 (.inr ⟨_, _, rfl⟩)
      have np : p ≠ a := fun z => by rw [z, upd_same] at hp'; cases hp'
      have hpH : H p = none := by rw [upd_ne np] at hp'; exact hp'
      refine ⟨hk, q p ws F' _ ?_ (gd.unlock hH nfk g' (g'.wd.unlockF (x.f.h _ _ ha))) hpH fp' (by rw [upd_ne np]; exact hl') r'⟩
      refine ⟨fun b o e m1 m2 m3 => ?_, x.f, fun b h1 h2 => ?_, fun b h z => ?_, fun b h => ?_, fun b o e fo => ?_⟩
      · by_cases nb : b = a
        · subst nb; rw [upd_same, ← e, hH]
        · rw [upd_ne nb]; exact x.h b o (by rw [upd_ne nb]; exact e) m1 m2 m3
      · refine x.n b h1 ?_
        by_cases nb : b = a
        · subst nb; exact nn upd_same
        · rw [upd_ne nb]; exact h2
      · by_cases nb : b = a
        · subst nb; rw [upd_same] at z; cases z
        · rw [upd_ne nb] at z; exact x.m b (by rw [upd_ne nb]; exact h) z
      · rcases x.u b h with z | z
        · exact .inl z
        · by_cases nb : b = a
          · subst nb; rw [upd_same] at z; cases z
          · rw [upd_ne nb] at z; exact .inr z
      · by_cases nb : b = a
        · subst nb; rw [upd_same] at e; cases e; exact absurd fo nfk
        · rw [upd_ne nb] at e
          have := x.k b o e fo
          rw [upd_ne nb] at this; exact this
    · exact .inr (core _ gd hH hl q1 q)
end
end MD

set_option Elab.async false
set_option linter.all false
set_option maxRecDepth 100000
set_option maxHeartbeats 4000000
namespace MD
open PySem PySem.Spec PyProof.Rows L2

/-! ### tuple * int, where the tuple itself or no item comes out -/
theorem tuple_mulS (l : Addr) (items : Array Value) (n : Nat) (dd : Option Addr) (sl : Array (Option Value)) (x : Int) (u : Tok) (c0 : (decide (x < -(2 ^ 63)) || decide (x ≥ 2 ^ 63)) = false) (c1 : (items.isEmpty || x == 1) = true) :
    Meets (Builtin.«tuple.__mul__» ⟨[.ref l, .int x u], []⟩) (fun _ R s => s.heap.get? l = some { cls := .type "tuple", dict := dd, data := .seq items n, slots := sl } ∧ R (.ok (.ret (Value.ref l))) s) :=
  .of_wp fun prog w A R s h => by
    obtain ⟨hp, g, d, tk, os⟩ := s
    obtain ⟨hl, h⟩ := h
    have f1 := AutoSeq1.idx_int
    wp_walk using wpAny_loadPart' hl
    repeat (first
      | (refine wpAny_ite_false (decide_eq_false (by rw [c0]; exact Bool.false_ne_true)) ?_; wp_walk using wpAny_loadPart' hl)
      | (refine wpAny_ite_true (decide_eq_true c1) ?_; wp_walk using wpAny_loadPart' hl))
    exact ⟨_, rfl, h⟩
theorem tuple_mulE (l : Addr) (items : Array Value) (n : Nat) (dd : Option Addr) (sl : Array (Option Value)) (x : Int) (u : Tok) (c0 : (decide (x < -(2 ^ 63)) || decide (x ≥ 2 ^ 63)) = false) (c1 : (items.isEmpty || x == 1) = false) (c2 : (decide (x ≤ 0) || items.isEmpty) = true) :
    Meets (Builtin.«tuple.__mul__» ⟨[.ref l, .int x u], []⟩) (fun _ R s => s.heap.get? l = some { cls := .type "tuple", dict := dd, data := .seq items n, slots := sl } ∧
      R (.ok (.ret (Value.ref s.heap.objs.size))) { s with heap := s.heap.push { cls := Value.type "tuple", data := Data.seq #[] }, toks := s.toks }) :=
  .of_wp fun prog w A R s h => by
    obtain ⟨hp, g, d, tk, os⟩ := s
    obtain ⟨hl, h⟩ := h
    have f1 := AutoSeq1.idx_int
    wp_walk using wpAny_loadPart' hl
    repeat (first
      | (refine wpAny_ite_false (decide_eq_false (by rw [c0]; exact Bool.false_ne_true)) ?_; wp_walk using wpAny_loadPart' hl)
      | (refine wpAny_ite_false (decide_eq_false (by rw [c1]; exact Bool.false_ne_true)) ?_; wp_walk using wpAny_loadPart' hl)
      | (refine wpAny_ite_true (decide_eq_true c2) ?_; wp_walk using wpAny_loadPart' hl))
    exact ⟨_, rfl, h⟩
def rRepS (K : Fg) : R2 := fun x y H Q => ∃ l k xs, x = .ref l ∧ y = .int k ∧ SqT K H l xs ∧ -1000 ≤ k ∧ k ≤ 1000 ∧ (((xs = [] ∨ k = 1) ∧ Q (.ref l) H) ∨ (xs ≠ [] ∧ k ≤ 0 ∧ ∀ p, H p = none → Q (.ref p) (upd H p (.tup []))))
theorem op_repS {X : Cx} : OpR X (binaryOp .Mult) (rRepS X.K) := by
  intro pins s σ H x y v u Q I rx ry h
  obtain ⟨l, k, xs, rfl, rfl, hT, h1, h2, q⟩ := h
  cases rx
  obtain ⟨t, rfl⟩ := ry
  obtain ⟨its, r, ⟨⟨cls, dd, data, sl⟩, ho, hc, n, hd⟩, hs⟩ := I.tuple hT
  simp only at hc hd
  subst hc hd
  have hle : its.length = xs.length := r.length.symm
  have c0 : (decide (k < -(2 ^ 63)) || decide (k ≥ 2 ^ 63)) = false := by
    rw [decide_eq_false (by omega), decide_eq_false (by omega)] <;> rfl
  rcases q with ⟨hc, q⟩ | ⟨hne, hk, q⟩
  · have c1 : (its.toArray.isEmpty || k == 1) = true := by
      rcases hc with hc | hc
      · have : its = [] := List.eq_nil_of_length_eq_zero (by rw [hle, hc]; rfl)
        subst this; rfl
      · subst hc; simp
    refine wpAny_binaryOp_repeat_ref (T := "tuple") (U := "int") (by decide) ⟨_, ho, rfl⟩ (fun s' => typeIs_int s' k t) noFill_tuple_mul F.fills_int_mul F.slot_int_rmul repeat_tuple F.slot_int_index.lookup
      (call_meets F.slot_int_rmul (typeIs_int s k t) F.entry_int_rmul (F.args_int_rmul_2 _ _) (int_rmul_tuple k t l its.toArray n dd sl)
        ⟨ho, rfl, ⟨_, ho, rfl⟩, call_meets F.slot_tuple_mul ⟨_, ho, rfl⟩ F.entry_tuple_mul (F.args_tuple_mul_2 _ _) (tuple_mulS l its.toArray n dd sl k t c0 c1) ⟨ho, ?_⟩⟩)
    exact ⟨.ref l, H, I, rfl, q⟩
  · have hn : its ≠ [] := fun e => hne (by
      rw [e] at hle
      exact List.eq_nil_of_length_eq_zero hle.symm)
    have hi : its.toArray.isEmpty = false := by
      cases its with
      | nil => exact absurd rfl hn
      | cons a b => rfl
    have c1 : (its.toArray.isEmpty || k == 1) = false := by
      rw [hi, Bool.false_or]
      exact beq_eq_false_iff_ne.mpr (by omega)
    have c2 : (decide (k ≤ 0) || its.toArray.isEmpty) = true := by rw [decide_eq_true hk]; rfl
    refine wpAny_binaryOp_repeat_ref (T := "tuple") (U := "int") (by decide) ⟨_, ho, rfl⟩ (fun s' => typeIs_int s' k t) noFill_tuple_mul F.fills_int_mul F.slot_int_rmul repeat_tuple F.slot_int_index.lookup
      (call_meets F.slot_int_rmul (typeIs_int s k t) F.entry_int_rmul (F.args_int_rmul_2 _ _) (int_rmul_tuple k t l its.toArray n dd sl)
        ⟨ho, rfl, ⟨_, ho, rfl⟩, call_meets F.slot_tuple_mul ⟨_, ho, rfl⟩ F.entry_tuple_mul (F.args_tuple_mul_2 _ _) (tuple_mulE l its.toArray n dd sl k t c0 c1 c2) ⟨ho, ?_⟩⟩)
    refine ⟨.ref s.heap.objs.size, _, I.laid (t' := s.toks) (o := .tup []) (fun b ob q => Heap.get?_push_of_some _ q) (Nat.le_refl _) ?_, rfl, q _ (I.hok.fresh (Nat.le_refl _))⟩
    exact ⟨by show 0 ≤ sizeLine; exact Nat.zero_le _, [], .nil, IsTup.new _ _⟩
section
variable {K : Fg} {dk : Dk} {F F' F0 : Fz} {H H' H0 : Hp} {σ σ' : L2.St} {env env' : Sg} {st st' st'' : S}
def rMulA (K : Fg) : R2 := fun x y H Q => rI CMul (fun i j => .int (i * j)) x y H Q ∨ rRepT K x y H Q ∨ rRepS K x y H Q ∨ rRep x y H Q
theorem op_mulA {X : Cx} : OpR X (binaryOp .Mult) (rMulA X.K) := OpR.or op_mul (OpR.or op_repT (OpR.or op_repS op_rep))
def mulA : D → D → Option D
  | .tup ds, .int k => if ds.length ≤ 1000 ∧ -1000 ≤ k ∧ k ≤ 1000 then some (.tup (List.replicate k.toNat ds).flatten) else none
  | .lst ds, .int k => if ds.length ≤ 1000 ∧ -1000 ≤ k ∧ k ≤ 1000 then some (.lst (List.replicate k.toNat ds).flatten) else none
  | d, e => mulM d e
theorem Rps.rep {vs : List V} {ds : List D} (r : Rps K dk F vs ds) : ∀ (n : Nat), Rps K dk F (List.replicate n vs).flatten (List.replicate n ds).flatten
  | 0 => .nil
  | n + 1 => by
    rw [List.replicate_succ, List.replicate_succ, List.flatten_cons, List.flatten_cons]
    exact r.append (Rps.rep r n)
theorem flat_nil {α : Type} (n : Nat) : (List.replicate n ([] : List α)).flatten = [] := by
  induction n with
  | zero => rfl
  | succ n ih => rw [List.replicate_succ, List.flatten_cons, ih]; rfl
theorem ro_mulA : RO K (rMulA K) mulA := by
  intro dk F H st x y d e z w rx ry hz Q q
  unfold mulA at hz
  split at hz
  · rename_i ds k
    split at hz
    · rename_i hc
      cases hz
      obtain ⟨p, vs, rfl, hp, r⟩ := rx.tup w.sub
      cases ry.int
      by_cases h1 : ds = [] ∨ k = 1
      · refine .inr (.inr (.inl ⟨p, k, vs, rfl, rfl, hp, hc.2.1, hc.2.2, .inl ⟨?_, ?_⟩⟩))
        · rcases h1 with h1 | h1
          · subst h1; cases r; exact .inl rfl
          · exact .inr h1
        · have e : (List.replicate k.toNat ds).flatten = ds := by
            rcases h1 with h1 | h1
            · subst h1; exact flat_nil _
            · subst h1; simp
          rw [e] at q
          exact q _ F H (Px.refl w.sub) rx.tp
      · have hn : vs ≠ [] := fun z => h1 (.inl (by subst z; cases r; rfl))
        by_cases h2 : k ≤ 0
        · refine .inr (.inr (.inl ⟨p, k, vs, rfl, rfl, hp, hc.2.1, hc.2.2, .inr ⟨hn, h2, fun a ha => ?_⟩⟩))
          have px : Px F H (F.up a (.tup [])) (upd H a (.tup [])) := Px.new w.sub ha
          have e : k.toNat = 0 := by omega
          rw [e] at q
          exact q _ _ _ px (.tup (SqT.of Fz.up_same) .nil)
        · have h3 : k ≠ 1 := fun z => h1 (.inr z)
          refine .inr (.inl ⟨p, k, vs, rfl, rfl, hp, hn, by omega, hc.2.2, by rw [r.length]; exact hc.1, fun a ha => ?_⟩)
          have px : Px F H (F.up a (.tup (List.replicate k.toNat vs).flatten)) (upd H a (.tup (List.replicate k.toNat vs).flatten)) := Px.new w.sub ha
          exact q _ _ _ px (.tup (SqT.of Fz.up_same) ((r.rep k.toNat).mono px.f))
    · cases hz
  · rename_i ds k
    split at hz
    · rename_i hc
      cases hz
      obtain ⟨p, vs, rfl, hp, r⟩ := rx.l w.sub
      cases ry.int
      refine .inr (.inr (.inr ⟨p, k, vs, rfl, rfl, hp, by omega, by omega, ?_, fun a ha => ?_⟩))
      · rw [r.length, sizeLine_eq]
        have a1 : ds.length * k.toNat ≤ 1000 * 1000 := Nat.mul_le_mul hc.1 (by omega)
        omega
      · have px : Px F H (F.up a (.lst (List.replicate k.toNat vs).flatten)) (upd H a (.lst (List.replicate k.toNat vs).flatten)) := Px.new w.sub ha
        exact q _ _ _ px (.lst Fz.up_same ((r.rep k.toNat).mono px.f))
    · cases hz
  · exact .inl (ro_mul dk F H st x y _ _ z w rx ry hz Q q)
/-! ### list(..) -/
def rListA (K : Fg) : List V → Hp → VK → Prop := fun xs H Q => (∃ p ys, xs = [.ref p] ∧ (SqL K H p ys ∨ SqT K H p ys) ∧ ∀ l, H l = none → Q (.ref l) (upd H l (.lst ys))) ∨
  ∃ (a : Addr) (kvs : List (Key × V)), xs = [.ref a] ∧ Rd H a (.dK kvs) ∧ ∀ p, H p = none → Q (.ref p) (upd H p (.lst (kvs.map fun kv => kV kv.1)))
theorem call_listA {X : Cx} (hc : X.calm = true) : CallR X (.type "list") (rListA X.K) := CallR.or call_list_of (call_listD hc)
def listD : List D → Option (List D)
  | [.lst ds] => some ds
  | [.tup ds] => some ds
  | [.dic ks _] => some (ks.map keyD)
  | _ => none
def listM (a : MA) : MA := fun env st => (a env st).bind fun p => (listD (p.1.map (dr p.2))).map fun z => (z, p.2)
theorem keys_rps : ∀ {ks : List Key} {vs : List V}, ks.length = vs.length → Rps K dk F ((ks.zip vs).map fun kv => kV kv.1) (ks.map keyD)
  | [], [], _ => .nil
  | k :: ks, v :: vs, h => .cons (keyD_rp k) (keys_rps (by simpa using h))
theorem if_list {ta : TA} {a : MA} (ha : ImAW K ta a) : ImF K (tCB (rListA K) ta) (listM a) := fun dk H0 F0 F σ H env st d st' g e Q q => by
  obtain ⟨⟨xs, s1⟩, h1, e⟩ := bnd e
  obtain ⟨z, h2, e⟩ := mpd e
  cases e
  refine ha dk H0 F0 F σ H env st xs s1 g h1 _ fun vs F1 H1 x1 g1 r1 => ?_
  have r2 := r1.dr g1.wd
  have fin : ∀ (us : List V) (p : Addr), H1 p = none → Rps K dk F1 us d → Q (.ref p) (upd H1 p (.lst us)) := fun us p hp r => by
    have px : Px F1 H1 F1 (upd H1 p (.lst us)) := Px.lay g1.wd.sub hp
    exact q p us F1 _ (x1.trans px.ext) (g1.px px) (x1.back hp) (g1.wd.out hp) upd_same r
  replace h2 : listD (xs.map (dr s1)) = some d := h2
  generalize xs.map (dr s1) = ys at h2 r2
  unfold listD at h2
  split at h2
  · cases h2
    obtain ⟨v, rfl, r⟩ := r2.one
    obtain ⟨p, us, rfl, hl, r⟩ := r.l g1.wd.sub
    exact .inl ⟨p, us, rfl, .inl (SqL.of hl), fun l hl => fin us l hl r⟩
  · cases h2
    obtain ⟨v, rfl, r⟩ := r2.one
    obtain ⟨p, us, rfl, hl, r⟩ := r.tup g1.wd.sub
    exact .inl ⟨p, us, rfl, .inr hl, fun l hl => fin us l hl r⟩
  · cases h2
    obtain ⟨v, rfl, r⟩ := r2.one
    obtain ⟨p, us, rfl, hr, hl, r⟩ := r.d g1.wd.sub
    exact .inr ⟨p, _, rfl, hr, fun l h => fin _ l h (keys_rps hl)⟩
  · cases h2
/-! ### isinstance(e, T), T a built-in class -/
def tTy (T : String) : TE := fun _ H Q => Q (.ty T) H
theorem pe_tyName {X : Cx} {x : Str} {T : String} {pos : Pos} (hg : Gl X x) (hm : X.mg x = none) (hv : bootBuiltins x = some (.type T)) (hn : x ≠ "__name__" := by decide) (hdb : (x == ("__debug__" : Str)) = false := by decide) : PE X (.Name x pos) (tTy T) :=
  ⟨fun pins s σ H Q I h => ld_blt I hg hm hv ⟨.ty T, H, I, rfl, h⟩ hn hdb⟩
def tyD : D → Option String
  | .non => some "NoneType"
  | .bl _ => some "bool"
  | .int _ => some "int"
  | .str _ => some "str"
  | .lst _ => some "list"
  | .tup _ => some "tuple"
  | .dic _ _ => some "dict"
  | _ => none
def isiM (T : String) (f : ME) : ME := fun env st => (f env st).bind fun p => (tyD (dr p.2 p.1)).bind fun t => (kitB t T).map fun b => (.bl b, p.2)
theorem sqT_ty {a : Addr} {vs : List V} (h : SqT K H a vs) : TyX K H (.ref a) (.type "tuple") := by
  rcases h with h | h
  · rcases h with h | ⟨o, h⟩
    · exact .base (.tup h)
    · exact .fTuple h
  · obtain ⟨o, its, n, h1, h2, _⟩ := h
    exact .kTuple h1 h2
theorem tyX_of {v : V} {d : D} {t : String} (s : Sb F H) (r : Rw K dk F H v d) (h : tyD d = some t) : TyX K H v (.type t) := by
  cases d with
  | non => cases h; rw [r.non]; exact .base .non
  | bl b => cases h; rw [r.bl]; exact .base (.bl b)
  | int i => cases h; rw [r.int]; exact .base (.int i)
  | str x => cases h; rw [r.str]; exact .base (.str x)
  | lst ds =>
    cases h
    obtain ⟨p, vs, rfl, h1, _⟩ := r.l s
    exact .base (.lst h1)
  | tup ds =>
    cases h
    obtain ⟨p, vs, rfl, h1, _⟩ := r.tup s
    exact sqT_ty h1
  | dic ks ds =>
    cases h
    obtain ⟨p, vs, rfl, h1, _⟩ := r.d s
    rcases h1 with h1 | ⟨o, h1⟩
    · exact .base (.dK h1)
    · exact .fDict h1
  | _ => cases h
theorem im_isi {te : TE} {f : ME} (T : String) (h : ImW K te f) : Im K (tCB (rIsi K) (tCons te (tCons (tTy T) tNil))) (isiM T f) := fun dk H0 F0 F σ H env st d st' g e Q q => by
  obtain ⟨⟨x, s1⟩, e1, e⟩ := bnd e
  obtain ⟨t, e2, e⟩ := bnd e
  obtain ⟨b, e3, e⟩ := mpd e
  cases e
  refine h dk H0 F0 F σ H env st x _ g e1 _ fun v F1 H1 x1 g1 r1 => ?_
  exact ⟨v, .ty T, .type t, .type T, b, rfl, .ty T, tyX_of g1.wd.sub (r1.dr g1.wd) e2, kit_ty e3, q (.bl b) F1 H1 x1 g1 (.bl b)⟩
/-! ### x = xs.pop(), x = xs.pop(i), of a name's own list: as an expression it changes the name -/
def popL (i : Nat) (t : MG) : MS := fun env st => match env[i]? with
  | some (.own (.lst, ds)) => (ds[ds.length - 1]?).bind fun d => (t d (env.set i (.own (.lst, ds.dropLast)))).map fun e => (.nx e, st)
  | _ => none
theorem Rps.dropLast {vs : List V} {ds : List D} (r : Rps K dk F vs ds) : Rps K dk F vs.dropLast ds.dropLast := by
  rw [List.dropLast_eq_take, List.dropLast_eq_take, r.length]
  exact r.take _
theorem is_popL {g : TG} {t : MG} {is : List Nat} (i : Nat) (hg : ImG K g t is) : ImS K (tAsg (tBM0 K "list" rPop (tVar i)) g) (popL i t) := fun dk H0 F0 F σ H env st fl st' gd e E hd => by
  unfold popL at e
  split at e
  · rename_i ds he
    obtain ⟨d, e1, e⟩ := bnd e
    obtain ⟨en, e2, e⟩ := mpd e
    cases e
    obtain ⟨p, vs, h1, h2, h3, h4, h5, h6, h7⟩ := gd.sl i _ he
    obtain ⟨v, k1, k2⟩ := h7.get e1
    refine ⟨.ref p, join_eq h1, .inl ⟨rfl, vs, SqL.of h2⟩, p, vs, v, rfl, rfl, h2, by rw [h7.length]; exact k1, ?_⟩
    have g2 : Good K dk H0 F0 F σ (upd H p (.lst vs.dropLast)) (env.set i (.own (.lst, ds.dropLast))) st := gd.mut (ds' := (.lst, ds.dropLast)) he (join_eq h1) upd_same h7.dropLast
    exact hg dk H0 F0 F σ _ _ st v d en g2 k2 e2 _ fun σ' g3 _ => hd F σ' _ (Le.refl F) g3
  · cases e
/-! e.pop(), e.pop(i), of a list of the store -/
def spopM (fo : ME) : ME := fun env st => (fo env st).bind fun o => (refOf o.1).bind fun n => (lstAt o.2 n).bind fun ds => (ds[ds.length - 1]?).map fun d => (d, o.2.put n (.lst ds.dropLast))
theorem im_spop {to : TE} {fo : ME} (ho : Im K to fo) : Im K (tBM0 K "list" rPop to) (spopM fo) := fun dk H0 F0 F σ H env st d st' g e Q q => by
  obtain ⟨⟨x, s1⟩, h1, e⟩ := bnd e
  obtain ⟨n, h2, e⟩ := bnd e
  obtain ⟨ds, h3, e⟩ := bnd e
  obtain ⟨d', h4, e⟩ := mpd e
  cases e
  refine ho dk H0 F0 F σ H env st x s1 g h1 _ fun v F1 H1 x1 g1 r1 => ?_
  have hx : x = .ref n := refOf_eq h2
  subst hx
  obtain ⟨a, rfl, ha⟩ := r1.refn
  obtain ⟨vs, hv, rv⟩ := g1.wd.lstAt ha h3
  obtain ⟨u, k1, k2⟩ := rv.get h4
  refine ⟨.inl ⟨rfl, vs, SqL.of hv⟩, a, vs, u, rfl, rfl, hv, by rw [rv.length]; exact k1, ?_⟩
  have nf : ¬ Fro (.lst vs) := by rintro ⟨_, _, z⟩; cases z
  have nf' : ¬ Fro (.lst vs.dropLast) := by rintro ⟨_, _, z⟩; cases z
  exact q u F1 _ (x1.put ha hv nf nf') (g1.put ha hv nf (.lst upd_same rv.dropLast) nf') k2
theorem Rps.erase : ∀ {vs : List V} {ds : List D} (n : Nat), Rps K dk F vs ds → Rps K dk F (vs.eraseIdx n) (ds.eraseIdx n)
  | _, _, _, .nil => .nil
  | _, _, 0, .cons _ r => r
  | _, _, n + 1, .cons a r => .cons a (Rps.erase n r)
def spopAt (fo fi : ME) : ME := fun env st => (fo env st).bind fun o => (refOf o.1).bind fun n => (lstAt o.2 n).bind fun _ => (fi env o.2).bind fun p => (intOf p.1).bind fun i => (lstAt p.2 n).bind fun ds => if 0 ≤ i ∧ i < ds.length ∧ ds.length ≤ sizeLine then (ds[i.toNat]?).map fun d => (d, p.2.put n (.lst (ds.eraseIdx i.toNat))) else none
theorem im_spopAt {to ti : TE} {fo fi : ME} (ho : Im K to fo) (hi : ImW K ti fi) : Im K (tBM K "list" rPopAt to (tCons ti tNil)) (spopAt fo fi) := fun dk H0 F0 F σ H env st d st' g e Q q => by
  obtain ⟨⟨x, s1⟩, h1, e⟩ := bnd e
  obtain ⟨n, h2, e⟩ := bnd e
  obtain ⟨_, h0, e⟩ := bnd e
  obtain ⟨⟨y, s2⟩, h3, e⟩ := bnd e
  obtain ⟨i, h4, e⟩ := bnd e
  obtain ⟨ds, h5, e⟩ := bnd e
  split at e
  · rename_i hz
    obtain ⟨d', h6, e⟩ := mpd e
    cases e
    refine ho dk H0 F0 F σ H env st x s1 g h1 _ fun v F1 H1 x1 g1 r1 => ?_
    have hx : x = .ref n := refOf_eq h2
    subst hx
    obtain ⟨a, rfl, ha⟩ := r1.refn
    obtain ⟨vs0, hv0, _⟩ := g1.wd.lstAt ha h0
    refine ⟨.inl ⟨rfl, vs0, SqL.of hv0⟩, ?_⟩
    refine hi dk H0 F0 F1 σ H1 env s1 y s2 g1 h3 _ fun u F2 H2 x2 g2 r2 => ?_
    have hy : y = .int i := by
      cases y <;> first | (cases h4; rfl) | cases h4
    subst hy
    have ha2 := x2.f.at ha
    obtain ⟨vs, hv, rv⟩ := g2.wd.lstAt ha2 h5
    obtain ⟨w, k1, k2⟩ := rv.get h6
    have hl := rv.length
    have hs : ds.length ≤ 16777216 := Nat.le_trans hz.2.2 (by rw [sizeLine_eq]; omega)
    refine ⟨a, vs, i, i.toNat, w, rfl, by rw [r2.w.int], hv, by omega, by omega, ?_, k1, ?_⟩
    · unfold seqIndex?
      rw [hl]
      have e1 : ¬ i < 0 := by omega
      have e2 : (decide (0 ≤ i) && decide (i < (ds.length : Int))) = true := by simp [hz.1, hz.2.1]
      simp [e1, hz.1, hz.2.1]
    · have nf : ¬ Fro (.lst vs) := by rintro ⟨_, _, z⟩; cases z
      have nf' : ¬ Fro (.lst (vs.eraseIdx i.toNat)) := by rintro ⟨_, _, z⟩; cases z
      exact q w F2 _ ((x1.trans x2).put ha2 hv nf nf') (g2.put ha2 hv nf (.lst upd_same (rv.erase i.toNat)) nf') k2
  · cases e
end
end MD

set_option Elab.async false
set_option linter.all false
set_option maxRecDepth 100000
set_option maxHeartbeats 1000000
namespace MD
open PySem L2
/-- where a thing is so -/
noncomputable def cif {α : Type} (p : Prop) (o : Option α) : Option α := @ite _ p (Classical.propDecidable p) o none
theorem cif_eq {α : Type} (p : Prop) [d : Decidable p] (o : Option α) : (if p then o else none) = cif p o := by
  unfold cif
  by_cases h : p
  · rw [if_pos h, if_pos h]
  · rw [if_neg h, if_neg h]
theorem cif_of {α : Type} {p : Prop} {o : Option α} (h : p) : cif p o = o := if_pos h
theorem of_cif {α : Type} {p : Prop} {o : Option α} {a : α} (h : cif p o = some a) : p ∧ o = some a := by
  unfold cif at h
  by_cases hp : p
  · rw [if_pos hp] at h; exact ⟨hp, h⟩
  · rw [if_neg hp] at h; cases h
section
variable {K : Fg} {dk : Dk} {F F' F0 : Fz} {H H' H0 : Hp} {σ σ' : L2.St} {env env' : Sg} {st st' st'' : S}
/-! ### for x in e, e a list of the store that stays meanwhile -/
noncomputable def forLc (n : Nat) (ds0 : List D) (t : MG) (b : MS) : List D → MS
  | [], env, st => cif (lstAt st n = some ds0) (some (.nx env, st))
  | d :: ds, env, st => cif (lstAt st n = some ds0) ((t d env).bind fun env1 => (b env1 st).bind fun p => match p.1 with
    | .nx e => forLc n ds0 t b ds e p.2
    | .ct e => forLc n ds0 t b ds e p.2
    | .bk e => some (.nx e, p.2)
    | .rt r => some (.rt r, p.2))
noncomputable def forR (f : ME) (t : MG) (b : MS) : MS := fun env st => (f env st).bind fun p => match p.1 with
  | .ref n => (lstAt p.2 n).bind fun ds => forLc n ds t b ds env p.2
  | d => (seqOf d).bind fun ds => forL t b ds env p.2
theorem is_forR {te : TE} {f : ME} {g : TG} {tb : TS} {t : MG} {b : MS} {is : List Nat} (h : Im K te f) (hg : ImG K g t is) (hb : ImS K tb b) : ImS K (tFor (iSeq K te) g tb) (forR f t b) := fun dk H0 F0 F σ H env st fl st' gd e E hd => by
  obtain ⟨⟨d, s1⟩, e1, e⟩ := bnd e
  by_cases hr : ∃ n, d = .ref n
  · obtain ⟨n, rfl⟩ := hr
    obtain ⟨ds, e2, e⟩ := bnd (show ((lstAt s1 n).bind fun ds => forLc n ds t b ds env s1) = some (fl, st') from e)
    refine h dk H0 F0 F σ H env st _ s1 gd e1 _ fun v F1 H1 x1 g1 r1 => ?_
    obtain ⟨a, rfl, ha⟩ := r1.refn
    obtain ⟨vs, hv, rv⟩ := g1.wd.lstAt ha e2
    refine .inl ⟨a, rfl, ⟨vs, SqL.of hv⟩, ?_⟩
    have hd1 := hd.mono x1.f
    let P : Nat → L2.St → Hp → Prop := fun i σ H => ∃ F2 env st, Le F1 F2 ∧ Good K dk H0 F0 F2 σ H env st ∧ forLc n ds t b (ds.drop i) env st = some (fl, st')
    refine ⟨fun i m σ H => m = ds.length - i ∧ i ≤ ds.length ∧ P i σ H, ⟨_, rfl, Nat.zero_le _, F1, env, s1, Le.refl F1, g1, e⟩, ?_⟩
    rintro i m σ2 H2 ⟨rfl, hle, F2, env2, s2, le2, g2, e3⟩
    by_cases hlt : i < ds.length
    · have hdi : ds[i]? = some ds[i] := List.getElem?_eq_getElem hlt
      rw [List.drop_eq_getElem_cons hlt] at e3
      obtain ⟨ck, e3⟩ := of_cif e3
      obtain ⟨us, hu, ru⟩ := g2.wd.lstAt (le2.at ha) ck
      obtain ⟨w, k1, k2⟩ := ru.get hdi
      refine .inr ⟨⟨us, w, SqL.of hu, k1⟩, P (i + 1), fun σ' H' hp => ⟨_, by omega, rfl, hlt, hp⟩, fun x H3 hx => ?_⟩
      obtain ⟨ee, e4⟩ := hx
      subst ee
      have ev := e4 us (SqL.of hu)
      rw [k1] at ev
      cases ev
      obtain ⟨env3, e5, e3⟩ := bnd e3
      obtain ⟨⟨fl3, s3⟩, e6, e3⟩ := bnd e3
      refine hg dk H0 F0 F2 σ2 _ env2 s2 w _ env3 g2 k2 e5 _ fun σ4 g4 _ => ?_
      refine hb dk H0 F0 F2 σ4 _ env3 s2 fl3 s3 g4 e6 _ ?_
      cases fl3 with
      | nx e7 => exact fun F5 σ5 H5 l5 g5 => ⟨F5, e7, s3, le2.trans l5, g5, e3⟩
      | ct e7 => exact fun F5 σ5 H5 l5 g5 => ⟨F5, e7, s3, le2.trans l5, g5, e3⟩
      | bk e7 =>
        cases e3
        exact fun F5 σ5 H5 l5 g5 => hd1 F5 σ5 H5 (le2.trans l5) g5
      | rt r =>
        cases e3
        exact hd1
    · have ei : i = ds.length := by omega
      subst ei
      rw [List.drop_length] at e3
      obtain ⟨ck, e3⟩ := of_cif e3
      cases e3
      obtain ⟨us, hu, ru⟩ := g2.wd.lstAt (le2.at ha) ck
      exact .inl ⟨⟨us, SqL.of hu, by rw [ru.length]; exact Nat.le_refl _⟩, hd1 F2 σ2 H2 le2 g2⟩
  · refine is_for (ii_seq h) hg hb dk H0 F0 F σ H env st fl st' gd ?_ E hd
    have ee : ((seqOf d).bind fun ds => forL t b ds env s1) = some (fl, st') := by
      cases d with
      | ref n => exact absurd ⟨n, rfl⟩ hr
      | _ => exact e
    obtain ⟨ds, e2, e3⟩ := bnd ee
    show ((seqI f env st).bind fun p => forL t b p.1 env p.2) = _
    have : seqI f env st = some (ds, s1) := by
      unfold seqI
      rw [e1]
      show (seqOf d).map _ = _
      rw [e2]; rfl
    rw [this]
    exact e3
end
end MD

set_option Elab.async false
set_option linter.all false
set_option maxRecDepth 100000
set_option maxHeartbeats 1000000
namespace MD
open PySem L2
/-! ### an expression whose value goes to a name: data, or a new thing of its own -/
abbrev MX := Sg → S → Option (Sl × S)
/-- what an argument gives, as it stands at F, H -/
def XOk (K : Fg) (dk : Dk) (F : Fz) (H H0 : Hp) (v : V) : Sl → Prop
  | .un => False
  | .val d => Rp K dk F v d
  | .own w => ∃ p vs, v = .ref p ∧ w.1.At H p vs ∧ F.out p ∧ H0 p = none ∧ p ≠ dk.1 ∧ p ≠ dk.2 ∧ Rps K dk F vs w.2
def ImX (K : Fg) (te : TE) (f : MX) : Prop := ∀ (dk : Dk) (H0 : Hp) (F0 F : Fz) (σ : L2.St) (H : Hp) (env : Sg) (st : S) (s : Sl) (st' : S), Good K dk H0 F0 F σ H env st → f env st = some (s, st') →
  ∀ Q : VK, (∀ v F' H', Ext dk F H F' H' → Good K dk H0 F0 F' σ H' env st' → XOk K dk F' H' H v s → Q v H') → te σ H Q
def xV (f : ME) : MX := fun env st => (f env st).map fun p => (.val p.1, p.2)
def xL (f : MA) : MX := fun env st => (f env st).map fun p => (.own (.lst, p.1), p.2)
def xK (f : MK) : MX := fun env st => (f env st).map fun p => (.own (.dic p.1.1, p.1.2), p.2)
section
variable {K : Fg} {dk : Dk} {F F' F0 : Fz} {H H' H0 : Hp} {σ σ' : L2.St} {env env' : Sg} {st st' st'' : S}
theorem Im.x {te : TE} {f : ME} (h : Im K te f) : ImX K te (xV f) := fun dk H0 F0 F σ H env st s st' g e Q q => by
  obtain ⟨⟨d, s1⟩, e1, e⟩ := mpd e
  cases e
  exact h dk H0 F0 F σ H env st d s1 g e1 Q fun v F1 H1 x1 g1 r1 => q v F1 H1 x1 g1 r1
theorem ImF.x {te : TE} {f : MA} (h : ImF K te f) : ImX K te (xL f) := fun dk H0 F0 F σ H env st s st' g e Q q => by
  obtain ⟨⟨ds, s1⟩, e1, e⟩ := mpd e
  cases e
  refine h dk H0 F0 F σ H env st ds s1 g e1 Q fun p vs F1 H1 x1 g1 hp fp hl r => ?_
  have nd := g.nedk hp
  exact q _ F1 H1 x1 g1 ⟨p, vs, rfl, hl, fp, hp, nd.1, nd.2, r⟩
theorem ImK.x {te : TE} {f : MK} (h : ImK K te f) : ImX K te (xK f) := fun dk H0 F0 F σ H env st s st' g e Q q => by
  obtain ⟨⟨⟨ks, ds⟩, s1⟩, e1, e⟩ := mpd e
  cases e
  refine h dk H0 F0 F σ H env st _ s1 g e1 Q fun p vs F1 H1 x1 g1 hp fp hl hl2 r => ?_
  have nd := g.nedk hp
  exact q _ F1 H1 x1 g1 ⟨p, vs, rfl, ⟨hl, hl2⟩, fp, hp, nd.1, nd.2, r⟩
theorem XOk.ext {v : V} {s : Sl} (h : XOk K dk F H H0 v s) (x : Ext dk F H F' H') : XOk K dk F' H' H0 v s := by
  cases s with
  | un => exact h
  | val d => exact Rp.mono x.f h
  | own w =>
    obtain ⟨p, vs, h1, h2, h3, h4, h5, h6, h7⟩ := h
    exact ⟨p, vs, h1, h2.keep fun o e => x.h _ _ e h5 h6 (.inl h3.2), x.out h3 (by obtain ⟨o, ho⟩ := h2.some; exact nn ho), h4, h5, h6, h7.mono x.f⟩
/-- a slot gets it -/
theorem Good.setX {i : Nat} {v : V} {s : Sl} {Hb : Hp} (g : Good K dk H0 F0 F σ H env st) (h : XOk K dk F H Hb v s) (hb : ∀ p, Hb p = none → H0 p = none) (no : ∀ p, Hb p = none → ∀ (j : Nat) (es : Own), env[j]? = some (.own es) → σ[j]? ≠ some (some (.ref p))) :
    Good K dk H0 F0 F (σ.set i (some v)) H (env.set i s) st := by
  cases s with
  | un => exact h.elim
  | val d => exact g.set h
  | own w =>
    obtain ⟨p, vs, rfl, h2, h3, h4, h5, h6, h7⟩ := h
    exact g.setO h2 h3 (hb p h4) h5 h6 (no p h4) h7
def par2 (i j : Nat) (fa fb : MX) : MS := fun env st => (fa env st).bind fun p => (fb env p.2).map fun q => (.nx ((env.set i p.1).set j q.1), q.2)
theorem is_par2 {ta tb : TE} {fa fb : MX} (i j : Nat) (ha : ImX K ta fa) (hb : ImX K tb fb) : ImS K (tPar i j (tCons ta (tCons tb tNil))) (par2 i j fa fb) := fun dk H0 F0 F σ H env st fl st' g e E hd => by
  obtain ⟨⟨s1, t1⟩, e1, e⟩ := bnd e
  obtain ⟨⟨s2, t2⟩, e2, e⟩ := mpd e
  cases e
  refine ha dk H0 F0 F σ H env st s1 t1 g e1 _ fun v F1 H1 x1 g1 k1 => ?_
  refine hb dk H0 F0 F1 σ H1 env t1 s2 t2 g1 e2 _ fun u F2 H2 x2 g2 k2 => ?_
  refine ⟨v, u, rfl, hd F2 _ H2 (x1.f.trans x2.f) ?_⟩
  have g3 : Good K dk H0 F0 F2 (σ.set i (some v)) H2 (env.set i s1) t2 := g2.setX (k1.ext x2) (fun p hp => g.fresh0 hp) fun p hp => g.noown hp
  refine g3.setX k2 (fun p hp => g1.fresh0 hp) fun p hp jj es hj z => ?_
  by_cases hi : i = jj
  · subst hi
    have hl : i < env.length := by
      by_cases hl : i < env.length
      · exact hl
      · rw [List.getElem?_eq_none (by rw [List.length_set]; omega)] at hj; cases hj
    rw [List.getElem?_set_self hl] at hj
    rw [List.getElem?_set_self (by rw [g.len]; exact hl)] at z
    cases hj
    cases z
    obtain ⟨p', vs, ep, h2, _⟩ := k1
    cases ep
    obtain ⟨o, ho⟩ := h2.some
    rw [hp] at ho; cases ho
  · rw [List.getElem?_set_ne hi] at hj z
    exact g1.noown hp jj es hj z
end
end MD

set_option Elab.async false
set_option linter.all false
set_option maxRecDepth 100000
set_option maxHeartbeats 1000000
namespace MD
open PySem PyProof.Rows L2
theorem units1 {n : Nat} (h : n + 64 < cLine) : n + 1 < cLine := by omega
theorem ps_or2 {X : Cx} {st : Stmt} {t : TE} {i : Nat} (h : PS X st (tLock (tAsg t (gName i)))) (h' : PS X st (tAsg t (gName i))) : PS X st (tAsg (fun σ H Q => tLockE t σ H Q ∨ t σ H Q) (gName i)) := ps_or h h'
/-- a def that is not yet known to keep anything -/
theorem fn0 {P : Program} {w : World} {K : Fg} {mg : Str → Option Value} {base : Heap} {k n : Nat} {f : Addr} {fd : FuncData} {ps : List Str} (h : n = ps.length) : FnG P w K mg base k f fd ps (spD K n fun _ _ => none) :=
  ⟨fun vs H Q E q => q.1.trans h, fun A outer s H args us vs Q E _ _ _ _ _ q => by
    obtain ⟨_, _, _, _, _, _, _, _, _, z, _⟩ := q
    cases z⟩
section
variable {K : Fg} {dk : Dk} {F F' F0 : Fz} {H H' H0 : Hp} {σ σ' : L2.St} {env env' : Sg} {st st' st'' : S}
def min2M : List D → Option D
  | [.int m, .int n] => some (.int (if n < m then n else m))
  | _ => none
def max2M : List D → Option D
  | [.int m, .int n] => some (.int (if n > m then n else m))
  | _ => none
theorem rc_min2 : RC K (fun xs H Q => ∃ m n, xs = [V.int m, V.int n] ∧ Q (.int (if n < m then n else m)) H) min2M := by
  intro dk F H st vs ds z w rx hz Q q
  unfold min2M at hz
  split at hz
  · cases hz
    obtain ⟨v, u, rfl, r1, r2⟩ := rx.two
    cases r1.int
    cases r2.int
    exact ⟨_, _, rfl, q _ F H (Px.refl w.sub) (.int _)⟩
  · cases hz
theorem rc_max2 : RC K (fun xs H Q => ∃ m n, xs = [V.int m, V.int n] ∧ Q (.int (if n > m then n else m)) H) max2M := by
  intro dk F H st vs ds z w rx hz Q q
  unfold max2M at hz
  split at hz
  · cases hz
    obtain ⟨v, u, rfl, r1, r2⟩ := rx.two
    cases r1.int
    cases r2.int
    exact ⟨_, _, rfl, q _ F H (Px.refl w.sub) (.int _)⟩
  · cases hz
/-! a new list by * -/
def lstMul : D → D → Option (List D)
  | .lst ds, .int k => if ds.length ≤ 1000 ∧ -1000 ≤ k ∧ k ≤ 1000 then some (List.replicate k.toNat ds).flatten else none
  | _, _ => none
theorem rof_mul : ROF K rRep lstMul := by
  intro dk F H st x y d e z w rx ry hz Q q
  unfold lstMul at hz
  split at hz
  · rename_i ds k
    split at hz
    · rename_i hc
      cases hz
      obtain ⟨p, vs, rfl, hp, r⟩ := rx.l w.sub
      cases ry.int
      refine ⟨p, k, vs, rfl, rfl, hp, by omega, by omega, ?_, fun a ha => q a _ ha (r.rep k.toNat)⟩
      rw [r.length, sizeLine_eq]
      have a1 : ds.length * k.toNat ≤ 1000 * 1000 := Nat.mul_le_mul hc.1 (by omega)
      omega
    · cases hz
  · cases hz
@[simp] theorem v_opF {g : D → D → Option (List D)} {fa fb : ME} {env : Sg} {st : S} : opF g fa fb env st = (fa env st).bind fun p => (fb env p.2).bind fun q => (g (dr q.2 p.1) (dr q.2 q.1)).map fun z => (z, q.2) := (rfl)
/-! xs[i] = e, of a name's own list -/
def lsetM (i : Nat) (fk fv : ME) : MS := fun env st => match env[i]? with
  | some (.own (.lst, ds)) => (fv env st).bind fun p => (fk env p.2).bind fun q => (intOf q.1).bind fun k => (ixN ds.length k).map fun j => (.nx (env.set i (.own (.lst, ds.set j p.1))), q.2)
  | _ => none
@[simp] theorem v_lsetM {i : Nat} {fk fv : ME} {env : Sg} {st : S} : lsetM i fk fv env st = (match env[i]? with
  | some (.own (.lst, ds)) => (fv env st).bind fun p => (fk env p.2).bind fun q => (intOf q.1).bind fun k => (ixN ds.length k).map fun j => (.nx (env.set i (.own (.lst, ds.set j p.1))), q.2)
  | _ => none) := (rfl)
theorem is_lset {ty tv : TE} {fk fv : ME} (i : Nat) (hk : ImW K ty fk) (hv : Im K tv fv) : ImS K (tAsg tv (gSub (tVar i) ty rSetL)) (lsetM i fk fv) := fun dk H0 F0 F σ H env st fl st' g e E hd => by
  unfold lsetM at e
  split at e
  · rename_i ds he
    obtain ⟨⟨d, s1⟩, e1, e⟩ := bnd e
    obtain ⟨⟨y, s2⟩, e2, e⟩ := bnd e
    obtain ⟨k, e3, e⟩ := bnd e
    obtain ⟨j, e4, e⟩ := mpd e
    cases e
    obtain ⟨p, vs, h1, h2, h3, h4, h5, h6, h7⟩ := g.sl i _ he
    refine hv dk H0 F0 F σ H env st d s1 g e1 _ fun v F1 H1 x1 g1 r1 => ?_
    refine ⟨.ref p, join_eq h1, hk dk H0 F0 F1 σ H1 env s1 y s2 g1 e2 _ fun u F2 H2 x2 g2 r2 => ?_⟩
    have x12 := x1.trans x2
    have hy : y = .int k := by
      cases y <;> first | (cases e3; rfl) | cases e3
    subst hy
    refine ⟨p, vs, k, j, rfl, r2.w.int, x12.h _ _ h2 h5 h6 (.inl h3.2), by rw [h7.length]; exact e4, ?_⟩
    exact hd F2 σ _ x12.f (g2.mut (ds' := (.lst, ds.set j d)) he (join_eq h1) upd_same (Rps.set (r1.mono x2.f) j (h7.mono x12.f)))
  · cases e
@[simp] theorem v_par2 {i j : Nat} {fa fb : MX} {env : Sg} {st : S} : par2 i j fa fb env st = (fa env st).bind fun p => (fb env p.2).map fun q => (.nx ((env.set i p.1).set j q.1), q.2) := (rfl)
@[simp] theorem v_xV {f : ME} {env : Sg} {st : S} : xV f env st = (f env st).map fun p => (Sl.val p.1, p.2) := (rfl)
@[simp] theorem v_xL {f : MA} {env : Sg} {st : S} : xL f env st = (f env st).map fun p => (Sl.own (.lst, p.1), p.2) := (rfl)
@[simp] theorem v_xK {f : MK} {env : Sg} {st : S} : xK f env st = (f env st).map fun p => (Sl.own (.dic p.1.1, p.1.2), p.2) := (rfl)
/-! dict(list of pairs) -/
def prsD : List D → Option (List (Key × D))
  | [] => some []
  | .tup [k, d] :: r => (keyOf k).bind fun k => (prsD r).map ((k, d) :: ·)
  | _ => none
def prsK (f : ME) : MK := fun env st => (f env st).bind fun p => match p.1 with
  | .lst ds => (prsD ds).map fun l => (mrgL [] [] l, p.2)
  | _ => none
theorem prs_ok (s : Sb F H) : ∀ {vs : List V} {ds : List D} {l : List (Key × D)}, Rps K dk F vs ds → prsD ds = some l → ∃ (ps : List Addr) (kvs : List (Key × V)), vs = ps.map V.ref ∧ Paired (fun p kv => SqT K H p [kV kv.1, kv.2]) ps kvs ∧ Rpk K dk F kvs l
  | _, [], l, .nil, h => by cases h; exact ⟨[], [], rfl, .nil, .nil⟩
  | v :: vs, d :: ds, l, .cons a b, h => by
    unfold prsD at h
    split at h
    · rename_i hh; cases hh
    · rename_i k e r hh
      cases hh
      obtain ⟨k', h1, h⟩ := bnd h
      obtain ⟨l', h2, h⟩ := mpd h
      subst h
      cases a with
      | tup hq rr =>
        cases rr with
        | cons q1 q2 => cases q2 with
          | cons q2 q3 =>
            cases q3
            obtain ⟨ps, kvs, e1, e2, e3⟩ := prs_ok s b h2
            refine ⟨_ :: ps, (k', _) :: kvs, by rw [e1]; rfl, .cons ?_ e2, .cons q2 e3⟩
            have := keyOf_rw (H := H) (.rp q1) h1
            rw [← this]
            exact s.sqT hq
    · cases h
theorem ik_prs {te : TE} {f : ME} (h : Im K te f) : ImK K (tCB (fun xs H Q => ∃ (a : Addr) (ps : List Addr) (kvs : List (Key × V)), xs = [.ref a] ∧ SqL K H a (ps.map V.ref) ∧ Paired (fun p kv => SqT K H p [kV kv.1, kv.2]) ps kvs ∧
    ∀ p, H p = none → Q (.ref p) (upd H p (.dK (mergeK [] kvs)))) (tCons te tNil)) (prsK f) := fun dk H0 F0 F σ H env st kd st' g e Q q => by
  obtain ⟨⟨x, s1⟩, h1, e⟩ := bnd e
  refine h dk H0 F0 F σ H env st x s1 g h1 _ fun v F1 H1 x1 g1 r1 => ?_
  cases x with
  | lst ds =>
    obtain ⟨l, h2, e⟩ := mpd (show (prsD ds).map (fun l => (mrgL [] [] l, s1)) = some (kd, st') from e)
    cases e
    cases r1 with
    | lst ha r =>
      obtain ⟨ps, kvs, e1, e2, e3⟩ := prs_ok g1.wd.sub r h2
      subst e1
      refine ⟨_, ps, kvs, rfl, SqL.of (g1.wd.sub.lst ha), e2, fun p hp => ?_⟩
      have px : Px F1 H1 F1 (upd H1 p (.dK (mergeK [] kvs))) := Px.lay g1.wd.sub hp
      obtain ⟨z1, z2⟩ := mrg_zip kvs [] [] rfl
      obtain ⟨y1, y2⟩ := mrg_rps (K := K) (dk := dk) (F := F1) [] e3 Rps.nil
      exact q p (mrgL [] [] kvs).2 F1 _ (x1.trans px.ext) (g1.px px) (x1.back hp) (g1.wd.out hp) (by rw [upd_same, ← y1]; exact congrArg (fun z => some (HO.dK z)) z1) (by rw [← y1]; exact z2) y2
  | _ => cases e
end
end MD

set_option Elab.async false
set_option linter.all false
set_option maxRecDepth 100000
set_option maxHeartbeats 1000000
namespace MD
open PySem L2
/-! ### a < b of data -/
def rLtD (K : Fg) : R2 := fun x y H Q => ∃ d e, Dp K H x d ∧ Dp K H y e ∧ PySem.W.alike d e = true ∧ d ≠ .none ∧ d.depth ≤ 60 ∧ Q (.bl (PySem.W.dataLt d e)) H
theorem op_ltD {X : Cx} (hu : X.A.units + 64 < cLine) : OpR X (compareOp .Lt) (rLtD X.K) := by
  intro pins s σ H x y v u Q I rx ry h
  obtain ⟨d, e, hd, he, hal, hn, hdp, q⟩ := h
  obtain ⟨as, r1⟩ := Dp.reads I _ _ _ hd rx
  obtain ⟨bs, r2⟩ := Dp.reads I _ _ _ he ry
  exact PySem.W.rcLt_alike d e X.A s v u as bs r1 r2 hal hn (by omega) X.prog X.w _ _ ⟨.bl _, H, I, rfl, q⟩
def rLtA (K : Fg) : R2 := fun x y H Q => rI0 (fun i j => .bl (decide (i < j))) x y H Q ∨ rLtD K x y H Q
theorem op_ltA {X : Cx} (hu : X.A.units + 64 < cLine) : OpR X (compareOp .Lt) (rLtA X.K) := OpR.or op_lt (op_ltD hu)
def ltA : D → D → Option D
  | .int i, .int j => some (.bl (decide (i < j)))
  | .tup a, .tup b => if (D.tup a).pl && (D.tup b).pl && PySem.W.alike (D.tup a).py (D.tup b).py && decide ((D.tup a).py.depth ≤ 60) then some (.bl (PySem.W.dataLt (D.tup a).py (D.tup b).py)) else none
  | _, _ => none
section
variable {K : Fg} {dk : Dk} {F F' F0 : Fz} {H H' H0 : Hp}
theorem ro_ltA : RO K (rLtA K) ltA := by
  intro dk F H st x y d e z w rx ry hz Q q
  unfold ltA at hz
  split at hz
  · exact .inl (ro_lt dk F H st x y _ _ z w rx ry hz Q q)
  · split at hz
    · rename_i ho
      cases hz
      simp only [Bool.and_eq_true, decide_eq_true_eq] at ho
      refine .inr ⟨_, _, rx.dp w.sub ho.1.1.1, ry.dp w.sub ho.1.1.2, ho.1.2, ?_, ho.2, q _ F H (Px.refl w.sub) (.bl _)⟩
      intro z
      rw [D.py] at z
      cases z
    · cases hz
  · cases hz
end
/-! (number, text) < (number, text) -/
@[simp] theorem v_ltI {i j : Int} : ltA (.int i) (.int j) = some (.bl (decide (i < j))) := (rfl)
theorem lt_pair (i j : Int) (x y : Str) : ltA (.tup [.int i, .str x]) (.tup [.int j, .str y]) = some (.bl (decide (i < j ∨ (i = j ∧ x.cps.toList < y.cps.toList)))) := by
  have e : PySem.W.dataLt (D.tup [.int i, .str x]).py (D.tup [.int j, .str y]).py = decide (i < j ∨ (i = j ∧ x.cps.toList < y.cps.toList)) := by
    show PyProof.Rows.lexLt PyProof.Rows.itemOrd [.inl 1, .inl i, .inl 1, .inr x.cps.toList, .inl 0] [.inl 1, .inl j, .inl 1, .inr y.cps.toList, .inl 0] = _
    rw [PyProof.Rows.lex_self]
    by_cases hij : i = j
    · subst hij
      rw [PyProof.Rows.lex_self, PyProof.Rows.lex_self]
      by_cases hxy : x.cps.toList = y.cps.toList
      · rw [hxy, PyProof.Rows.lex_self, PyProof.Rows.lex_irrefl]
        have h1 : ¬ y.cps.toList < y.cps.toList := List.lt_irrefl _
        simp [h1]
      · rw [PyProof.Rows.lex_diff (fun z => hxy (Sum.inr.inj z))]
        show decide (x.cps.toList < y.cps.toList) = _
        simp
    · rw [PyProof.Rows.lex_diff (fun z => hij (Sum.inl.inj z))]
      show decide (i < j) = _
      simp [hij]
  show (if (D.tup [.int i, .str x]).pl && (D.tup [.int j, .str y]).pl && PySem.W.alike (D.tup [.int i, .str x]).py (D.tup [.int j, .str y]).py && decide ((D.tup [.int i, .str x]).py.depth ≤ 60) then some (D.bl (PySem.W.dataLt (D.tup [.int i, .str x]).py (D.tup [.int j, .str y]).py)) else none) = _
  rw [e, if_pos]
  have h2 : (D.tup [.int i, .str x]).py.depth ≤ 60 := by simp [D.py, pyAll, PyData.depth, PyData.depthAll]
  rw [decide_eq_true h2]
  simp [D.pl, plAll, D.py, pyAll, PySem.W.alike, PySem.W.alikeAll]
end MD

set_option Elab.async false
set_option linter.all false
namespace MD
open PySem PySem.Spec PyProof.Rows L2
variable {K : Fg} {dk : Dk} {F : Fz}
/-! ### list(range(..)) -/
theorem rps_rg (a b : Int) : Rps K dk F (rgV a b) (rngD a (b - a).toNat) := by
  unfold rgV rngD
  generalize List.range (b - a).toNat = xs
  induction xs with
  | nil => exact .nil
  | cons x xs ih => exact .cons (.int _) ih
theorem fin_rg {H0 : Hp} {F0 : Fz} {σ : L2.St} {H : Hp} {env : Sg} {st : S} {a b : Int} (g : Good K dk H0 F0 F σ H env st) {Q : VK}
    (q : ∀ p vs F' H', Ext dk F H F' H' → Good K dk H0 F0 F' σ H' env st → H p = none → F'.out p → H' p = some (.lst vs) → Rps K dk F' vs (rngD a (b - a).toNat) → Q (.ref p) H') :
    ∀ p, H p = none → Q (.ref p) (upd H p (.lst (rgV a b))) := fun p hp => by
  have px : Px F H F (upd H p (.lst (rgV a b))) := Px.lay g.wd.sub hp
  exact q p _ F _ px.ext (g.px px) hp (g.wd.out hp) upd_same (rps_rg a b)
def lrg1M (a : ME) : MA := fun env st => (a env st).bind fun p => match p.1 with
  | .int j => if 0 ≤ j ∧ j ≤ 1000000 then some (rngD 0 (j - 0).toNat, p.2) else none
  | _ => none
def lrg2M (a b : ME) : MA := fun env st => (a env st).bind fun p => (b env p.2).bind fun r => match p.1, r.1 with
  | .int i, .int j => if 0 ≤ i ∧ i ≤ 1000000 ∧ 0 ≤ j ∧ j ≤ 1000000 then some (rngD i (j - i).toNat, r.2) else none
  | _, _ => none
theorem if_lrg1 {ta : TE} {a : ME} (ha : Im K ta a) : ImF K (tLstRg (tRg1 ta)) (lrg1M a) := fun dk H0 F0 F σ H env st d st' g e Q q => by
  obtain ⟨⟨x, s1⟩, h1, e⟩ := bnd e
  refine ha dk H0 F0 F σ H env st x s1 g h1 _ fun v F1 H1 x1 g1 r1 => ?_
  dsimp only at e
  split at e
  · split at e
    · rename_i j hj
      cases e
      cases r1
      exact ⟨j, rfl, RgOk.of_le (by omega) (by omega) (by omega) (by omega), fin_rg g1 fun p vs F' H' x2 g2 hp => q p vs F' H' (x1.trans x2) g2 (x1.back hp)⟩
    · cases e
  · cases e
theorem if_lrg2 {ta tb : TE} {a b : ME} (ha : Im K ta a) (hb : Im K tb b) : ImF K (tLstRg (tRg2 ta tb)) (lrg2M a b) := fun dk H0 F0 F σ H env st d st' g e Q q => by
  obtain ⟨⟨x, s1⟩, h1, e⟩ := bnd e
  obtain ⟨⟨y, s2⟩, h2, e'⟩ := bnd e
  clear e
  refine ha dk H0 F0 F σ H env st x s1 g h1 _ fun v F1 H1 x1 g1 r1 => ?_
  refine hb dk H0 F0 F1 σ H1 env s1 y s2 g1 h2 _ fun u F2 H2 x2 g2 r2 => ?_
  dsimp only at e'
  split at e'
  · split at e'
    · rename_i i j hj
      cases e'
      cases r1
      cases r2
      exact ⟨i, j, rfl, rfl, RgOk.of_le (by omega) (by omega) (by omega) (by omega), fin_rg g2 fun p vs F' H' x3 g3 hp => q p vs F' H' ((x1.trans x2).trans x3) g3 ((x1.trans x2).back hp)⟩
    · cases e'
  · cases e'
end MD

set_option Elab.async false
set_option linter.all false
namespace MD
open PySem PySem.Spec PyProof.Rows L2
/-! ### tests of k in d, k not in d -/
theorem pt_or {X : Cx} {e : Expr} {t t' : TE} (h : PT X e (tTest t)) (h' : PT X e (tTest t')) : PT X e (tTest fun σ H Q => t σ H Q ∨ t' σ H Q) :=
  ⟨fun pins s σ H Q I q => q.elim (h.run pins s σ H Q I) (h'.run pins s σ H Q I)⟩
theorem pt_in {X : Cx} {a b : Expr} {pos : Pos} {ta tb : TE} (hu : X.A.units + 1 < cLine) (ha : PE X a ta) (hb : PE X b tb) (hm : behindInMarks .In b = false := by rfl) : PT X (.Compare a [.In] [b] pos) (tTest (tIn X.K ta tb)) :=
  pt_or (pt_cmp (pc_din hu ha hb) hm) (pt_cmpR op_inA ha hb hm)
theorem pt_notIn {X : Cx} {a b : Expr} {pos : Pos} {ta tb : TE} (hu : X.A.units + 1 < cLine) (ha : PE X a ta) (hb : PE X b tb) (hm : behindInMarks .NotIn b = false := by rfl) : PT X (.Compare a [.NotIn] [b] pos) (tTest (tNotIn X.K ta tb)) :=
  pt_or (pt_cmp (pc_dnotin hu ha hb) hm) (pt_cmpR op_notInA ha hb hm)
/-! ### name = {..}, a comprehension, the name a local -/
section
variable {X : Cx}
theorem sw_trueD {kx vx : Expr} {gs : List Comprehension} {scope : Scope} {pos py : Pos} {y : Str} {l : Nat} {env : Env} (hk : env.scope.kind = .function) (hy : env.scope.names.lookup y = some .local) (hl : (py.line == pos.line) = true)
    (ha : (scope.names.any fun (n, k) => n == y && (k == .local || k == .cell)) = false) : swapsWith (.DictComp kx vx gs scope pos) (some (.Name y py)) l env = pure true := by
  have ky : env.kindOf y = some .local := hy
  have hb : env.blockKind = .function := by unfold Env.blockKind; rw [hk]; rfl
  unfold swapsWith
  simp only [hb, ky, ha, Expr.pos, hl]
  rfl
theorem ps_setDc {i : Nat} {y : Str} {py : Pos} {kx vx tg iter : Expr} {ifs : List Expr} {scope : Scope} {own : List (Str × Nat)} {pos spos : Pos} {wi : TI} {g : TG} {tt : TT} {tk tv : TE} (hc : X.calm = true) (hN : X.N.Nodup) (hy : X.N[i]? = some y) (hyl : X.env.scope.names.lookup y = some .local)
    (hsw : swapsWith (.DictComp kx vx [⟨tg, iter, ifs, 0⟩] scope pos) (some (.Name y py)) spos.line X.env = pure true) (hi : PI X tg iter wi) (ok : BlkOk X.N X.env.scope scope own)
    (hg : ∀ (s : Shared) (H : Hp) (C : Addr) (cl : List (Str × Addr)) (fp : List Addr), PG (X.blk s H scope (compEnvC scope cl C X.env) fp) tg g) (ht : ∀ (s : Shared) (H : Hp) (C : Addr) (cl : List (Str × Addr)) (fp : List Addr), PTs (X.blk s H scope (compEnvC scope cl C X.env) fp) ifs tt)
    (hk : ∀ (s : Shared) (H : Hp) (C : Addr) (cl : List (Str × Addr)) (fp : List Addr), PE (X.blk s H scope (compEnvC scope cl C X.env) fp) kx tk)
    (he : ∀ (s : Shared) (H : Hp) (C : Addr) (cl : List (Str × Addr)) (fp : List Addr), PE (X.blk s H scope (compEnvC scope cl C X.env) fp) vx tv) (hs : ∀ x, foldedSetIterable iter X.env x = pure x := by intro _; rfl) :
    PS X (.Assign [.Name y py] (.DictComp kx vx [⟨tg, iter, ifs, 0⟩] scope pos) spos) (tAsg (tDc wi g tt tk tv (own.map (·.2))) (gName i)) := by
  refine ⟨fun pins s σ H D I h => ?_⟩
  rw [exec_Assign_Name_used _ _ _ _ hsw]
  refine wpAny_bind (wpAny_standAt (wpAny_bind ?_))
  show wpAny _ X.A (do let _ ← comprehension (.DictComp kx vx [⟨tg, iter, ifs, 0⟩] scope pos) scope X.env (firstIterPos [⟨tg, iter, ifs, 0⟩] pos) newDict false (eval iter X.env) (some (assign (.Name y py) X.env))) _ _ s
  have h : tDc wi g tt tk tv (own.map (·.2)) σ H (fun x H1 => gName i x σ H1 D.nx) := h
  refine wpAny_bind (thn (dc_core (Qf := fun _ s' => SP X pins D .next s') hc hN I hi ok hg ht hk he hs h fun L C s' m H' I' q hn f => ?_) fun _ s' hq => wpAny_pure (wpAny_pure hq))
  show wpAny _ _ (assign (.Name y py) X.env (.ref L)) _ _ _
  refine wpAny_assign_Name (store_ok2 (v := V.ref L) I' hN hy (.inl hyl) rfl (fun s2 I2 ⟨a, sb, ha⟩ => ?_) (.inr hyl))
  obtain ⟨f0, f1, f2, f3, f4, f5⟩ := f
  have haC : C ≠ a := by
    rcases ha with z | z
    · rw [z]; exact f1
    · exact fun e => f4 y a z e.symm
  refine ⟨m, hn.sameBut sb haC, fun h3 sb3 => ?_⟩
  exact ⟨_, H', I2.turned (t' := s2.toks) (fun b o hb e => (sb3.2 b hb).trans e) f0 f1 f3 f4 f5, q⟩
end
end MD

set_option Elab.async false
set_option linter.all false
set_option maxRecDepth 100000
set_option maxHeartbeats 1000000
namespace MD
open PySem PySem.Spec PyProof.Rows L2

/-! ### == with an empty list or tuple, whatever the other holds -/
def emE : D → D → Option Bool
  | .lst ds, .lst [] => some ds.isEmpty
  | .tup ds, .tup [] => some ds.isEmpty
  | _, _ => none
def eqN (d e : D) : Option D := (eqM d e).orElse fun _ => (emE d e).map D.bl
def neN (d e : D) : Option D := (neM d e).orElse fun _ => (emE d e).map fun b => D.bl (!b)
def Emp (K : Fg) (x y : V) (H : Hp) (b : Bool) : Prop :=
  ∃ a c xs, x = .ref a ∧ y = .ref c ∧ b = List.isEmpty xs ∧ ((SqL K H a xs ∧ SqL K H c []) ∨ (SqT K H a xs ∧ SqT K H c []))
def rEqE (K : Fg) : R2 := fun x y H Q => ∃ b, Emp K x y H b ∧ Q (.bl b) H
def rNeE (K : Fg) : R2 := fun x y H Q => ∃ b, Emp K x y H b ∧ Q (.bl (!b)) H
theorem vals_nil {its : List Value} (r : Vals [] its) : its = [] := by cases r; rfl
theorem emp_at {X : Cx} {pins : List (Addr × Obj)} {σ : List (Option V)} {H : Hp} {s : Shared} (I : Inv X pins σ H s) (hu : X.A.units + 64 < cLine) {x y : V} {v u : Value} {b : Bool} (h : Emp X.K x y H b) (rx : RelV x v) (ry : RelV y u) :
    SeqAt.RcAt X.A s v u b ∧ SeqAt.RcNeAt X.A s v u (!b) := by
  obtain ⟨a, c, xs, rfl, rfl, rfl, hh⟩ := h
  cases rx
  cases ry
  have hu1 : X.A.units < cLine := by omega
  rcases hh with ⟨h1, h2⟩ | ⟨h1, h2⟩
  · obtain ⟨its, r1, ⟨o, n, ho, hc, _, hd⟩, _⟩ := I.list h1
    obtain ⟨its2, r2, ⟨o2, n2, ho2, hc2, _, hd2⟩, _⟩ := I.list h2
    cases vals_nil r2
    have l1 : s.heap.IsList a its.toArray := ⟨o, ho, hc, n, hd⟩
    have l2 : s.heap.IsList c #[] := ⟨o2, ho2, hc2, n2, hd2⟩
    have hl := r1.length
    cases xs with
    | nil =>
      cases vals_nil r1
      exact ⟨SeqAt.RcAt.lists (e := fun _ => true) l1 l2 rfl hu1 (fun j h1 _ => absurd h1 (by simp)), SeqAt.RcNeAt.lists (e := fun _ => true) l1 l2 rfl hu1 (fun j h1 _ => absurd h1 (by simp))⟩
    | cons x xs =>
      have hz : (its.toArray.size != (#[] : Array Value).size) = true := by
        simp at hl ⊢
        intro z
        rw [z] at hl
        simp at hl
      exact ⟨SeqAt.RcAt.lists_lengths l1 l2 hz hu1, SeqAt.RcNeAt.lists_lengths l1 l2 hz hu1⟩
  · obtain ⟨its, r1, ⟨o, ho, hc, n, hd⟩, _⟩ := I.tuple h1
    obtain ⟨its2, r2, ⟨o2, ho2, hc2, n2, hd2⟩, _⟩ := I.tuple h2
    cases vals_nil r2
    have l1 : s.heap.IsTuple a its.toArray := ⟨o, ho, hc, n, hd⟩
    have l2 : s.heap.IsTuple c #[] := ⟨o2, ho2, hc2, n2, hd2⟩
    have hl := r1.length
    have q1 := SeqAt.RcAt.tuples (e := fun _ => true) l1 l2 hu1 (fun j _ h2 => absurd h2 (by simp))
    have q2 := SeqAt.RcNeAt.tuples (e := fun _ => true) l1 l2 hu1 (fun j _ h2 => absurd h2 (by simp))
    have hb : ((List.range (min its.toArray.size (#[] : Array Value).size)).all (fun _ => true) && its.toArray.size == (#[] : Array Value).size) = xs.isEmpty := by
      cases xs with
      | nil => cases vals_nil r1; rfl
      | cons x xs =>
        have : its ≠ [] := fun z => by rw [z] at hl; simp at hl
        cases its with
        | nil => exact absurd rfl this
        | cons _ _ => simp
    rw [hb] at q1 q2
    exact ⟨q1, q2⟩
theorem op_eqE {X : Cx} (hu : X.A.units + 64 < cLine) : OpR X (compareOp .Eq) (rEqE X.K) := by
  intro pins s σ H x y v u Q I rx ry h
  obtain ⟨b, hb, q⟩ := h
  exact (emp_at I hu hb rx ry).1 X.prog X.w _ _ ⟨.bl b, H, I, rfl, q⟩
theorem op_neE {X : Cx} (hu : X.A.units + 64 < cLine) : OpR X (compareOp .NotEq) (rNeE X.K) := by
  intro pins s σ H x y v u Q I rx ry h
  obtain ⟨b, hb, q⟩ := h
  exact (emp_at I hu hb rx ry).2 X.prog X.w _ _ ⟨.bl (!b), H, I, rfl, q⟩
section
variable {K : Fg}
theorem emE_ok {dk : Dk} {F : Fz} {H : Hp} (s : Sb F H) {x y : V} {d e : D} {b : Bool} (rx : Rw K dk F H x d) (ry : Rw K dk F H y e) (h : emE d e = some b) : Emp K x y H b := by
  unfold emE at h
  split at h
  · cases h
    obtain ⟨p, vs, rfl, h1, r1⟩ := rx.l s
    obtain ⟨q, us, rfl, h2, r2⟩ := ry.l s
    cases r2
    refine ⟨p, q, vs, rfl, rfl, ?_, .inl ⟨SqL.of h1, SqL.of h2⟩⟩
    cases r1 <;> rfl
  · cases h
    obtain ⟨p, vs, rfl, h1, r1⟩ := rx.tup s
    obtain ⟨q, us, rfl, h2, r2⟩ := ry.tup s
    cases r2
    refine ⟨p, q, vs, rfl, rfl, ?_, .inr ⟨h1, h2⟩⟩
    cases r1 <;> rfl
  · cases h
theorem ro_eqE : RO K (rEqE K) (fun d e => (emE d e).map D.bl) := by
  intro dk F H st x y d e z w rx ry hz Q q
  obtain ⟨b, hb, rfl⟩ := mpd hz
  exact ⟨b, emE_ok w.sub rx ry hb, q (.bl b) F H (Px.refl w.sub) (.bl b)⟩
theorem ro_neE : RO K (rNeE K) (fun d e => (emE d e).map fun b => D.bl (!b)) := by
  intro dk F H st x y d e z w rx ry hz Q q
  obtain ⟨b, hb, rfl⟩ := mpd hz
  exact ⟨b, emE_ok w.sub rx ry hb, q (.bl (!b)) F H (Px.refl w.sub) (.bl (!b))⟩
def rEqN (K : Fg) : R2 := fun x y H Q => rEqA K x y H Q ∨ rEqE K x y H Q
def rNeN (K : Fg) : R2 := fun x y H Q => rNeA K x y H Q ∨ rNeE K x y H Q
theorem ro_eqN : RO K (rEqN K) eqN := ro_eq.or ro_eqE
theorem ro_neN : RO K (rNeN K) neN := ro_ne.or ro_neE
end
theorem op_eqN {X : Cx} (hu : X.A.units + 64 < cLine) : OpR X (compareOp .Eq) (rEqN X.K) := OpR.or (op_eqA hu) (op_eqE hu)
theorem op_neN {X : Cx} (hu : X.A.units + 64 < cLine) : OpR X (compareOp .NotEq) (rNeN X.K) := OpR.or (op_neA hu) (op_neE hu)

/-! ### repr of data in which empty dicts lie -/
mutual
inductive Rds (h : Heap) : Value → PyData → Prop
  | none : Rds h .none .none
  | bool (b : Bool) : Rds h (.bool b) (.bool b)
  | int (i : Int) (t : Tok) : Rds h (.int i t) (.int i)
  | str (x : Str) (t : Tok) : Rds h (.str x t) (.str x)
  | list {a : Addr} {o : Obj} {vs : List Value} {n : Nat} {xs : List PyData} : h.get? a = some o → o.cls = .type "list" → o.data = .seq vs.toArray n → RdsAll h vs xs → Rds h (.ref a) (.list xs)
  | tuple {a : Addr} {o : Obj} {vs : List Value} {n : Nat} {xs : List PyData} : h.get? a = some o → o.cls = .type "tuple" → o.data = .seq vs.toArray n → RdsAll h vs xs → Rds h (.ref a) (.tuple xs)
  | dict0 {a : Addr} {o : Obj} {n : Nat} : h.get? a = some o → o.cls = .type "dict" → o.data = .dict #[] n → (a == sysModules) = false → Rds h (.ref a) (.dict [])
inductive RdsAll (h : Heap) : List Value → List PyData → Prop
  | nil : RdsAll h [] []
  | cons {v : Value} {vs : List Value} {d : PyData} {ds : List PyData} : Rds h v d → RdsAll h vs ds → RdsAll h (v :: vs) (d :: ds)
end
mutual
theorem Rds.reads {h : Heap} : ∀ {v : Value} {d : PyData}, Rds h v d → ∃ as, Reads h v d as
  | _, _, .none => ⟨_, .none⟩
  | _, _, .bool b => ⟨_, .bool b⟩
  | _, _, .int i t => ⟨_, .int i t⟩
  | _, _, .str x t => ⟨_, .str x t⟩
  | _, _, .list h1 h2 h3 h4 => by
    obtain ⟨as, r⟩ := h4.reads
    exact ⟨_, .list h1 h2 h3 (by simpa using r)⟩
  | _, _, .tuple h1 h2 h3 h4 => by
    obtain ⟨as, r⟩ := h4.reads
    exact ⟨_, .tuple h1 h2 h3 (by simpa using r)⟩
  | _, _, .dict0 h1 h2 h3 _ => ⟨_, .dict (kvs := []) h1 h2 h3 .nil .nil⟩
theorem RdsAll.reads {h : Heap} : ∀ {vs : List Value} {ds : List PyData}, RdsAll h vs ds → ∃ as, ReadsAll h vs ds as
  | _, _, .nil => ⟨_, .nil⟩
  | _, _, .cons r rs => by
    obtain ⟨as, q⟩ := r.reads
    obtain ⟨bs, qs⟩ := rs.reads
    exact ⟨_, .cons q qs⟩
end
section
variable {prog : Program} {w : World} {h₀ : Heap}
mutual
theorem reprK_of {h₀ : Heap} : ∀ {v : Value} {d : PyData}, Rds h₀ v d → d.showable = true → d.shown.length ≤ sizeLine → ∃ bs, ReadAtMost h₀ d.depth bs ∧ ReprK prog w bs h₀ d.depth v d.shown
  | _, _, .none, _, _ => ⟨[], (fun _ h => nomatch h), by simp only [PyData.shown]; exact .of_is ReprIs.none _ _ _⟩
  | _, _, .bool b, _, _ => ⟨[], (fun _ h => nomatch h), by simp only [PyData.shown]; exact .of_is (ReprIs.bool b) _ _ _⟩
  | _, _, .int i t, hs, _ => ⟨[], (fun _ h => nomatch h), by simp only [PyData.shown]; exact .of_is (ReprIs.int t (by simpa [PyData.showable] using hs)) _ _ _⟩
  | _, _, .str x t, _, hz => ⟨[], (fun _ h => nomatch h), by simp only [PyData.shown]; exact .of_is (ReprIs.str x t (by simpa only [PyData.shown] using hz)) _ _ _⟩
  | _, _, .list (a := a) (vs := vs) (xs := xs) h1 h2 h3 h4, hs, hz => by
    have hz' : (listText (PyData.shownAll xs)).length ≤ sizeLine := by simpa only [PyData.shown] using hz
    obtain ⟨bs, hb, hk⟩ := reprAllK_of h4 (by simpa [PyData.showable] using hs) (fun t ht => Nat.le_trans (listText_mem_le ht) hz')
    obtain ⟨as, r⟩ := (Rds.list h1 h2 h3 h4).reads
    have hna : a ∉ bs := not_mem_of_deeper r (by simp only [PyData.depth]; omega) hb
    refine ⟨a :: bs, ReadAtMost.cons r (by simp only [PyData.depth]; omega) hb, ?_⟩
    simp only [PyData.depth, PyData.shown]
    cases h4 with
    | nil =>
      simp only [PyData.shownAll, listText_nil]
      exact ReprK.listEmpty h1 h2 h3
    | cons q qs => exact ReprK.list h1 h2 h3 hna (by simpa using hk.length_eq) (fun i y e => hk.item i y (by simpa using e))
  | _, _, .tuple (a := a) (xs := xs) h1 h2 h3 h4, hs, hz => by
    have hz' : (tupleText (PyData.shownAll xs)).length ≤ sizeLine := by simpa only [PyData.shown] using hz
    obtain ⟨bs, hb, hk⟩ := reprAllK_of h4 (by simpa [PyData.showable] using hs) (fun t ht => Nat.le_trans (tupleText_mem_le ht) hz')
    obtain ⟨as, r⟩ := (Rds.tuple h1 h2 h3 h4).reads
    have hna : a ∉ bs := not_mem_of_deeper r (by simp only [PyData.depth]; omega) hb
    refine ⟨a :: bs, ReadAtMost.cons r (by simp only [PyData.depth]; omega) hb, ?_⟩
    simp only [PyData.depth, PyData.shown]
    exact ReprK.tuple h1 h2 h3 hna (by simpa using hk)
  | _, _, .dict0 (a := a) h1 h2 h3 hsys, _, _ => by
    obtain ⟨as, r⟩ := (Rds.dict0 h1 h2 h3 hsys).reads
    refine ⟨a :: [], ReadAtMost.cons (n := 0) r (Nat.zero_le _) (fun _ h => nomatch h), ?_⟩
    have := ReprK.dict (prog := prog) (w := w) (as := []) (d := 0) (ps := []) h1 h2 h3 hsys (fun h => nomatch h) .nil
    simpa [PyData.depth, PyData.depthKv, PyData.shown, PyData.shownKv] using this
theorem reprAllK_of {h₀ : Heap} : ∀ {vs : List Value} {ds : List PyData}, RdsAll h₀ vs ds → PyData.showableAll ds = true → (∀ t ∈ PyData.shownAll ds, t.length ≤ sizeLine) →
    ∃ bs, ReadAtMost h₀ (PyData.depthAll ds) bs ∧ ReprAllK prog w bs h₀ (PyData.depthAll ds) vs (PyData.shownAll ds)
  | _, _, .nil, _, _ => ⟨[], (fun _ h => nomatch h), by simp only [PyData.shownAll]; exact .nil⟩
  | _, _, .cons (d := d) (ds := ds) r rs, hs, hz => by
    have hs' : d.showable = true ∧ PyData.showableAll ds = true := by simpa [PyData.showableAll] using hs
    obtain ⟨b1, hb1, k1⟩ := reprK_of r hs'.1 (hz _ (by simp only [PyData.shownAll]; exact List.mem_cons_self ..))
    obtain ⟨b2, hb2, k2⟩ := reprAllK_of rs hs'.2 (fun t ht => hz t (by simp only [PyData.shownAll]; exact List.mem_cons_of_mem _ ht))
    refine ⟨b1 ++ b2, ?_, ?_⟩
    · simp only [PyData.depthAll]
      exact (hb1.mono (Nat.le_max_left _ _)).append (hb2.mono (Nat.le_max_right _ _))
    · simp only [PyData.depthAll, PyData.shownAll]
      exact .cons ((k1.more fun b hb => List.mem_append_left _ hb).level_le (Nat.le_max_left _ _)) (k2.more_le (fun b hb => List.mem_append_right _ hb) (Nat.le_max_right _ _))
end
theorem showsBy_of {a : Addr} {d : PyData} (r : Rds h₀ (.ref a) d) (hs : d.showable = true) (hz : d.shown.length ≤ sizeLine) : ∃ T idr, ShowsBy prog w h₀ a d T idr := by
  cases r with
  | @list _ o vs n xs h1 h2 h3 h4 =>
    have hz' : (listText (PyData.shownAll xs)).length ≤ sizeLine := by simpa only [PyData.shown] using hz
    obtain ⟨bs, hb, hk⟩ := reprAllK_of (prog := prog) (w := w) h4 (by simpa [PyData.showable] using hs) (fun t ht => Nat.le_trans (listText_mem_le ht) hz')
    obtain ⟨as, r⟩ := (Rds.list h1 h2 h3 h4).reads
    have hna : a ∉ bs := not_mem_of_deeper r (by simp only [PyData.depth]; omega) hb
    refine ⟨"list", "list.__repr__", F.slot_list_repr.toG, F.slot_list_str, F.slot_list_format, fun s hk0 => ⟨o, hk0 _ _ h1, h2⟩, fun A E s Q hg hu hk0 hQ => ?_⟩
    simp only [PyData.depth] at hu
    simp only [PyData.shown] at hQ
    cases h4 with
    | nil =>
      simp only [PyData.shownAll, listText_nil] at hQ
      exact call_list_repr_empty ⟨o, hk0 _ _ h1, h2⟩ (hk0 _ _ h1) h3 (hQ s.heap _ _ fun _ _ e => e)
    | cons q qs => exact call_list_reprK h1 h2 h3 hna (by simpa using hk.length_eq) (fun i y e => hk.item i y (by simpa using e)) hg (fun b _ => Clear.nil b) hu hk0 hQ hz'
  | @tuple _ o vs n xs h1 h2 h3 h4 =>
    have hz' : (tupleText (PyData.shownAll xs)).length ≤ sizeLine := by simpa only [PyData.shown] using hz
    obtain ⟨bs, hb, hk⟩ := reprAllK_of (prog := prog) (w := w) h4 (by simpa [PyData.showable] using hs) (fun t ht => Nat.le_trans (tupleText_mem_le ht) hz')
    obtain ⟨as, r⟩ := (Rds.tuple h1 h2 h3 h4).reads
    have hna : a ∉ bs := not_mem_of_deeper r (by simp only [PyData.depth]; omega) hb
    refine ⟨"tuple", "tuple.__repr__", F.slot_tuple_repr, F.slot_tuple_str, F.slot_tuple_format, fun s hk0 => ⟨o, hk0 _ _ h1, h2⟩, fun A E s Q hg hu hk0 hQ => ?_⟩
    simp only [PyData.depth] at hu
    simp only [PyData.shown] at hQ
    exact call_tuple_reprK h1 h2 h3 hna (by simpa using hk) hg (fun b _ => Clear.nil b) hu hk0 hQ hz'
  | @dict0 _ o n h1 h2 h3 hsys =>
    refine ⟨"dict", "dict.__repr__", F.slot_dict_repr, F.slot_dict_str, F.slot_dict_format, fun s hk0 => ⟨o, hk0 _ _ h1, h2⟩, fun A E s Q hg hu hk0 hQ => ?_⟩
    simp only [PyData.depth, PyData.depthKv] at hu
    simp only [PyData.shown, PyData.shownKv] at hQ
    have hz' : (dictText []).length ≤ sizeLine := by simpa only [PyData.shown, PyData.shownKv] using hz
    exact call_dict_reprK (as := []) (d := 0) (ps := []) h1 h2 h3 hsys (fun h => nomatch h) .nil hg (fun b _ => Clear.nil b) hu hk0 hQ hz'
theorem repr_of_rds {a : Addr} {d : PyData} {A : Around} {E : Value → Shared → Prop} {s : Shared} {Q : Value → Shared → Prop} (r : Rds s.heap (.ref a) d) (hs : d.showable = true) (hg : A.guards = some []) (hu : A.units + (d.depth + 1) < cLine)
    (hQ : ∀ h' u tk, (∀ b o, s.heap.get? b = some o → h'.get? b = some o) → Q (.str d.shown u) { s with heap := h', toks := tk })
    (hz : d.shown.length ≤ sizeLine) : wpAny (model prog w) A (call (.builtin "repr") [.ref a]) Q E s := by
  obtain ⟨T, idr, S⟩ := showsBy_of (prog := prog) (w := w) r hs hz
  exact call_repr_slot (by omega) (S.typeIs s fun _ _ e => e) S.slotRepr (S.call A.in1 E s _ hg (by show A.units + 1 + d.depth < cLine; omega) (fun _ _ e => e) fun h' u tk hk => ⟨_, _, rfl, hQ h' u tk hk⟩)
end
/-! data of values, empty dicts among them -/
mutual
inductive Dq (K : Fg) (H : Hp) : V → PyData → Prop
  | non : Dq K H .non .none
  | bl (b : Bool) : Dq K H (.bl b) (.bool b)
  | int (i : Int) : Dq K H (.int i) (.int i)
  | str (x : Str) : Dq K H (.str x) (.str x)
  | lst {a : Addr} {xs : List V} {ds : List PyData} : SqL K H a xs → DqAll K H xs ds → Dq K H (.ref a) (.list ds)
  | tup {a : Addr} {xs : List V} {ds : List PyData} : SqT K H a xs → DqAll K H xs ds → Dq K H (.ref a) (.tuple ds)
  | dic {a : Addr} : Rd H a (.dK []) → Dq K H (.ref a) (.dict [])
inductive DqAll (K : Fg) (H : Hp) : List V → List PyData → Prop
  | nil : DqAll K H [] []
  | cons {v : V} {vs : List V} {d : PyData} {ds : List PyData} : Dq K H v d → DqAll K H vs ds → DqAll K H (v :: vs) (d :: ds)
end
section
variable {X : Cx} {pins : List (Addr × Obj)} {σ : List (Option V)} {H : Hp} {s : Shared}
mutual
theorem Dq.rds (I : Inv X pins σ H s) : ∀ {v : V} {d : PyData} {u : Value}, Dq X.K H v d → RelV v u → Rds s.heap u d
  | _, _, _, .non, r => by cases r; exact .none
  | _, _, _, .bl b, r => by cases r; exact .bool b
  | _, _, _, .int i, r => by obtain ⟨t, rfl⟩ := r; exact .int i t
  | _, _, _, .str x, r => by obtain ⟨t, rfl⟩ := r; exact .str x t
  | _, _, _, .lst h1 h2, r => by
    cases r
    obtain ⟨its, rv, ⟨o, n, ho, hc, _, hd⟩, _⟩ := I.list h1
    exact .list ho hc hd (DqAll.rds I h2 rv)
  | _, _, _, .tup h1 h2, r => by
    cases r
    obtain ⟨its, rv, ⟨o, ho, hc, n, hd⟩, _⟩ := I.tuple h1
    exact .tuple ho hc hd (DqAll.rds I h2 rv)
  | _, _, _, .dic h, r => by
    cases r
    obtain ⟨_, hs, vs, kv, o, es, ep, ho, hx, hd, _, hp, _⟩ := dk_rd I.hok h
    cases kv
    have he : es = #[] := by
      have := hp.length
      apply Array.eq_empty_of_size_eq_zero
      simpa using this
    subst he
    exact .dict0 ho hx.1 hd hs
theorem DqAll.rds (I : Inv X pins σ H s) : ∀ {vs : List V} {ds : List PyData} {us : List Value}, DqAll X.K H vs ds → Vals vs us → RdsAll s.heap us ds
  | _, _, _, .nil, r => by cases r; exact .nil
  | _, _, _, .cons h1 h2, r => by
    cases r with
    | cons r1 r2 => exact .cons (Dq.rds I h1 r1) (DqAll.rds I h2 r2)
end
end
def rReprQ (K : Fg) : List V → Hp → VK → Prop := fun xs H Q => ∃ x d, xs = [x] ∧ Dq K H x d ∧ d.showable = true ∧ d.depth ≤ 60 ∧ d.shown.length ≤ sizeLine ∧ Q (.str d.shown) H
theorem call_reprQ {X : Cx} (hg : X.A.guards = some []) (hu : X.A.units + 64 < cLine) : CallR X (.builtin "repr") (rReprQ X.K) := by
  intro pins s σ H xs us Q I rs h
  obtain ⟨x, d, rfl, hd, hs, hdp, hz, q⟩ := h
  obtain ⟨u, rfl, rx⟩ := vals1 rs
  have hr := Dq.rds I hd rx
  cases id hd with
  | non => cases rx; exact PySem.P.repr_of_none ⟨.str _, H, I.tok _, ⟨_, rfl⟩, q⟩
  | bl b => cases rx; exact PySem.P.repr_of_bool ⟨.str _, H, I.tok _, ⟨_, rfl⟩, q⟩
  | int i =>
    obtain ⟨t, rfl⟩ := rx
    exact PySem.P.repr_of_int (by simpa [PyData.showable] using hs) ⟨.str _, H, I.tok _, ⟨_, rfl⟩, q⟩
  | str y =>
    obtain ⟨t, rfl⟩ := rx
    exact PySem.P.repr_of_str ⟨.str _, H, I.tok _, ⟨_, rfl⟩, q⟩ hz
  | lst h1 h2 =>
    cases rx
    exact repr_of_rds hr hs hg (by omega) (fun h' u tk hk => ⟨.str _, H, I.kept hk, ⟨_, rfl⟩, q⟩) hz
  | tup h1 h2 =>
    cases rx
    exact repr_of_rds hr hs hg (by omega) (fun h' u tk hk => ⟨.str _, H, I.kept hk, ⟨_, rfl⟩, q⟩) hz
  | dic h1 =>
    cases rx
    exact repr_of_rds hr hs hg (by omega) (fun h' u tk hk => ⟨.str _, H, I.kept hk, ⟨_, rfl⟩, q⟩) hz
mutual
def D.qy : D → PyData
  | .non => .none
  | .bl b => .bool b
  | .int i => .int i
  | .str s => .str s
  | .lst xs => .list (qyAll xs)
  | .tup xs => .tuple (qyAll xs)
  | .deck => .none
  | .dic _ _ => .dict []
  | .ref _ => .none
def qyAll : List D → List PyData
  | [] => []
  | x :: xs => D.qy x :: qyAll xs
end
mutual
def D.ql : D → Bool
  | .lst xs => qlAll xs
  | .tup xs => qlAll xs
  | .deck => false
  | .dic ks ds => ks.isEmpty && ds.isEmpty
  | .ref _ => false
  | .non => true
  | .bl _ => true
  | .int _ => true
  | .str _ => true
def qlAll : List D → Bool
  | [] => true
  | x :: xs => D.ql x && qlAll xs
end
section
variable {K : Fg} {dk : Dk} {F : Fz} {H : Hp}
mutual
theorem Rp.dq (le : Sb F H) : ∀ {v : V} {d : D}, Rp K dk F v d → d.ql = true → Dq K H v d.qy
  | _, _, .non, _ => .non
  | _, _, .bl b, _ => .bl b
  | _, _, .int i, _ => .int i
  | _, _, .str x, _ => .str x
  | _, _, .lst h r, p => .lst (SqL.of (le.lst h)) (Rps.dq le r (by simpa [D.ql] using p))
  | _, _, .tup h r, p => .tup (le.sqT h) (Rps.dq le r (by simpa [D.ql] using p))
  | _, _, .deck, p => by simp [D.ql] at p
  | _, _, .dic (ks := ks) h hl r, p => by
    have p' : ks = [] := by
      simp [D.ql] at p
      exact p.1
    subst p'
    exact .dic (le.dK h)
  | _, _, .ref _, p => by simp [D.ql] at p
theorem Rps.dq (le : Sb F H) : ∀ {vs : List V} {ds : List D}, Rps K dk F vs ds → qlAll ds = true → DqAll K H vs (qyAll ds)
  | _, _, .nil, _ => .nil
  | _, _, .cons a b, p => by
    simp only [qlAll, Bool.and_eq_true] at p
    exact .cons (Rp.dq le a p.1) (Rps.dq le b p.2)
end
theorem Rw.dq (le : Sb F H) {v : V} {d : D} (r : Rw K dk F H v d) (p : d.ql = true) : Dq K H v d.qy := by
  cases r with
  | rp r => exact r.dq le p
  | lst h r => exact .lst (SqL.of h) (r.dq le (by simpa [D.ql] using p))
  | dic h hl r =>
    rename_i ks _ _
    have p' : ks = [] := by
      simp [D.ql] at p
      exact p.1
    subst p'
    exact .dic h
end
def reprQ : List D → Option D
  | [d] => if d.ql && d.qy.showable && decide (d.qy.depth ≤ 60) && decide (d.qy.shown.length ≤ sizeLine) then some (.str d.qy.shown) else none
  | _ => none
theorem rc_reprQ {K : Fg} : RC K (rReprQ K) reprQ := by
  intro dk F H st vs ds z w rx hz Q q
  unfold reprQ at hz
  split at hz
  · split at hz
    · rename_i ho
      cases hz
      simp only [Bool.and_eq_true, decide_eq_true_eq] at ho
      obtain ⟨v, rfl, r⟩ := rx.one
      exact ⟨v, _, rfl, r.dq w.sub ho.1.1.1, ho.1.1.2, ho.1.2, ho.2, q _ F H (Px.refl w.sub) (.str _)⟩
    · cases hz
  · cases hz
end MD

set_option Elab.async false
set_option linter.all false
set_option maxRecDepth 100000
set_option maxHeartbeats 1000000
namespace MD
open PySem L2

/-! ### mirrors, evaluated -/
noncomputable def grd {α : Type} (n : Nat) (o : Option α) : Option α := cif (n ≤ sizeLine) o
theorem grd_eq {α : Type} (n : Nat) (o : Option α) : (if n ≤ sizeLine then o else none) = grd n o := cif_eq _ _
theorem grd_lt {α : Type} (n : Nat) (o : Option α) : (if n < sizeLine then o else none) = grd (n + 1) o := cif_eq _ _
theorem grd_of {α : Type} {n : Nat} {o : Option α} (h : n ≤ 1000000) : grd n o = o := if_pos (Nat.le_trans h (by decide))
noncomputable def rng1 : List D → Option (List D)
  | [.int j] => cif (-(2 ^ 62) ≤ j ∧ j < 2 ^ 62) (some (rngD 0 j.toNat))
  | _ => none
noncomputable def rng2 : List D → Option (List D)
  | [.int i, .int j] => cif (-(2 ^ 62) ≤ i ∧ i < 2 ^ 62 ∧ -(2 ^ 62) ≤ j ∧ j < 2 ^ 62) (some (rngD i (j - i).toNat))
  | _ => none
theorem rng1_of {j : Int} (h0 : -1000000 ≤ j) (h1 : j ≤ 1000000) : rng1 [.int j] = some (rngD 0 j.toNat) := cif_of ⟨by omega, by omega⟩
theorem rng2_of {i j : Int} (h0 : -1000000 ≤ i) (h1 : i ≤ 1000000) (h2 : -1000000 ≤ j) (h3 : j ≤ 1000000) : rng2 [.int i, .int j] = some (rngD i (j - i).toNat) := cif_of ⟨by omega, by omega, by omega, by omega⟩
theorem rngD_len (lo : Int) (n : Nat) : (rngD lo n).length = n := by unfold rngD; simp
theorem small_sz {n : Nat} (h : n ≤ 1000000) : n ≤ sizeLine := Nat.le_trans h (by decide)
/-! what does not stand in the store is itself -/
@[simp] theorem dr_non (st : S) : dr st .non = .non := (rfl)
@[simp] theorem dr_bl (st : S) (b : Bool) : dr st (.bl b) = .bl b := (rfl)
@[simp] theorem dr_int (st : S) (i : Int) : dr st (.int i) = .int i := (rfl)
@[simp] theorem dr_str (st : S) (x : Str) : dr st (.str x) = .str x := (rfl)
@[simp] theorem dr_lst (st : S) (ds : List D) : dr st (.lst ds) = .lst ds := (rfl)
@[simp] theorem dr_tup (st : S) (ds : List D) : dr st (.tup ds) = .tup ds := (rfl)
@[simp] theorem dr_deck (st : S) : dr st .deck = .deck := (rfl)
@[simp] theorem dr_dic (st : S) (ks : List L2.Key) (ds : List D) : dr st (.dic ks ds) = .dic ks ds := (rfl)
theorem dr_ref (st : S) (n : Nat) : dr st (.ref n) = match st.ob[n]? with | some (.lst ds) => .lst ds | some (.dic _ ks ds) => .dic ks ds | _ => .ref n := (rfl)
theorem dr_of {st : S} {d : D} (h : ∀ n, d ≠ .ref n) : dr st d = d := by
  cases d with
  | ref n => exact absurd rfl (h n)
  | _ => rfl
@[simp] theorem nonD_dr (st : S) (d : D) : nonD (dr st d) = nonD d := by
  cases d with
  | ref n =>
    rw [dr_ref]
    split <;> rfl
  | _ => rfl
@[simp] theorem map_dr_nil (st : S) : List.map (dr st) [] = [] := rfl
section
variable {env : Sg} {st : S} {f h fa fb fc fe fo : ME} {c : MT} {a r : MA} {i j n : Nat} {d e : D} {ds es : List D}
@[simp] theorem v_frz : frz a env st = (a env st).map fun p => (D.lst p.1, p.2) := (rfl)
@[simp] theorem v_rd : rd i env st = (match env[i]? with | some (.val d) => some (d, st) | _ => none) := (rfl)
@[simp] theorem v_rdW : rdW i env st = (match env[i]? with | some (.val d) => some (d, st) | some (.own (.lst, ds)) => some (D.lst ds, st) | some (.own (.dic ks, ds)) => some (D.dic ks ds, st) | _ => none) := (rfl)
@[simp] theorem v_cst : cst d env st = some (d, st) := (rfl)
@[simp] theorem v_opM {g : D → D → Option D} : opM g fa fb env st = (fa env st).bind fun p => (fb env p.2).bind fun q => (g (dr q.2 p.1) (dr q.2 q.1)).map fun z => (z, q.2) := (rfl)
@[simp] theorem v_unM {g : D → Option D} : unM g fa env st = (fa env st).bind fun p => (g p.1).map fun z => (z, p.2) := (rfl)
@[simp] theorem v_slM {g : D → Option Int → Option Int → Option D} {fl fh : MO} : slM g fe fl fh env st = (fe env st).bind fun p => (fl env p.2).bind fun l => (fh env l.2).bind fun u => (g (dr u.2 p.1) l.1 u.1).map fun z => (z, u.2) := (rfl)
@[simp] theorem v_noP : noP env st = some (none, st) := (rfl)
@[simp] theorem v_prt : prt f env st = (f env st).bind fun p => (intOf p.1).map fun i => (some i, p.2) := (rfl)
@[simp] theorem v_aNil : aNil env st = some ([], st) := (rfl)
@[simp] theorem v_aCons : aCons f r env st = (f env st).bind fun p => (r env p.2).map fun q => (p.1 :: q.1, q.2) := (rfl)
@[simp] theorem v_tupM : tupM a env st = (a env st).bind fun p => grd p.1.length (some (D.tup p.1, p.2)) := by
  unfold tupM; simp only [grd_eq]
@[simp] theorem v_lstM : lstM a env st = (a env st).bind fun p => grd p.1.length (some p) := by
  unfold lstM; simp only [grd_eq]
@[simp] theorem v_cbM {g : List D → Option D} : cbM g a env st = (a env st).bind fun p => (g (p.1.map (dr p.2))).map fun z => (z, p.2) := (rfl)
@[simp] theorem v_m1M {g : D → List D → Option D} : m1M g fo fe env st = (fo env st).bind fun p => if isStrD p.1 then (fe env p.2).bind fun q => (g p.1 [dr q.2 q.1]).map fun z => (z, q.2) else none := (rfl)
@[simp] theorem v_bmL {g : D → List D → Option D} : bmL g fo a env st = (fo env st).bind fun p => if isLstD (dr p.2 p.1) then (a env p.2).bind fun q => (g (dr q.2 p.1) (q.1.map (dr q.2))).map fun z => (z, q.2) else none := (rfl)
@[simp] theorem v_tstM : tstM f env st = (f env st).bind fun p => (blOf p.1).map fun b => (b, p.2) := (rfl)
@[simp] theorem v_truM : truM f env st = (f env st).bind fun p => (truD (dr p.2 p.1)).map fun b => (b, p.2) := (rfl)
@[simp] theorem v_andM {c' : MT} : andM c c' env st = (c env st).bind fun p => if p.1 then c' env p.2 else some (false, p.2) := (rfl)
@[simp] theorem v_orM {c' : MT} : orM c c' env st = (c env st).bind fun p => if p.1 then some (true, p.2) else c' env p.2 := (rfl)
@[simp] theorem v_notM : notM c env st = (c env st).map fun p => (!p.1, p.2) := (rfl)
@[simp] theorem v_andV : andV f h env st = (f env st).bind fun p => (blOf p.1).bind fun b => if b then h env p.2 else some (D.bl false, p.2) := (rfl)
@[simp] theorem v_orV : orV f h env st = (f env st).bind fun p => (blOf p.1).bind fun b => if b then some (D.bl true, p.2) else h env p.2 := (rfl)
@[simp] theorem v_notV : notV f env st = (f env st).bind fun p => (blOf p.1).map fun b => (D.bl (!b), p.2) := (rfl)
@[simp] theorem v_ifM : ifM c f h env st = (c env st).bind fun p => if p.1 then f env p.2 else h env p.2 := (rfl)
@[simp] theorem v_chM {g g' : D → D → Option D} : chM g g' fa fb fc env st = (fa env st).bind fun p => (fb env p.2).bind fun q => (g p.1 q.1).bind fun z => (blOf z).bind fun b =>
  if b then (fc env q.2).bind fun r => (g' q.1 r.1).map fun z => (z, r.2) else some (D.bl false, q.2) := (rfl)
@[simp] theorem v_nxM : nxM env st = some (.nx env, st) := (rfl)
@[simp] theorem v_seqM {p q : MS} : seqM p q env st = (p env st).bind fun x => match x.1 with | .nx e => q e x.2 | fl => some (fl, x.2) := (rfl)
@[simp] theorem v_retM : retM f env st = (f env st).map fun p => (.rt p.1, p.2) := (rfl)
@[simp] theorem v_retN : retN env st = some (.rt .non, st) := (rfl)
@[simp] theorem v_ifS {p q : MS} : ifS c p q env st = (c env st).bind fun x => if x.1 then p env x.2 else q env x.2 := (rfl)
@[simp] theorem v_dropM : dropM f env st = (f env st).map fun p => (.nx env, p.2) := (rfl)
@[simp] theorem v_nameT : nameT i d env = some (env.set i (.val d)) := (rfl)
@[simp] theorem v_nilT : nilT [] env = some env := (rfl)
@[simp] theorem v_consT {t : MG} {u : List D → Sg → Option Sg} : consT t u (d :: ds) env = (t d env).bind fun e => u ds e := (rfl)
@[simp] theorem v_tupT {u : List D → Sg → Option Sg} : tupT n u (.tup ds) env = if ds.length = n then u ds env else none := (rfl)
@[simp] theorem v_asgM {t : MG} : asgM t f env st = (f env st).bind fun p => (t p.1 env).map fun e => (.nx e, p.2) := (rfl)
@[simp] theorem v_ownM : ownM i a env st = (a env st).map fun p => (.nx (env.set i (.own (.lst, p.1))), p.2) := (rfl)
@[simp] theorem v_parM : parM i j a env st = (a env st).bind fun p => (two i j env p.1).map fun e => (.nx e, p.2) := (rfl)
@[simp] theorem v_two : two i j env [d, e] = some ((env.set i (.val d)).set j (.val e)) := (rfl)
@[simp] theorem v_augM {op : D → D → Option D} : augM i op f env st = (match env[i]? with | some (.val x) => (f env st).bind fun p => (op x p.1).map fun z => (.nx (env.set i (.val z)), p.2) | _ => none) := (rfl)
@[simp] theorem v_frzM {p : MS} : frzM i p env st = p (frzE i env) st := (rfl)
@[simp] theorem v_frzE : frzE i env = (match env[i]? with | some (.own (.lst, ds)) => env.set i (.val (.lst ds)) | some (.own (.dic ks, ds)) => env.set i (.val (.dic ks ds)) | _ => env) := (rfl)
@[simp] theorem v_appM : appM i f env st = (match env[i]? with | some (.own (.lst, ds)) => grd (ds.length + 1) ((f env st).map fun p => (.nx (env.set i (.own (.lst, ds ++ [p.1]))), p.2)) | _ => none) := by
  unfold appM; simp only [grd_lt] <;> rfl
@[simp] theorem v_extM : extM i f env st = (match env[i]? with | some (.own (.lst, ds)) => (f env st).bind fun p => (lstOf (dr p.2 p.1)).bind fun es => grd (ds.length + es.length) (some (.nx (env.set i (.own (.lst, ds ++ es))), p.2)) | _ => none) := by
  unfold extM; simp only [grd_eq] <;> rfl
@[simp] theorem v_yesM : yesM env st = some (true, st) := (rfl)
@[simp] theorem v_r1M : r1M a env st = (a env st).bind fun p => (rng1 p.1).map fun ds => (ds, p.2) := by
  unfold r1M
  congr 1
  funext p
  obtain ⟨l, s⟩ := p
  show (match l with | [.int j] => if -(2 ^ 62) ≤ j ∧ j < 2 ^ 62 then some (rngD 0 j.toNat, s) else none | _ => none) = (rng1 l).map fun ds => (ds, s)
  unfold rng1
  split
  · rw [cif_eq]; unfold cif; split <;> rfl
  · rfl
@[simp] theorem v_r2M : r2M a env st = (a env st).bind fun p => (rng2 p.1).map fun ds => (ds, p.2) := by
  unfold r2M
  congr 1
  funext p
  obtain ⟨l, s⟩ := p
  show (match l with | [.int i, .int j] => if -(2 ^ 62) ≤ i ∧ i < 2 ^ 62 ∧ -(2 ^ 62) ≤ j ∧ j < 2 ^ 62 then some (rngD i (j - i).toNat, s) else none | _ => none) = (rng2 l).map fun ds => (ds, s)
  unfold rng2
  split
  · rw [cif_eq]; unfold cif; split <;> rfl
  · rfl
@[simp] theorem v_seqI : seqI f env st = (f env st).bind fun p => (seqOf p.1).map fun ds => (ds, p.2) := (rfl)
@[simp] theorem v_enumI : enumI f env st = (f env st).bind fun p => (seqOf p.1).map fun ds => (enumD ds, p.2) := (rfl)
@[simp] theorem v_forM {it : MI} {t : MG} {b : MS} : forM it t b env st = (it env st).bind fun p => forL t b p.1 env p.2 := (rfl)
@[simp] theorem v_compM {it : MI} {t : MG} {vs : List Nat} : compM it t c f vs env st = (it env st).bind fun p => grd p.1.length (compL t c f (wipeE env vs) p.1 p.2) := by
  unfold compM; simp only [grd_eq]
@[simp] theorem v_callM {m : MF} : callM m a env st = (a env st).bind fun p => m p.1 p.2 := (rfl)
@[simp] theorem v_runM {b : MS} : runM n b ds st = (b (ds.map Sl.val ++ List.replicate (n - ds.length) Sl.un) st).bind fun p => match p.1 with | .rt d => some (d, p.2) | .nx _ => some (.non, p.2) | _ => none := (rfl)
@[simp] theorem v_wipe0 : wipeE env [] = env := (rfl)
@[simp] theorem v_wipe1 {v : Nat} {vs : List Nat} : wipeE env (v :: vs) = (wipeE env vs).set v .un := (rfl)
@[simp] theorem v_forL0 {t : MG} {b : MS} : forL t b [] env st = some (.nx env, st) := (rfl)
theorem v_forL {t : MG} {b : MS} : forL t b (d :: ds) env st = (t d env).bind fun env1 => (b env1 st).bind fun p => match p.1 with
    | .nx e => forL t b ds e p.2
    | .ct e => forL t b ds e p.2
    | .bk e => some (.nx e, p.2)
    | .rt r => some (.rt r, p.2) := (rfl)
@[simp] theorem v_compL0 {t : MG} : compL t c f env [] st = some ([], st) := (rfl)
theorem v_compL {t : MG} : compL t c f env (d :: ds) st = (t d env).bind fun e => (c e st).bind fun p => if p.1 then (f e p.2).bind fun q => (compL t c f env ds q.2).map fun r => (q.1 :: r.1, r.2) else compL t c f env ds p.2 := (rfl)
/-! dicts, the store -/
@[simp] theorem v_frzK {k : MK} : frzK k env st = (k env st).map fun p => (D.dic p.1.1 p.1.2, p.2) := (rfl)
@[simp] theorem v_ownK {k : MK} : ownK i k env st = (k env st).map fun p => (.nx (env.set i (.own (.dic p.1.1, p.1.2))), p.2) := (rfl)
@[simp] theorem v_newK : newK env st = some (([], []), st) := (rfl)
@[simp] theorem v_cpyK : cpyK f env st = (f env st).bind fun p => (isDicD (dr p.2 p.1)).map fun q => (q, p.2) := (rfl)
@[simp] theorem v_isDic {ks : List L2.Key} : isDicD (.dic ks ds) = some (ks, ds) := (rfl)
@[simp] theorem v_pNil : pNil env st = some ([], st) := (rfl)
@[simp] theorem v_pCons {r : MP} : pCons f h r env st = (f env st).bind fun p => (keyOf p.1).bind fun k => (h env p.2).bind fun q => (r env q.2).map fun z => ((k, q.1) :: z.1, z.2) := (rfl)
@[simp] theorem v_dispK {r : MP} : dispK r env st = (r env st).bind fun p => if p.1.length ≤ 15 then some (mrgL [] [] p.1, p.2) else none := (rfl)
@[simp] theorem v_mrg1 {k : L2.Key} : mrgL [] [] [(k, d)] = ([k], [d]) := (rfl)
@[simp] theorem v_keyI {j : Int} : keyOf (.int j) = some (.inl j) := (rfl)
@[simp] theorem v_keyS {x : Str} : keyOf (.str x) = some (.inr x) := (rfl)
@[simp] theorem v_get1M : get1M f h env st = (f env st).bind fun p => (isDicD (dr p.2 p.1)).bind fun _ => (h env p.2).bind fun q => (isDicD (dr q.2 p.1)).bind fun z => (keyOf q.1).map fun k => ((getK z.1 z.2 k).getD .non, q.2) := (rfl)
@[simp] theorem v_get2M : get2M f h fa env st = (f env st).bind fun p => (isDicD (dr p.2 p.1)).bind fun _ => (h env p.2).bind fun q => (fa env q.2).bind fun r => (isDicD (dr r.2 p.1)).bind fun z => (keyOf q.1).map fun k => ((getK z.1 z.2 k).getD r.1, r.2) := (rfl)
@[simp] theorem v_dputM : dputM i f h env st = (match env[i]? with
  | some (.own (.dic ks, ds)) => (h env st).bind fun p => (f env p.2).bind fun q => (keyOf q.1).bind fun k => grd (ds.length + 1) (some (.nx (env.set i (.own (.dic (putKs ks k), putVs ks ds k p.1))), q.2))
  | _ => none) := by
  unfold dputM; simp only [grd_lt] <;> rfl
@[simp] theorem v_subD {ks : List L2.Key} : subD (.dic ks ds) d = (keyOf d).bind fun k => getK ks ds k := (rfl)
@[simp] theorem v_subL : subD (.lst ds) d = ixM (.lst ds) d := (rfl)
@[simp] theorem v_subT : subD (.tup ds) d = ixM (.tup ds) d := (rfl)
@[simp] theorem v_subS {x : Str} : subD (.str x) d = ixM (.str x) d := (rfl)
@[simp] theorem v_cntD {n : Bool} {ks : List L2.Key} : cntD n d (.dic ks ds) = (keyOf d).map fun k => .bl (if n then !(getK ks ds k).isSome else (getK ks ds k).isSome) := (rfl)
@[simp] theorem v_cntL {n : Bool} : cntD n d (.lst ds) = if n then notInM d (.lst ds) else inM d (.lst ds) := (rfl)
@[simp] theorem v_cntT {n : Bool} : cntD n d (.tup ds) = if n then notInM d (.tup ds) else inM d (.tup ds) := (rfl)
@[simp] theorem v_cntS {n : Bool} {x : Str} : cntD n d (.str x) = if n then notInM d (.str x) else inM d (.str x) := (rfl)
@[simp] theorem v_lenAD {ks : List L2.Key} : lenA [.dic ks ds] = some (.int ks.length) := (rfl)
@[simp] theorem v_lenAL : lenA [.lst ds] = some (.int ds.length) := (rfl)
@[simp] theorem v_lenAT : lenA [.tup ds] = some (.int ds.length) := (rfl)
@[simp] theorem v_lenAS {z : Str} : lenA [.str z] = grd z.length (some (.int z.length)) := by
  show lenM [.str z] = _
  show (if z.length ≤ sizeLine then some (D.int z.length) else none) = _
  rw [grd_eq]
@[simp] theorem v_stoL : stoL a env st = (a env st).map fun p => (D.ref p.2.ob.length, p.2.ad (.lst p.1)) := (rfl)
@[simp] theorem v_stoK {k : MK} : stoK k env st = (k env st).map fun p => (D.ref p.2.ob.length, p.2.ad (.dic false p.1.1 p.1.2)) := (rfl)
@[simp] theorem v_refOf {n : Nat} : refOf (.ref n) = some n := (rfl)
@[simp] theorem v_sappM : sappM f h env st = (f env st).bind fun o => (refOf o.1).bind fun n => (lstAt o.2 n).bind fun _ => (h env o.2).bind fun p => (lstAt p.2 n).bind fun ds => grd (ds.length + 1) (some (.nx env, p.2.put n (.lst (ds ++ [p.1])))) := by
  unfold sappM; simp only [grd_lt]
@[simp] theorem v_sputM : sputM f h fa env st = (fa env st).bind fun p => (f env p.2).bind fun o => (refOf o.1).bind fun n => (h env o.2).bind fun q => (keyOf q.1).bind fun k => (dicAt q.2 n).bind fun z => grd (z.2.length + 1) (some (.nx env, q.2.put n (.dic false (putKs z.1 k) (putVs z.1 z.2 k p.1)))) := by
  unfold sputM; simp only [grd_lt]
@[simp] theorem v_spopM : spopM f env st = (f env st).bind fun o => (refOf o.1).bind fun n => (lstAt o.2 n).bind fun ds => (ds[ds.length - 1]?).map fun d => (d, o.2.put n (.lst ds.dropLast)) := (rfl)
@[simp] theorem v_listM : listM a env st = (a env st).bind fun p => (listD (p.1.map (dr p.2))).map fun z => (z, p.2) := (rfl)
@[simp] theorem v_listDL : listD [.lst ds] = some ds := (rfl)
@[simp] theorem v_listDT : listD [.tup ds] = some ds := (rfl)
@[simp] theorem v_listDD {ks : List L2.Key} : listD [.dic ks ds] = some (ks.map keyD) := (rfl)
@[simp] theorem v_isiM {T : String} : isiM T f env st = (f env st).bind fun p => (tyD (dr p.2 p.1)).bind fun t => (kitB t T).map fun b => (D.bl b, p.2) := (rfl)
@[simp] theorem v_dcM {it : MI} {t : MG} {vs : List Nat} : dcM it t c f h vs env st = (it env st).bind fun p => grd p.1.length (dcL t c f h (wipeE env vs) p.1 ([], []) p.2) := by
  unfold dcM; simp only [grd_eq]
@[simp] theorem v_mulAI {x y : Int} : mulA (.int x) (.int y) = mulM (.int x) (.int y) := (rfl)
/-! values -/
@[simp] theorem v_intOf {i : Int} : intOf (.int i) = some i := (rfl)
@[simp] theorem v_blOf {b : Bool} : blOf (.bl b) = some b := (rfl)
@[simp] theorem v_isStr {s : Str} : isStrD (.str s) = true := (rfl)
@[simp] theorem v_isLst : isLstD (.lst ds) = true := (rfl)
@[simp] theorem v_iI {g : Int → Int → D} {i j : Int} : iI g (.int i) (.int j) = some (g i j) := (rfl)
theorem v_iIC0 {C : Int → Int → Prop} [∀ i j, Decidable (C i j)] {g : Int → Int → D} {i j : Int} (h : C i j) : iIC C g (.int i) (.int j) = some (g i j) := if_pos h
@[simp] theorem v_unI {g : Int → D} {i : Int} : unI g (.int i) = some (g i) := (rfl)
@[simp] theorem v_addI {i j : Int} : addM (.int i) (.int j) = some (.int (i + j)) := (rfl)
@[simp] theorem v_addS {i j : Str} : addM (.str i) (.str j) = grd (i.length + j.length) (some (.str (i ++ j))) := by
  rw [← grd_eq]; rfl
@[simp] theorem v_addT {i j : List D} : addM (.tup i) (.tup j) = grd (i.length + j.length) (some (.tup (i ++ j))) := by
  rw [← grd_eq]; rfl
@[simp] theorem v_addL {i j : List D} : addM (.lst i) (.lst j) = grd (i.length + j.length) (some (.lst (i ++ j))) := by
  rw [← grd_eq]; rfl
@[simp] theorem v_ixL {i : Int} : ixM (.lst ds) (.int i) = L2.atI ds i := (rfl)
@[simp] theorem v_ixT {i : Int} : ixM (.tup ds) (.int i) = L2.atI ds i := (rfl)
@[simp] theorem v_ixS {z : Str} {i : Int} : ixM (.str z) (.int i) = grd z.length ((L2.atI z.cps.toList i).map fun c => .str ⟨#[c]⟩) := by
  rw [← grd_eq]; rfl
@[simp] theorem v_lenS {z : Str} : lenM [.str z] = grd z.length (some (.int z.length)) := by
  rw [← grd_eq]; rfl
@[simp] theorem v_lenL : lenM [.lst ds] = some (.int ds.length) := (rfl)
@[simp] theorem v_lenT : lenM [.tup ds] = some (.int ds.length) := (rfl)
@[simp] theorem v_seqL : seqOf (.lst ds) = some ds := (rfl)
@[simp] theorem v_seqT : seqOf (.tup ds) = some ds := (rfl)
@[simp] theorem v_seqS {x : Str} : seqOf (.str x) = some ((signs x).map D.str) := (rfl)
@[simp] theorem v_tupleL : tupleM [.lst ds] = some (.tup ds) := (rfl)
@[simp] theorem v_tupleT : tupleM [.tup ds] = some (.tup ds) := (rfl)
@[simp] theorem v_tupleS {x : Str} : tupleM [.str x] = grd x.cps.size (some (.tup ((signs x).map D.str))) := by
  rw [← grd_eq]; rfl
@[simp] theorem v_slT {lo hi : Option Int} : slAny (.tup ds) lo hi = some (.tup (cutD ds lo hi)) := (rfl)
@[simp] theorem v_slS {z : Str} {lo hi : Option Int} : slAny (.str z) lo hi = grd z.length (some (.str (cutS z lo hi))) := by
  rw [← grd_eq]
  unfold slAny slTup slStr slLst
  by_cases h : z.length ≤ sizeLine <;> simp [h, Option.orElse]
@[simp] theorem v_slL {lo hi : Option Int} : slAny (.lst ds) lo hi = some (.lst (cutD ds lo hi)) := (rfl)
@[simp] theorem v_sumM : sumM [.lst ds] = (intsOf ds).map fun ns => .int ns.sum := (rfl)
@[simp] theorem v_maxM : maxM [.lst (d :: ds)] = (intsOf (d :: ds)).map fun ns => .int (topI ns) := (rfl)
@[simp] theorem v_minM : minM [.lst (d :: ds)] = (intsOf (d :: ds)).map fun ns => .int (botI ns) := (rfl)
@[simp] theorem v_int1 {i : Int} : int1M [.int i] = some (.int i) := (rfl)
@[simp] theorem v_lstOf : lstOf (.lst ds) = some ds := (rfl)
@[simp] theorem intsOf_map (ns : List Int) : intsOf (ns.map D.int) = some ns := by
  induction ns with
  | nil => rfl
  | cons x r ih => show (intsOf (r.map D.int)).map (x :: ·) = _; rw [ih]; rfl
@[simp] theorem strsOf_map (ns : List Str) : strsOf (ns.map D.str) = some ns := by
  induction ns with
  | nil => rfl
  | cons x r ih => show (strsOf (r.map D.str)).map (x :: ·) = _; rw [ih]; rfl
end

/-! ### words as lists of codes -/
def W (ws : List Nat) : Str := ⟨ws.toArray⟩
@[simp] theorem W_len (ws : List Nat) : (W ws).length = ws.length := by show ws.toArray.size = _; simp
@[simp] theorem W_size (ws : List Nat) : (W ws).cps.size = ws.length := by show ws.toArray.size = _; simp
@[simp] theorem W_list (ws : List Nat) : (W ws).cps.toList = ws := by show ws.toArray.toList = _; simp
theorem W_inj {a b : List Nat} (h : W a = W b) : a = b := by
  have := congrArg (fun s : Str => s.cps.toList) h
  simpa using this
theorem W_of (s : Str) : W s.cps.toList = s := by
  obtain ⟨⟨l⟩⟩ := s
  rfl
@[simp] theorem W_signs (ws : List Nat) : signs (W ws) = ws.map fun c => W [c] := by
  unfold signs
  rw [W_list]
  rfl
theorem W_app (a b : List Nat) : W a ++ W b = W (a ++ b) := by
  show (⟨(W a).cps ++ (W b).cps⟩ : Str) = _
  unfold W
  simp
theorem sIx_some {n : Nat} {i : Int} (h0 : 0 ≤ i) (h1 : i ≤ n) (d : Nat) : HT.sIx n d (some i) = i.toNat := by
  have e := HT.sIx_nat n d i.toNat
  rw [Int.toNat_of_nonneg h0] at e
  rw [e]
  omega
theorem cutW_to {ws : List Nat} {n : Int} (h0 : 0 ≤ n) (h1 : n ≤ ws.length) : cutS (W ws) none (some n) = W (ws.take n.toNat) := by
  unfold cutS
  rw [W_list, W_len, HT.sIx_none, sIx_some h0 h1]
  rfl
theorem cutW_from {ws : List Nat} {n : Int} (h0 : 0 ≤ n) (h1 : n ≤ ws.length) : cutS (W ws) (some n) none = W (ws.drop n.toNat) := by
  unfold cutS
  rw [W_list, W_len, HT.sIx_none, sIx_some h0 h1]
  show (⟨((ws.drop n.toNat).take (ws.length - n.toNat)).toArray⟩ : Str) = _
  rw [List.take_of_length_le (by rw [List.length_drop]; exact Nat.le_refl _)]
  rfl
theorem cutD_from {ds : List D} {n : Int} (h0 : 0 ≤ n) (h1 : n ≤ ds.length) : cutD ds (some n) none = ds.drop n.toNat := by
  unfold cutD
  rw [HT.sIx_none, sIx_some h0 h1]
  exact List.take_of_length_le (by rw [List.length_drop]; exact Nat.le_refl _)
theorem cutD_to {ds : List D} {n : Int} (h0 : 0 ≤ n) (h1 : n ≤ ds.length) : cutD ds none (some n) = ds.take n.toNat := by
  unfold cutD
  rw [HT.sIx_none, sIx_some h0 h1]
  rfl
theorem atI_of {α : Type} {xs : List α} {j : Nat} {x : α} (h : xs[j]? = some x) : L2.atI xs (j : Int) = some x := atI_nat h
theorem atI_nn {α : Type} {xs : List α} {i : Int} (h0 : 0 ≤ i) : L2.atI xs i = xs[i.toNat]? := by
  unfold L2.atI ixN
  rw [if_pos h0]
  by_cases h : i < xs.length
  · rw [if_pos h]; rfl
  · rw [if_neg h, List.getElem?_eq_none (by omega)]; rfl
/-! letters -/
def Let (k : Nat) (c : Nat) : Prop := 97 ≤ c ∧ c < 97 + k
theorem occ_abcd {c : Nat} (h : Let 4 c) : Builtin.Str.occurrences "abcd" (W [c]) 0 ("abcd" : Str).length 1 = [c - 97] := by
  obtain ⟨h1, h2⟩ := h
  have : c = 97 ∨ c = 98 ∨ c = 99 ∨ c = 100 := by omega
  rcases this with rfl | rfl | rfl | rfl <;> decide +kernel
theorem idx_abcd {c : Nat} (h : Let 4 c) : sindexM (.str "abcd") [.str (W [c])] = some (.int ((c - 97 : Nat) : Int)) := by
  show (match Builtin.Str.occurrences "abcd" (W [c]) 0 ("abcd" : Str).length 1 with | i :: _ => some (D.int (i : Nat)) | [] => none) = _
  rw [occ_abcd h]
theorem abcd_W : ("abcd" : Str) = W [97, 98, 99, 100] := by decide +kernel
theorem empty_W : ("" : Str) = W [] := by decide +kernel
/-! comparisons -/
@[simp] theorem eq_int (i j : Int) : eqM (.int i) (.int j) = some (.bl (decide (i = j))) := (rfl)
@[simp] theorem ne_int (i j : Int) : neM (.int i) (.int j) = some (.bl (!decide (i = j))) := (rfl)
@[simp] theorem eq_str (i j : Str) : eqM (.str i) (.str j) = some (.bl (decide (i = j))) := (rfl)
@[simp] theorem ne_str (i j : Str) : neM (.str i) (.str j) = some (.bl (!decide (i = j))) := (rfl)
@[simp] theorem is_non (d : D) : isM d .non = some (.bl (nonD d)) := (rfl)
@[simp] theorem isnot_non (d : D) : isNotM d .non = some (.bl (!nonD d)) := (rfl)
theorem pyAll_ints (ns : List Int) : pyAll (ns.map D.int) = ns.map PyData.int := by
  induction ns with
  | nil => rfl
  | cons x r ih => show D.py (.int x) :: pyAll (r.map D.int) = _; rw [ih]; rfl
theorem plAll_ints (ns : List Int) : plAll (ns.map D.int) = true := by
  induction ns with
  | nil => rfl
  | cons x r ih => show (D.pl (.int x) && plAll (r.map D.int)) = true; rw [ih]; rfl
theorem lay_ints (ns : List Int) : PyData.canLayAll0 (ns.map PyData.int) = true := by
  induction ns with
  | nil => rfl
  | cons x r ih => show (PyData.canLay0 (.int x) && PyData.canLayAll0 (r.map PyData.int)) = true; rw [ih]; rfl
theorem depth_ints (ns : List Int) : PyData.depthAll (ns.map PyData.int) ≤ 1 := by
  induction ns with
  | nil => simp [PyData.depthAll]
  | cons x r ih => simp [PyData.depthAll, PyData.depth] at ih ⊢; omega
theorem eqv_ints : ∀ (a b : List Int), PyData.eqvAll (a.map PyData.int) (b.map PyData.int) = decide (a = b)
  | [], [] => by rfl
  | [], y :: b => by rfl
  | x :: a, [] => by rfl
  | x :: a, y :: b => by
    show (PyData.eqv (.int x) (.int y) && PyData.eqvAll (a.map PyData.int) (b.map PyData.int)) = _
    rw [eqv_ints a b]
    show ((x == y) && decide (a = b)) = _
    by_cases h1 : x = y
    · by_cases h2 : a = b
      · simp [h1, h2]
      · simp [h1, h2]
    · simp [h1]
theorem okD_ints (ns : List Int) : okD (.lst (ns.map D.int)) = true := by
  unfold okD
  rw [D.pl, plAll_ints, D.py, pyAll_ints]
  show (true && SeqAt.shaped (.list (ns.map PyData.int))) = true
  unfold SeqAt.shaped
  rw [PyData.canLay0, lay_ints]
  have := depth_ints ns
  simp [PyData.depth]
  omega
theorem ne_ints (a b : List Int) : neM (.lst (a.map D.int)) (.lst (b.map D.int)) = some (.bl (!decide (a = b))) := by
  unfold neM eqB
  have e : sEq (.lst (a.map D.int)) (.lst (b.map D.int)) = none := rfl
  rw [e]
  simp only [okD_ints, Bool.and_self, if_true, Option.map_some, D.py, pyAll_ints, PyData.eqv, eqv_ints]
theorem eq_ints (a b : List Int) : eqM (.lst (a.map D.int)) (.lst (b.map D.int)) = some (.bl (decide (a = b))) := by
  unfold eqM eqB
  have e : sEq (.lst (a.map D.int)) (.lst (b.map D.int)) = none := rfl
  rw [e]
  simp only [okD_ints, Bool.and_self, if_true, Option.map_some, D.py, pyAll_ints, PyData.eqv, eqv_ints]
theorem allFlat_ints (a : List Int) : (a.map D.int).all flatD = true := by
  rw [List.all_map]; simp [Function.comp_def, flatD]
theorem inB_ints (x : Int) (a : List Int) : inB (.int x) (a.map D.int) = decide (x ∈ a) := by
  unfold inB
  induction a with
  | nil => rfl
  | cons y r ih =>
    rw [List.map_cons, List.any_cons, ih]
    show ((y == x) || decide (x ∈ r)) = _
    by_cases h1 : y = x
    · simp [h1]
    · have h2 : x ≠ y := fun z => h1 z.symm
      simp [h1, h2]
theorem in_ints (x : Int) (a : List Int) : inM (.int x) (.lst (a.map D.int)) = some (.bl (decide (x ∈ a))) := by
  show (if (flatD (.int x) && (a.map D.int).all flatD) = true then some (D.bl (if false = true then !inB (.int x) (a.map D.int) else inB (.int x) (a.map D.int))) else none) = _
  rw [allFlat_ints, inB_ints]
  simp [flatD]
theorem lindex_ints (x : Int) (a : List Int) : lindexM (.lst (a.map D.int)) [.int x] = (a.findIdx? fun y => y == x).map fun j => .int (j : Nat) := by
  show (if (flatD (.int x) && (a.map D.int).all flatD) = true then ((a.map D.int).findIdx? fun z => eqFD z (.int x)).map fun j => D.int (j : Nat) else none) = _
  rw [allFlat_ints]
  simp only [flatD, Bool.and_self, if_true, List.findIdx?_map]
  rfl
end MD

set_option Elab.async false
set_option linter.all false
set_option maxRecDepth 100000
set_option maxHeartbeats 1000000
namespace MD
open PySem L2

/-! ### what a drawn value is, and how many draws it takes -/
def Yes {α : Type} (c : Nat) (o : S → Option (α × S)) (P : α → Prop) : Prop :=
  ∀ st : S, 0 ≤ st.n → st.n + (c : Int) ≤ nMax → ∃ a st', o st = some (a, st') ∧ P a ∧ st.n ≤ st'.n ∧ st'.n ≤ st.n + (c : Int)
section
variable {α β : Type} {c c' : Nat} {P Q : α → Prop}
theorem Yes.pure {a : α} (h : P a) : Yes 0 (fun st => some (a, st)) P := fun st h0 h1 => ⟨a, st, rfl, h, Int.le_refl _, by simp⟩
theorem Yes.of_eq {o : S → Option (α × S)} {a : α} (e : ∀ st, o st = some (a, st)) (h : P a) : Yes 0 o P := fun st h0 h1 => ⟨a, st, e st, h, Int.le_refl _, by simp⟩
theorem Yes.mono {o : S → Option (α × S)} (h : Yes c o P) (hc : c ≤ c') (hp : ∀ a, P a → Q a) : Yes c' o Q := fun st h0 h1 => by
  obtain ⟨a, st', e, p, l1, l2⟩ := h st h0 (by omega)
  exact ⟨a, st', e, hp a p, l1, by omega⟩
theorem Yes.bind {o : S → Option (α × S)} {g : α × S → Option (β × S)} {R : β → Prop} (h : Yes c o P) (hg : ∀ a, P a → Yes c' (fun st => g (a, st)) R) : Yes (c + c') (fun st => (o st).bind g) R := fun st h0 h1 => by
  obtain ⟨a, s1, e, p, l1, l2⟩ := h st h0 (by omega)
  obtain ⟨b, s2, e2, r, l3, l4⟩ := hg a p s1 (by omega) (by omega)
  exact ⟨b, s2, by show (o st).bind g = _; rw [e]; exact e2, r, by omega, by omega⟩
theorem Yes.map {o : S → Option (α × S)} {g : α × S → β × S} {R : β → Prop} {k : α → β} (h : Yes c o P) (hk : ∀ a st, g (a, st) = (k a, st)) (hg : ∀ a, P a → R (k a)) : Yes c (fun st => (o st).map g) R := fun st h0 h1 => by
  obtain ⟨a, s1, e, p, l1, l2⟩ := h st h0 h1
  exact ⟨k a, s1, by show (o st).map g = _; rw [e]; show some (g (a, s1)) = _; rw [hk], hg a p, l1, l2⟩
theorem Yes.congr {o o' : S → Option (α × S)} (h : Yes c o P) (e : ∀ st, o' st = o st) : Yes c o' P := fun st h0 h1 => by
  rw [e st]; exact h st h0 h1
end
theorem drawT_n (many : Int) (st : S) : (drawT many st).n = st.n + 1 := by unfold drawT; split <;> rfl
theorem drawV_lt {c : DC} {many : Int} (h : 0 < many) (st : S) : 0 ≤ drawV c many st ∧ drawV c many st < many := by
  unfold drawV
  split <;> exact ⟨Int.emod_nonneg _ (by omega), Int.emod_lt_of_pos _ h⟩
theorem draw_yes {c : DC} {many : Int} (h1 : 0 < many) (h2 : many < 1073741824) : Yes 1 (drawM c [.deck, .int many]) fun d => ∃ r : Int, d = .int r ∧ 0 ≤ r ∧ r < many := fun st h0 hn => by
  have := drawV_lt (c := c) h1 st
  refine ⟨_, drawT many st, ?_, ⟨_, rfl, this.1, this.2⟩, ?_, ?_⟩
  · unfold drawM
    exact if_pos ⟨h1, h2, h0, by omega⟩
  · rw [drawT_n]; omega
  · rw [drawT_n]; omega

/-! ### comprehensions and loops -/
theorem compL_pure {t : MG} {c : MT} {f : ME} {env : Sg} {st : S} (P : D → Bool) (g : D → D) : ∀ (ds : List D), (∀ d ∈ ds, ∃ e, t d env = some e ∧ c e st = some (P d, st) ∧ (P d = true → f e st = some (g d, st))) →
    compL t c f env ds st = some ((ds.filter P).map g, st)
  | [], _ => rfl
  | d :: ds, h => by
    obtain ⟨e, h1, h2, h3⟩ := h d List.mem_cons_self
    have ih := compL_pure P g ds fun x hx => h x (List.mem_cons_of_mem _ hx)
    rw [v_compL, h1]
    simp only [Option.bind_some, h2]
    cases hp : P d with
    | true => simp [h3 hp, ih, hp]
    | false => simp [ih, hp]
theorem compL_map {t : MG} {f : ME} {env : Sg} {st : S} (g : D → D) (ds : List D) (h : ∀ d ∈ ds, ∃ e, t d env = some e ∧ f e st = some (g d, st)) : compL t yesM f env ds st = some (ds.map g, st) := by
  have := compL_pure (t := t) (c := yesM) (f := f) (env := env) (st := st) (fun _ => true) g ds fun d hd => by
    obtain ⟨e, h1, h2⟩ := h d hd
    exact ⟨e, h1, rfl, fun _ => h2⟩
  rw [this]
  congr 2
  rw [List.filter_eq_self.mpr (by simp)]
theorem compL_yes {t : MG} {f : ME} {env : Sg} {k : Nat} {P : D → Prop} : ∀ (ds : List D), (∀ d ∈ ds, ∃ e, t d env = some e ∧ Yes k (f e) P) → Yes (ds.length * k) (compL t yesM f env ds) fun l => l.length = ds.length ∧ ∀ x ∈ l, P x
  | [], _ => (Yes.of_eq (fun _ => rfl) ⟨rfl, fun _ h => nomatch h⟩).mono (Nat.zero_le _) fun _ h => h
  | d :: ds, h => by
    obtain ⟨e, h1, h2⟩ := h d List.mem_cons_self
    have ih := compL_yes ds fun x hx => h x (List.mem_cons_of_mem _ hx)
    intro st h0 hn
    have en : ((d :: ds).length * k : Nat) = k + ds.length * k := by rw [List.length_cons, Nat.succ_mul]; omega
    rw [en] at hn ⊢
    obtain ⟨y, s1, e1, p1, l1, l2⟩ := h2 st h0 (by omega)
    obtain ⟨l, s2, e2, p2, l3, l4⟩ := ih s1 (by omega) (by omega)
    refine ⟨y :: l, s2, ?_, ⟨by simp [p2.1], fun x hx => ?_⟩, by omega, by omega⟩
    · rw [v_compL, h1]
      simp [e1, e2]
    · rcases List.mem_cons.mp hx with z | z
      · rw [z]; exact p1
      · exact p2.2 x z
/-- a loop that keeps I and always goes on -/
theorem forL_yes {t : MG} {b : MS} {k : Nat} {I : Sg → Prop} : ∀ (ds : List D) (env : Sg), I env → (∀ d ∈ ds, ∀ env, I env → ∃ e, t d env = some e ∧ Yes k (b e) fun fl => ∃ e', fl = .nx e' ∧ I e') →
    Yes (ds.length * k) (forL t b ds env) fun fl => ∃ e, fl = .nx e ∧ I e
  | [], env, hi, _ => (Yes.of_eq (fun _ => rfl) ⟨env, rfl, hi⟩).mono (Nat.zero_le _) fun _ h => h
  | d :: ds, env, hi, h => by
    obtain ⟨e, h1, h2⟩ := h d List.mem_cons_self env hi
    intro st h0 hn
    have en : ((d :: ds).length * k : Nat) = k + ds.length * k := by rw [List.length_cons, Nat.succ_mul]; omega
    rw [en] at hn ⊢
    obtain ⟨fl, s1, e1, ⟨e', rfl, i1⟩, l1, l2⟩ := h2 st h0 (by omega)
    obtain ⟨fl2, s2, e2, p2, l3, l4⟩ := forL_yes ds e' i1 (fun x hx => h x (List.mem_cons_of_mem _ hx)) s1 (by omega) (by omega)
    refine ⟨fl2, s2, ?_, p2, by omega, by omega⟩
    rw [v_forL, h1]
    simp [e1, e2]
theorem yes_seq {f h : MS} {env : Sg} {c c' : Nat} {R : Sg → Prop} {Q : Fl → Prop} (h1 : Yes c (f env) fun fl => ∃ e, fl = .nx e ∧ R e) (h2 : ∀ e, R e → Yes c' (h e) Q) : Yes (c + c') (seqM f h env) Q := by
  refine (Yes.bind h1 (g := fun x => match x.1 with | .nx e => h e x.2 | fl => some (fl, x.2)) fun fl hfl => ?_).congr fun st => rfl
  obtain ⟨e, rfl, r⟩ := hfl
  exact h2 e r
theorem yes_asg {i : Nat} {f : ME} {env : Sg} {c : Nat} {P : D → Prop} (h : Yes c (f env) P) : Yes c (asgM (nameT i) f env) fun fl => ∃ e, fl = .nx e ∧ ∃ d, P d ∧ e = env.set i (.val d) :=
  (Yes.map h (k := fun d => Fl.nx (env.set i (.val d))) (g := fun p => (Fl.nx (env.set i (.val p.1)), p.2)) (fun _ _ => rfl) fun d hd => ⟨_, rfl, d, hd, rfl⟩).congr fun st => by
    simp only [v_asgM, v_nameT, Option.map_some]
    cases f env st <;> rfl
end MD

set_option Elab.async false
set_option linter.all false
set_option maxRecDepth 100000
set_option maxHeartbeats 1000000
namespace MD
open PySem L2
section
variable {α : Type} (a b c d : α)
@[simp] theorem at_10 : L2.atI [a] 0 = some a := (rfl)
@[simp] theorem at_20 : L2.atI [a, b] 0 = some a := (rfl)
@[simp] theorem at_21 : L2.atI [a, b] 1 = some b := (rfl)
@[simp] theorem at_30 : L2.atI [a, b, c] 0 = some a := (rfl)
@[simp] theorem at_31 : L2.atI [a, b, c] 1 = some b := (rfl)
@[simp] theorem at_32 : L2.atI [a, b, c] 2 = some c := (rfl)
end
@[simp] theorem tru_non : truD .non = some false := (rfl)
@[simp] theorem tru_bl (b : Bool) : truD (.bl b) = some b := (rfl)
@[simp] theorem tru_int (i : Int) : truD (.int i) = some (i != 0) := (rfl)
@[simp] theorem tru_lst (ds : List D) : truD (.lst ds) = some (!ds.isEmpty) := (rfl)
@[simp] theorem tru_tup (ds : List D) : truD (.tup ds) = some (!ds.isEmpty) := (rfl)
/-! ### data that may be compared with == -/
def Nice (d : D) : Prop := d.pl = true ∧ d.py.canLay0 = true ∧ d.py.depth ≤ 20
theorem plAll_of {ds : List D} : (∀ d ∈ ds, d.pl = true) → plAll ds = true := by
  induction ds with
  | nil => intro _; rfl
  | cons x r ih =>
    intro h
    show (x.pl && plAll r) = true
    rw [h x List.mem_cons_self, ih fun y hy => h y (List.mem_cons_of_mem _ hy)]; rfl
theorem layAll_of {ds : List D} : (∀ d ∈ ds, d.py.canLay0 = true) → PyData.canLayAll0 (pyAll ds) = true := by
  induction ds with
  | nil => intro _; rfl
  | cons x r ih =>
    intro h
    show (x.py.canLay0 && PyData.canLayAll0 (pyAll r)) = true
    rw [h x List.mem_cons_self, ih fun y hy => h y (List.mem_cons_of_mem _ hy)]; rfl
theorem depAll_of {n : Nat} {ds : List D} : (∀ d ∈ ds, d.py.depth ≤ n) → PyData.depthAll (pyAll ds) ≤ n := by
  induction ds with
  | nil => intro _; exact Nat.zero_le _
  | cons x r ih =>
    intro h
    show max x.py.depth (PyData.depthAll (pyAll r)) ≤ n
    have h1 := h x List.mem_cons_self
    have h2 := ih fun y hy => h y (List.mem_cons_of_mem _ hy)
    omega
theorem Nice.okD {ds : List D} (h : ∀ d ∈ ds, Nice d) : okD (.lst ds) = true := by
  unfold MD.okD SeqAt.shaped
  have h1 : (D.lst ds).pl = true := by rw [D.pl]; exact plAll_of fun d hd => (h d hd).1
  have h2 : (D.lst ds).py.canLay0 = true := by rw [D.py, PyData.canLay0]; exact layAll_of fun d hd => (h d hd).2.1
  have h3 : (D.lst ds).py.depth ≤ 64 := by
    rw [D.py, PyData.depth]
    have := depAll_of (n := 20) fun d hd => (h d hd).2.2
    omega
  rw [h1, h2, decide_eq_true h3]; rfl
theorem Nice.int (i : Int) : Nice (.int i) := ⟨rfl, rfl, by simp [D.py, PyData.depth]⟩
theorem Nice.bl (i : Bool) : Nice (.bl i) := ⟨rfl, rfl, by simp [D.py, PyData.depth]⟩
theorem Nice.non : Nice .non := ⟨rfl, rfl, by simp [D.py, PyData.depth]⟩
theorem Nice.tup' {n : Nat} {ds : List D} (h : ∀ d ∈ ds, d.pl = true ∧ d.py.canLay0 = true ∧ d.py.depth ≤ n) : (D.tup ds).pl = true ∧ (D.tup ds).py.canLay0 = true ∧ (D.tup ds).py.depth ≤ n + 1 := by
  refine ⟨by rw [D.pl]; exact plAll_of fun d hd => (h d hd).1, by rw [D.py, PyData.canLay0]; exact layAll_of fun d hd => (h d hd).2.1, ?_⟩
  rw [D.py, PyData.depth]
  have := depAll_of (n := n) fun d hd => (h d hd).2.2
  omega
theorem ne_nil {ds : List D} (h : ∀ d ∈ ds, Nice d) : neM (.lst ds) (.lst []) = some (.bl (!ds.isEmpty)) := by
  unfold neM eqB
  have e : sEq (.lst ds) (.lst []) = none := rfl
  have h0 : MD.okD (.lst []) = true := Nice.okD fun d hd => nomatch hd
  rw [e]
  simp only [Nice.okD h, h0, Bool.and_self, if_true, Option.map_some]
  cases ds with
  | nil => rfl
  | cons x r => rfl
theorem eq_nil {ds : List D} (h : ∀ d ∈ ds, Nice d) : eqM (.lst ds) (.lst []) = some (.bl ds.isEmpty) := by
  unfold eqM eqB
  have e : sEq (.lst ds) (.lst []) = none := rfl
  have h0 : MD.okD (.lst []) = true := Nice.okD fun d hd => nomatch hd
  rw [e]
  simp only [Nice.okD h, h0, Bool.and_self, if_true, Option.map_some]
  cases ds with
  | nil => rfl
  | cons x r => rfl
theorem strOk_W {ws : List Nat} (h : ∀ c ∈ ws, c < 128) : (D.str (W ws)).py.canLay0 = true := by
  show PyData.strOk (W ws) = true
  unfold PyData.strOk
  rw [← Array.all_toList, W_list, List.all_eq_true]
  intro c hc
  have := h c hc
  exact decide_eq_true (by omega)
theorem Nice.strW {ws : List Nat} (h : ∀ c ∈ ws, c < 128) : Nice (.str (W ws)) := ⟨rfl, strOk_W h, by simp [D.py, PyData.depth]⟩
end MD

set_option Elab.async false
set_option linter.all false
set_option maxRecDepth 100000
set_option maxHeartbeats 1000000
namespace Lw
open PySem MD
/-! ### kinds -/
structure Kd where
  k : Nat
  rows : List (List (Option Nat))
  ends : List Bool
def optD : Option Nat → D
  | none => .non
  | some s => .int (s : Nat)
abbrev rowD (r : List (Option Nat)) : D := .tup (r.map optD)
abbrev tK (kd : Kd) : D := .tup [.int (kd.k : Nat), .tup (kd.rows.map rowD), .tup (kd.ends.map D.bl)]
structure Kd.Ok (kd : Kd) : Prop where
  k0 : 1 ≤ kd.k
  k4 : kd.k ≤ 4
  m0 : 1 ≤ kd.rows.length
  m8 : kd.rows.length ≤ 9
  me : kd.ends.length = kd.rows.length
  rl : ∀ r ∈ kd.rows, r.length = kd.k
  rs : ∀ r ∈ kd.rows, ∀ s, some s ∈ r → s < kd.rows.length
def row (kd : Kd) (s : Nat) : List (Option Nat) := kd.rows.getD s []
def stp (kd : Kd) (s x : Nat) : Option Nat := ((row kd s)[x]?).join
def isE (kd : Kd) (s : Nat) : Bool := kd.ends.getD s false
theorem row_at {kd : Kd} {s : Nat} (h : s < kd.rows.length) : kd.rows[s]? = some (row kd s) := by
  unfold row
  rw [List.getD_eq_getElem?_getD, List.getElem?_eq_getElem h]; rfl
theorem row_mem {kd : Kd} {s : Nat} (h : s < kd.rows.length) : row kd s ∈ kd.rows := List.mem_of_getElem? (row_at h)
theorem row_D {kd : Kd} {s : Nat} (h : s < kd.rows.length) : L2.atI (kd.rows.map rowD) ((s : Nat) : Int) = some (rowD (row kd s)) := by
  rw [atI_nn (by omega), Int.toNat_natCast, List.getElem?_map, row_at h]; rfl
theorem end_D {kd : Kd} (ok : kd.Ok) {s : Nat} (h : s < kd.rows.length) : L2.atI (kd.ends.map D.bl) ((s : Nat) : Int) = some (.bl (isE kd s)) := by
  rw [atI_nn (by omega), Int.toNat_natCast, List.getElem?_map]
  have h' : s < kd.ends.length := by rw [ok.me]; exact h
  unfold isE
  rw [List.getD_eq_getElem?_getD, List.getElem?_eq_getElem h']; rfl
theorem item_D {kd : Kd} (ok : kd.Ok) {s x : Nat} (h : s < kd.rows.length) (hx : x < kd.k) : L2.atI ((row kd s).map optD) ((x : Nat) : Int) = some (optD (stp kd s x)) := by
  rw [atI_nn (by omega), Int.toNat_natCast, List.getElem?_map]
  have hl : x < (row kd s).length := by rw [ok.rl _ (row_mem h)]; exact hx
  unfold stp
  rw [List.getElem?_eq_getElem hl]; rfl
theorem stp_lt {kd : Kd} (ok : kd.Ok) {s x s' : Nat} (h : s < kd.rows.length) (e : stp kd s x = some s') : s' < kd.rows.length := by
  unfold stp at e
  refine ok.rs _ (row_mem h) s' ?_
  cases hx : (row kd s)[x]? with
  | none => rw [hx] at e; cases e
  | some o =>
    rw [hx] at e
    have : o = some s' := e
    rw [← this]
    exact List.mem_of_getElem? hx
theorem tK0 (kd : Kd) : L2.atI [D.int (kd.k : Nat), .tup (kd.rows.map rowD), .tup (kd.ends.map D.bl)] 0 = some (.int (kd.k : Nat)) := atI_of (j := 0) rfl
theorem tK1 (kd : Kd) : L2.atI [D.int (kd.k : Nat), .tup (kd.rows.map rowD), .tup (kd.ends.map D.bl)] 1 = some (.tup (kd.rows.map rowD)) := atI_of (j := 1) rfl
theorem tK2 (kd : Kd) : L2.atI [D.int (kd.k : Nat), .tup (kd.rows.map rowD), .tup (kd.ends.map D.bl)] 2 = some (.tup (kd.ends.map D.bl)) := atI_of (j := 2) rfl
@[simp] theorem nonD_opt (o : Option Nat) : nonD (optD o) = o.isNone := by cases o <;> rfl
@[simp] theorem dr_opt (st : S) (o : Option Nat) : dr st (optD o) = optD o := by cases o <;> rfl
theorem rng_of {k : Nat} (h : k ≤ 1000000) : rng1 [.int ((k : Nat) : Int)] = some (rngD 0 k) := by rw [rng1_of (by omega) (by omega)]; simp
theorem rng_map (k : Nat) : rngD 0 k = (List.range k).map fun x => D.int ((x : Nat) : Int) := by
  unfold rngD
  simp
theorem abcd_at {x : Nat} (h : x < 4) : ixM (.str "abcd") (.int ((x : Nat) : Int)) = some (.str (W [97 + x])) := by
  rw [v_ixS, grd_of (by rw [abcd_W, W_len]; decide), atI_nn (by omega), Int.toNat_natCast, abcd_W, W_list]
  have : x = 0 ∨ x = 1 ∨ x = 2 ∨ x = 3 := by omega
  rcases this with rfl | rfl | rfl | rfl <;> rfl
/-! ### words, their counts, whether they are of a kind -/
def Lets (k : Nat) (ws : List Nat) : Prop := ∀ c ∈ ws, Let k c
theorem Let.four {k c : Nat} (h : Let k c) (hk : k ≤ 4) : Let 4 c := ⟨h.1, by have := h.2; omega⟩
theorem Lets.snoc {k : Nat} {ws : List Nat} (h : Lets k ws) {x : Nat} (hx : x < k) : Lets k (ws ++ [97 + x]) := fun c hc => by
  rcases List.mem_append.mp hc with z | z
  · exact h c z
  · rw [List.mem_singleton.mp z]; exact ⟨by omega, by omega⟩
def uu (us : List Int) (c : Nat) : Int := us.getD (c - 97) 0
def cnt (us : List Int) (ws : List Nat) : Int := (ws.map (uu us)).sum
abbrev tI (us : List Int) : D := .tup (us.map D.int)
theorem unit_at {us : List Int} {c : Nat} (h : Let us.length c) : L2.atI (us.map D.int) ((c - 97 : Nat) : Int) = some (.int (uu us c)) := by
  rw [atI_nn (by omega)]
  have h1 := h.1
  have h2 := h.2
  have hl : c - 97 < us.length := by omega
  simp only [Int.toNat_natCast, List.getElem?_map, List.getElem?_eq_getElem hl, Option.map_some]
  unfold uu
  rw [List.getD_eq_getElem?_getD, List.getElem?_eq_getElem hl]
  rfl
def walk (kd : Kd) : Nat → List Nat → Option Nat
  | s, [] => some s
  | s, c :: w => (stp kd s (c - 97)).bind fun s' => walk kd s' w
def isOf (kd : Kd) (w : List Nat) : Bool := match walk kd 0 w with
  | none => false
  | some s => isE kd s
theorem walk_snoc {kd : Kd} : ∀ (w : List Nat) (s c : Nat), walk kd s (w ++ [c]) = (walk kd s w).bind fun s' => stp kd s' (c - 97)
  | [], s, c => by
    show (stp kd s (c - 97)).bind (fun s' => some s') = stp kd s (c - 97)
    cases stp kd s (c - 97) <;> rfl
  | y :: w, s, c => by
    show (stp kd s (y - 97)).bind (fun s' => walk kd s' (w ++ [c])) = ((stp kd s (y - 97)).bind fun s' => walk kd s' w).bind _
    cases stp kd s (y - 97) with
    | none => rfl
    | some s' => exact walk_snoc w s' c
theorem walk_lt {kd : Kd} (ok : kd.Ok) : ∀ (w : List Nat) (s s' : Nat), s < kd.rows.length → walk kd s w = some s' → s' < kd.rows.length
  | [], s, s', h, e => by cases e; exact h
  | c :: w, s, s', h, e => by
    obtain ⟨s1, h1, e⟩ := bnd (show ((stp kd s (c - 97)).bind fun s' => walk kd s' w) = some s' from e)
    exact walk_lt ok w s1 s' (stp_lt ok h h1) e
abbrev tW (ps : List (List Nat)) : List D := ps.map fun p => D.str (W p)
theorem cut_abcd {k : Nat} (h : k ≤ 4) : L2.cutS ("abcd" : Str) none (some ((k : Nat) : Int)) = W ((List.range k).map (97 + ·)) := by
  rw [abcd_W, cutW_to (by omega) (by simp; omega)]
  have : k = 0 ∨ k = 1 ∨ k = 2 ∨ k = 3 ∨ k = 4 := by omega
  rcases this with rfl | rfl | rfl | rfl | rfl <;> rfl
theorem abcd_len : ("abcd" : Str).length ≤ 1000000 := by rw [abcd_W, W_len]; decide
/-- a loop that keeps I, turn by turn, and always goes on -/
theorem forL_yesI {t : MG} {b : MS} {k : Nat} {I : Nat → Sg → Prop} : ∀ (ds : List D) (j : Nat) (env : Sg), I j env → (∀ d ∈ ds, ∀ i env, i < j + ds.length → I i env → ∃ e, t d env = some e ∧ Yes k (b e) fun fl => ∃ e', fl = .nx e' ∧ I (i + 1) e') →
    Yes (ds.length * k) (forL t b ds env) fun fl => ∃ e, fl = .nx e ∧ I (j + ds.length) e
  | [], j, env, hi, _ => (Yes.of_eq (fun _ => rfl) ⟨env, rfl, hi⟩).mono (Nat.zero_le _) fun _ h => h
  | d :: ds, j, env, hi, h => by
    obtain ⟨e, h1, h2⟩ := h d List.mem_cons_self j env (by rw [List.length_cons]; omega) hi
    intro st h0 hn
    have en : ((d :: ds).length * k : Nat) = k + ds.length * k := by rw [List.length_cons, Nat.succ_mul]; omega
    rw [en] at hn ⊢
    obtain ⟨fl, s1, e1, ⟨e', rfl, i1⟩, l1, l2⟩ := h2 st h0 (by omega)
    obtain ⟨fl2, s2, e2, ⟨e3, p3, p4⟩, l3, l4⟩ := forL_yesI ds (j + 1) e' i1 (fun x hx i env hi => h x (List.mem_cons_of_mem _ hx) i env (by rw [List.length_cons]; omega)) s1 (by omega) (by omega)
    refine ⟨fl2, s2, ?_, ⟨e3, p3, ?_⟩, by omega, by omega⟩
    · rw [v_forL, h1]
      simp [e1, e2]
    · have : j + 1 + ds.length = j + (d :: ds).length := by rw [List.length_cons]; omega
      rw [this] at p4
      exact p4
theorem maps_of {α : Type} {f : α → D} {P : α → Prop} : ∀ (l : List D), (∀ x ∈ l, ∃ i, x = f i ∧ P i) → ∃ ns : List α, l = ns.map f ∧ ∀ i ∈ ns, P i
  | [], _ => ⟨[], rfl, fun _ h => nomatch h⟩
  | x :: l, h => by
    obtain ⟨i, rfl, hi⟩ := h x List.mem_cons_self
    obtain ⟨ns, rfl, hns⟩ := maps_of l fun y hy => h y (List.mem_cons_of_mem _ hy)
    exact ⟨i :: ns, rfl, fun j hj => by
      rcases List.mem_cons.mp hj with z | z
      · rw [z]; exact hi
      · exact hns j z⟩

/-! ### drawing -/
structure IsDraw (draw : MF) : Prop where
  yes : ∀ {m : Nat}, 0 < m → m ≤ 1000000 → Yes 1 (draw [.deck, .int ((m : Nat) : Int)]) fun d => ∃ r : Nat, d = .int ((r : Nat) : Int) ∧ r < m
  int : ∀ {n : Int} {st : S} {p : D × S}, draw [.deck, .int n] st = some p → ∃ r, p.1 = .int r
  ob : ∀ {n : Int} {st : S} {p : D × S}, draw [.deck, .int n] st = some p → p.2.ob = st.ob
theorem isDraw (c : DC) : IsDraw (drawM c) := by
  constructor
  · intro m h0 h1
    refine (draw_yes (c := c) (many := (m : Int)) (by omega) (by omega)).mono (Nat.le_refl _) fun d ⟨r, e, r0, r1⟩ => ⟨r.toNat, ?_, by omega⟩
    rw [e, Int.toNat_of_nonneg r0]
  · intro n st p h
    unfold drawM at h
    by_cases hc : 0 < n ∧ n < 1073741824 ∧ 0 ≤ st.n ∧ st.n < nMax
    · simp only [if_pos hc] at h
      cases h
      exact ⟨_, rfl⟩
    · simp only [if_neg hc] at h
      cases h
  · intro n st p h
    unfold drawM at h
    by_cases hc : 0 < n ∧ n < 1073741824 ∧ 0 ≤ st.n ∧ st.n < nMax
    · simp only [if_pos hc] at h
      cases h
      unfold drawT
      split <;> rfl
    · simp only [if_neg hc] at h
      cases h
noncomputable def oneB (draw : MF) : MS := (retM (opM subD (rd 1) (callM draw (aCons (rd 0) (aCons (cbM lenA (aCons (rd 1) aNil)) aNil)))))
noncomputable def oneM (draw : MF) : MF := runM 2 (oneB draw)
theorem one_eq {draw : MF} (hD : IsDraw draw) {x : D} {n : Int} (h : lenA [x] = some (.int n)) (hx : ∀ m, x ≠ .ref m) (st : S) : oneM draw [.deck, x] st = (draw [.deck, .int n] st).bind fun p => (subD x p.1).map fun z => (z, p.2) := by
  have hd : ∀ st : S, dr st x = x := fun st => dr_of hx
  simp [oneM, oneB, h, hd]
  cases hdr : draw [D.deck, D.int n] st with
  | none => rfl
  | some p =>
    simp
    obtain ⟨r, hr⟩ := hD.int hdr
    have hp : dr p.2 p.1 = p.1 := by rw [hr]; rfl
    rw [hp]
    cases subD x p.1 <;> rfl
theorem one_lst {draw : MF} (hD : IsDraw draw) {ds : List D} (h0 : ds ≠ []) (h1 : ds.length ≤ 1000) : Yes 1 (oneM draw [.deck, .lst ds]) fun d => d ∈ ds := by
  refine (Yes.bind (c := 1) (c' := 0) (hD.yes (m := ds.length) (by have := List.length_pos_iff.mpr h0; omega) (by omega)) (g := fun p => (subD (.lst ds) p.1).map fun z => (z, p.2)) fun d hd => ?_).congr fun st => one_eq hD (n := (ds.length : Int)) (v_lenAL) (fun m z => by cases z) st
  obtain ⟨r, rfl, hl⟩ := hd
  have e : subD (.lst ds) (.int ((r : Nat) : Int)) = some ds[r] := by
    rw [v_subL, v_ixL, atI_nn (by omega)]
    simp [List.getElem?_eq_getElem hl]
  refine Yes.of_eq (a := ds[r]) (fun st => ?_) (List.getElem_mem hl)
  show (subD (.lst ds) (.int ((r : Nat) : Int))).map _ = _
  rw [e]; rfl
theorem one_str {draw : MF} (hD : IsDraw draw) {ws : List Nat} (h0 : ws ≠ []) (h1 : ws.length ≤ 1000) : Yes 1 (oneM draw [.deck, .str (W ws)]) fun d => ∃ c ∈ ws, d = .str (W [c]) := by
  have hl0 : lenA [.str (W ws)] = some (.int ((ws.length : Nat) : Int)) := by simp [W_len, grd_of (show ws.length ≤ 1000000 by omega)]
  refine (Yes.bind (c := 1) (c' := 0) (hD.yes (m := ws.length) (by have := List.length_pos_iff.mpr h0; omega) (by omega)) (g := fun p => (subD (.str (W ws)) p.1).map fun z => (z, p.2)) fun d hd => ?_).congr fun st => one_eq hD (n := (ws.length : Int)) hl0 (fun m z => by cases z) st
  obtain ⟨r, rfl, hl⟩ := hd
  have e : subD (.str (W ws)) (.int ((r : Nat) : Int)) = some (.str (W [ws[r]])) := by
    rw [v_subS, v_ixS, grd_of (by rw [W_len]; omega), atI_nn (by omega), Int.toNat_natCast, W_list]
    simp [List.getElem?_eq_getElem hl]
    rfl
  refine Yes.of_eq (a := .str (W [ws[r]])) (fun st => ?_) ⟨_, List.getElem_mem hl, rfl⟩
  show (subD (.str (W ws)) (.int ((r : Nat) : Int))).map _ = _
  rw [e]; rfl
end Lw

set_option Elab.async false
set_option linter.all false
set_option maxRecDepth 100000
set_option maxHeartbeats 1000000
namespace Lw
open PySem MD
/-! ### kinds of the laws k21 .. k29 -/
def OkO (m : Nat) (d : D) : Prop := ∃ o : Option Nat, d = optD o ∧ ∀ s, o = some s → s < m
noncomputable def kdE (draw : MF) : ME := (ifM (tstM (opM gtM (callM draw (aCons (rd 0) (aCons (rd 3) aNil))) (cst (.int 0)))) (callM draw (aCons (rd 0) (aCons (rd 2) aNil))) (cst .non))
theorem kdE_yes {draw : MF} (hD : IsDraw draw) {m q : Nat} (hm : 0 < m) (hm2 : m ≤ 1000) (hq : 0 < q) (hq2 : q ≤ 1000) (e : Sg) (h : e[0]? = some (.val .deck)) (h3 : e[3]? = some (.val (.int ((q : Nat) : Int)))) (h2 : e[2]? = some (.val (.int ((m : Nat) : Int)))) : Yes 2 (kdE draw e) (OkO m) := by
  intro st h0 hn
  obtain ⟨_, s1, e1, ⟨r, rfl, r1⟩, l1, l2⟩ := hD.yes (m := q) hq (by omega) st h0 (by omega)
  by_cases hr : r = 0
  · subst hr
    exact ⟨.non, s1, by simp [kdE, h, h2, h3, e1], ⟨none, rfl, fun s z => by cases z⟩, by omega, by omega⟩
  · obtain ⟨_, s2, e2, ⟨r', rfl, r2⟩, l3, l4⟩ := hD.yes (m := m) hm (by omega) s1 (by omega) (by omega)
    refine ⟨.int ((r' : Nat) : Int), s2, ?_, ⟨some r', rfl, fun s z => by cases z; exact r2⟩, by omega, by omega⟩
    simp [kdE, h, h2, h3, e1, e2, hr]
noncomputable def kdEnd (draw : MF) : ME := (opM gtM (callM draw (aCons (rd 0) (aCons (cst (.int 3)) aNil))) (cst (.int 0)))
theorem kdEnd_yes {draw : MF} (hD : IsDraw draw) (e : Sg) (h : e[0]? = some (.val .deck)) : Yes 1 (kdEnd draw e) fun d => ∃ b : Bool, d = .bl b ∧ True := by
  intro st h0 hn
  obtain ⟨_, s1, e1, ⟨r, rfl, r1⟩, l1, l2⟩ := hD.yes (m := 3) (by decide) (by decide) st h0 (by omega)
  have e1' : draw [.deck, .int 3] st = some (.int ((r : Nat) : Int), s1) := e1
  exact ⟨.bl (decide (0 < r)), s1, by simp [kdEnd, h, e1'], ⟨_, rfl, trivial⟩, by omega, by omega⟩
noncomputable def kdB (draw : MF) : MS := (seqM (asgM (nameT 6) (frz (compM (r1M (aCons (rd 1) aNil)) (nameT 7) yesM (kdE draw) [7])))
 (appM 4 (cbM tupleM (aCons (rd 6) aNil))))
noncomputable def kdBody (draw one : MF) : MS := (seqM (asgM (nameT 3) (callM one (aCons (rd 0) (aCons (frz (lstM (aCons (cst (.int 2)) (aCons (cst (.int 4)) (aCons (cst (.int 9)) aNil))))) aNil))))
 (seqM (ownM 4 (lstM aNil))
 (seqM (forM (r1M (aCons (rd 2) aNil)) (nameT 5) (kdB draw))
 (retM (tupM (aCons (rd 1) (aCons (cbM tupleM (aCons (rdW 4) aNil)) (aCons (cbM tupleM (aCons (frz (compM (r1M (aCons (rd 2) aNil)) (nameT 5) yesM (kdEnd draw) [5])) aNil)) aNil))))))))
structure RwI (k m : Nat) (x3 : Sl) (j : Nat) (env : Sg) : Prop where
  ex : ∃ (rows : List (List (Option Nat))) (x5 x6 x7 : Sl), env = [.val .deck, .val (.int ((k : Nat) : Int)), .val (.int ((m : Nat) : Int)), x3, .own (.lst, rows.map rowD), x5, x6, x7] ∧ rows.length = j ∧ (∀ r ∈ rows, r.length = k) ∧ ∀ r ∈ rows, ∀ s, some s ∈ r → s < m
theorem kd_turn {draw : MF} (hD : IsDraw draw) {k m q : Nat} (hk : k ≤ 4) (hm0 : 0 < m) (hm : m ≤ 100) (hq : 0 < q) (hq2 : q ≤ 1000) (i : Nat) (d : D) (hi : i ≤ 1000) (env : Sg) (hI : RwI k m (.val (.int ((q : Nat) : Int))) i env) : ∃ e, nameT 5 d env = some e ∧ Yes 8 (kdB draw e) fun fl => ∃ e', fl = .nx e' ∧ RwI k m (.val (.int ((q : Nat) : Int))) (i + 1) e' := by
  obtain ⟨rows, x5, x6, x7, rfl, h1, h3, h4⟩ := hI.ex
  refine ⟨_, rfl, ?_⟩
  intro st h0 hn
  have hset : ([Sl.val D.deck, .val (.int ((k : Nat) : Int)), .val (.int ((m : Nat) : Int)), .val (.int ((q : Nat) : Int)), .own (.lst, rows.map rowD), x5, x6, x7].set 5 (.val d)) = [.val .deck, .val (.int ((k : Nat) : Int)), .val (.int ((m : Nat) : Int)), .val (.int ((q : Nat) : Int)), .own (.lst, rows.map rowD), .val d, x6, x7] := rfl
  have hc := compL_yes (t := nameT 7) (f := kdE draw) (env := [.val .deck, .val (.int ((k : Nat) : Int)), .val (.int ((m : Nat) : Int)), .val (.int ((q : Nat) : Int)), .own (.lst, rows.map rowD), .val d, x6, .un]) (k := 2) (P := OkO m) (rngD 0 k) fun d' _ => ⟨_, rfl, kdE_yes hD hm0 (by omega) hq hq2 _ rfl rfl rfl⟩
  rw [rngD_len] at hc
  obtain ⟨l, s4, e4, ⟨hl, hp⟩, l7, l8⟩ := hc st (by omega) (by omega)
  obtain ⟨row, rfl, hrow⟩ := maps_of l hp
  have hrl : row.length = k := by simpa using hl
  refine ⟨_, s4, ?_, ⟨_, rfl, ⟨rows ++ [row], .val d, .val (.lst (row.map optD)), x7, rfl, by simp [h1], fun r hr => ?_, fun r hr s hs => ?_⟩⟩, by omega, by omega⟩
  · rw [hset]
    unfold kdB
    generalize kdE draw = B at e4
    simp [grd_of (show rows.length + 1 ≤ 1000000 by omega), rng_of (show k ≤ 1000000 by omega), rngD_len, grd_of (show k ≤ 1000000 by omega)]
    rw [e4]
    simp [grd_of (show rows.length + 1 ≤ 1000000 by omega)]
  · rcases List.mem_append.mp hr with z | z
    · exact h3 r z
    · rw [List.mem_singleton.mp z]; exact hrl
  · rcases List.mem_append.mp hr with z | z
    · exact h4 r z s hs
    · rw [List.mem_singleton.mp z] at hs
      exact hrow _ hs s rfl
theorem kd_yes {draw : MF} (hD : IsDraw draw) {k m : Nat} (hk0 : 1 ≤ k) (hk : k ≤ 4) (hm0 : 1 ≤ m) (hm : m ≤ 9) : Yes 100 (runM 8 (kdBody draw (oneM draw)) [.deck, .int ((k : Nat) : Int), .int ((m : Nat) : Int)]) fun d => ∃ kd : Kd, d = tK kd ∧ kd.Ok ∧ kd.k = k ∧ kd.rows.length = m := by
  intro st h0 hn
  obtain ⟨d1, s1, e1, m1, l1, l2⟩ := one_lst hD (ds := [.int 2, .int 4, .int 9]) (by simp) (by simp) st h0 (by omega)
  obtain ⟨q, rfl, hq, hq2⟩ : ∃ q : Nat, d1 = .int ((q : Nat) : Int) ∧ 0 < q ∧ q ≤ 1000 := by
    simp only [List.mem_cons, List.mem_nil_iff, or_false] at m1
    rcases m1 with rfl | rfl | rfl
    · exact ⟨2, rfl, by omega, by omega⟩
    · exact ⟨4, rfl, by omega, by omega⟩
    · exact ⟨9, rfl, by omega, by omega⟩
  have hF := forL_yesI (t := nameT 5) (b := kdB draw) (k := 8) (I := RwI k m (.val (.int ((q : Nat) : Int)))) (rngD 0 m) 0 [.val .deck, .val (.int ((k : Nat) : Int)), .val (.int ((m : Nat) : Int)), .val (.int ((q : Nat) : Int)), .own (.lst, []), .un, .un, .un]
      ⟨[], .un, .un, .un, rfl, rfl, fun r h => (by cases h), fun r h => (by cases h)⟩ fun d hd i e hi hI => kd_turn hD hk (by omega) (by omega) hq hq2 i d (by rw [rngD_len] at hi; omega) e hI
  rw [rngD_len] at hF
  obtain ⟨fl, s2, e2, ⟨ee, rfl, hE⟩, l3, l4⟩ := hF s1 (by omega) (by omega)
  obtain ⟨rows, x5, x6, x7, rfl, h1, h3, h4⟩ := hE.ex
  have hc := compL_yes (t := nameT 5) (f := kdEnd draw) (env := [.val .deck, .val (.int ((k : Nat) : Int)), .val (.int ((m : Nat) : Int)), .val (.int ((q : Nat) : Int)), .own (.lst, rows.map rowD), .un, x6, x7]) (k := 1) (P := fun d => ∃ b : Bool, d = .bl b ∧ True) (rngD 0 m) fun d' _ => ⟨_, rfl, kdEnd_yes hD _ rfl⟩
  rw [rngD_len] at hc
  obtain ⟨l, s3, e3, ⟨hl, hp⟩, l5, l6⟩ := hc s2 (by omega) (by omega)
  obtain ⟨ends, rfl, _⟩ := maps_of l hp
  have hel : ends.length = m := by simpa using hl
  refine ⟨tK ⟨k, rows, ends⟩, s3, ?_, ⟨_, rfl, ⟨hk0, hk, by show 1 ≤ rows.length; omega, by show rows.length ≤ 9; omega, by show ends.length = rows.length; omega, h3, fun r hr s hs => by show s < rows.length; have := h4 r hr s hs; omega⟩, rfl, by show rows.length = m; omega⟩, by omega, by omega⟩
  unfold kdBody
  generalize kdB draw = B at e2
  generalize kdEnd draw = B2 at e3
  simp [e1, grd_of (show 0 ≤ 1000000 by decide), grd_of (show 3 ≤ 1000000 by decide), rng_of (show m ≤ 1000000 by omega)]
  rw [e2]
  simp [grd_of (show 3 ≤ 1000000 by decide), rng_of (show m ≤ 1000000 by omega), rngD_len, grd_of (show m ≤ 1000000 by omega)]
  rw [e3]
  simp [grd_of (show 3 ≤ 1000000 by decide)]
end Lw

set_option Elab.async false
set_option linter.all false
set_option maxRecDepth 100000
set_option maxHeartbeats 1000000
namespace Lw
open PySem MD
/-! ### lines of states -/
theorem mem_rng {d : D} {m : Nat} (h : d ∈ rngD 0 m) : ∃ q : Nat, d = .int ((q : Nat) : Int) ∧ q < m := by
  rw [rng_map] at h
  obtain ⟨q, hq, rfl⟩ := List.mem_map.mp h
  exact ⟨q, rfl, List.mem_range.mp hq⟩
noncomputable def lnE (draw : MF) : ME := (ifM (andM (tstM (opM ltA (opM addM (rd 4) (cst (.int 1))) (rd 2))) (tstM (opM gtM (callM draw (aCons (rd 0) (aCons (cst (.int 4)) aNil))) (cst (.int 0))))) (opM addM (rd 4) (cst (.int 1))) (cst .non))
theorem lnE_yes {draw : MF} (hD : IsDraw draw) {m q : Nat} (e : Sg) (h : e[0]? = some (.val .deck)) (h4 : e[4]? = some (.val (.int ((q : Nat) : Int)))) (h2 : e[2]? = some (.val (.int ((m : Nat) : Int)))) : Yes 1 (lnE draw e) (OkO m) := by
  intro st h0 hn
  by_cases hq : ((q : Nat) : Int) + 1 < ((m : Nat) : Int)
  · obtain ⟨_, s1, e1, ⟨r, rfl, r1⟩, l1, l2⟩ := hD.yes (m := 4) (by decide) (by decide) st h0 (by omega)
    have e1' : draw [.deck, .int 4] st = some (.int ((r : Nat) : Int), s1) := e1
    by_cases hr : r = 0
    · subst hr
      exact ⟨.non, s1, by simp [lnE, h, h2, h4, e1', hq], ⟨none, rfl, fun s z => by cases z⟩, by omega, by omega⟩
    · refine ⟨.int ((q + 1 : Nat) : Int), s1, ?_, ⟨some (q + 1), rfl, fun s z => by cases z; omega⟩, by omega, by omega⟩
      simp [lnE, h, h2, h4, e1', hr, hq]
  · exact ⟨.non, st, by simp [lnE, h, h2, h4, hq], ⟨none, rfl, fun s z => by cases z⟩, by omega, by omega⟩
noncomputable def lnEnd (draw : MF) : ME := (orV (opM eqM (rd 4) (opM subM (rd 2) (cst (.int 1)))) (opM eqM (callM draw (aCons (rd 0) (aCons (cst (.int 3)) aNil))) (cst (.int 0))))
theorem lnEnd_yes {draw : MF} (hD : IsDraw draw) {m q : Nat} (e : Sg) (h : e[0]? = some (.val .deck)) (h4 : e[4]? = some (.val (.int ((q : Nat) : Int)))) (h2 : e[2]? = some (.val (.int ((m : Nat) : Int)))) : Yes 1 (lnEnd draw e) fun d => ∃ b : Bool, d = .bl b ∧ True := by
  intro st h0 hn
  obtain ⟨_, s1, e1, ⟨r, rfl, r1⟩, l1, l2⟩ := hD.yes (m := 3) (by decide) (by decide) st h0 (by omega)
  have e1' : draw [.deck, .int 3] st = some (.int ((r : Nat) : Int), s1) := e1
  by_cases hq : ((q : Nat) : Int) = ((m : Nat) : Int) - 1
  · exact ⟨.bl true, st, by simp [lnEnd, h, h2, h4, hq], ⟨_, rfl, trivial⟩, by omega, by omega⟩
  · exact ⟨.bl (decide (r = 0)), s1, by simp [lnEnd, h, h2, h4, hq, e1'], ⟨_, rfl, trivial⟩, by omega, by omega⟩
noncomputable def lnB (draw : MF) : MS := (seqM (ownM 5 (compM (r1M (aCons (rd 1) aNil)) (nameT 6) yesM (lnE draw) [6]))
 (seqM (ifS (tstM (opM ltA (opM addM (rd 4) (cst (.int 1))) (rd 2)))
 (lsetM 5 (callM draw (aCons (rd 0) (aCons (rd 1) aNil))) (opM addM (rd 4) (cst (.int 1))))
 nxM)
 (appM 3 (cbM tupleM (aCons (rdW 5) aNil)))))
noncomputable def lnBody (draw : MF) : MS := (seqM (ownM 3 (lstM aNil))
 (seqM (forM (r1M (aCons (rd 2) aNil)) (nameT 4) (lnB draw))
 (retM (tupM (aCons (rd 1) (aCons (cbM tupleM (aCons (rdW 3) aNil)) (aCons (cbM tupleM (aCons (frz (compM (r1M (aCons (rd 2) aNil)) (nameT 4) yesM (lnEnd draw) [4])) aNil)) aNil)))))))
structure LnI (k m : Nat) (j : Nat) (env : Sg) : Prop where
  ex : ∃ (rows : List (List (Option Nat))) (x4 x5 x6 : Sl), env = [.val .deck, .val (.int ((k : Nat) : Int)), .val (.int ((m : Nat) : Int)), .own (.lst, rows.map rowD), x4, x5, x6] ∧ rows.length = j ∧ (∀ r ∈ rows, r.length = k) ∧ ∀ r ∈ rows, ∀ s, some s ∈ r → s < m
theorem ln_turn {draw : MF} (hD : IsDraw draw) {k m : Nat} (hk0 : 1 ≤ k) (hk : k ≤ 4) (i : Nat) (d : D) (hd : d ∈ rngD 0 m) (hi : i ≤ 1000) (env : Sg) (hI : LnI k m i env) : ∃ e, nameT 4 d env = some e ∧ Yes 5 (lnB draw e) fun fl => ∃ e', fl = .nx e' ∧ LnI k m (i + 1) e' := by
  obtain ⟨rows, x4, x5, x6, rfl, h1, h3, h4⟩ := hI.ex
  obtain ⟨q, rfl, hq⟩ := mem_rng hd
  refine ⟨_, rfl, ?_⟩
  intro st h0 hn
  have hset : ([Sl.val D.deck, .val (.int ((k : Nat) : Int)), .val (.int ((m : Nat) : Int)), .own (.lst, rows.map rowD), x4, x5, x6].set 4 (.val (.int ((q : Nat) : Int)))) = [.val .deck, .val (.int ((k : Nat) : Int)), .val (.int ((m : Nat) : Int)), .own (.lst, rows.map rowD), .val (.int ((q : Nat) : Int)), x5, x6] := rfl
  have hc := compL_yes (t := nameT 6) (f := lnE draw) (env := [.val .deck, .val (.int ((k : Nat) : Int)), .val (.int ((m : Nat) : Int)), .own (.lst, rows.map rowD), .val (.int ((q : Nat) : Int)), x5, .un]) (k := 1) (P := OkO m) (rngD 0 k) fun d' _ => ⟨_, rfl, lnE_yes hD _ rfl rfl rfl⟩
  rw [rngD_len] at hc
  obtain ⟨l, s4, e4, ⟨hl, hp⟩, l7, l8⟩ := hc st (by omega) (by omega)
  obtain ⟨row, rfl, hrow⟩ := maps_of l hp
  have hrl : row.length = k := by simpa using hl
  have fin : ∀ (row' : List (Option Nat)), row'.length = k → (∀ s, some s ∈ row' → s < m) → LnI k m (i + 1) [.val .deck, .val (.int ((k : Nat) : Int)), .val (.int ((m : Nat) : Int)), .own (.lst, (rows ++ [row']).map rowD), .val (.int ((q : Nat) : Int)), .own (.lst, row'.map optD), x6] := fun row' g1 g2 => by
    refine ⟨rows ++ [row'], _, _, _, rfl, by simp [h1], fun r hr => ?_, fun r hr s hs => ?_⟩
    · rcases List.mem_append.mp hr with z | z
      · exact h3 r z
      · rw [List.mem_singleton.mp z]; exact g1
    · rcases List.mem_append.mp hr with z | z
      · exact h4 r z s hs
      · rw [List.mem_singleton.mp z] at hs
        exact g2 s hs
  rw [hset]
  by_cases hq2 : ((q : Nat) : Int) + 1 < ((m : Nat) : Int)
  · obtain ⟨_, s5, e5, ⟨r, rfl, r1⟩, l1, l2⟩ := hD.yes (m := k) (by omega) (by omega) s4 (by omega) (by omega)
    have hset2 : (row.map optD).set r (.int (((q : Nat) : Int) + 1)) = (row.set r (some (q + 1))).map optD := by rw [List.map_set]; rfl
    refine ⟨_, s5, ?_, ⟨_, rfl, fin (row.set r (some (q + 1))) (by simpa using hrl) fun s hs => ?_⟩, by omega, by omega⟩
    · unfold lnB
      generalize lnE draw = B at e4
      simp [rng_of (show k ≤ 1000000 by omega), rngD_len, grd_of (show k ≤ 1000000 by omega)]
      rw [e4]
      have hix : L2.ixN row.length ((r : Nat) : Int) = some r := by
        unfold L2.ixN
        rw [if_pos (by omega), if_pos (by omega)]
        simp
      simp [hq2, e5, hix, hset2, grd_of (show rows.length + 1 ≤ 1000000 by omega)]
    · rcases List.mem_or_eq_of_mem_set hs with z | z
      · exact hrow _ z s rfl
      · cases z; omega
  · refine ⟨_, s4, ?_, ⟨_, rfl, fin row hrl fun s hs => hrow _ hs s rfl⟩, by omega, by omega⟩
    unfold lnB
    generalize lnE draw = B at e4
    simp [rng_of (show k ≤ 1000000 by omega), rngD_len, grd_of (show k ≤ 1000000 by omega)]
    rw [e4]
    simp [hq2, grd_of (show rows.length + 1 ≤ 1000000 by omega)]
theorem ln_yes {draw : MF} (hD : IsDraw draw) {k m : Nat} (hk0 : 1 ≤ k) (hk : k ≤ 4) (hm0 : 1 ≤ m) (hm : m ≤ 9) : Yes 60 (runM 7 (lnBody draw) [.deck, .int ((k : Nat) : Int), .int ((m : Nat) : Int)]) fun d => ∃ kd : Kd, d = tK kd ∧ kd.Ok ∧ kd.k = k ∧ kd.rows.length = m := by
  intro st h0 hn
  have hF := forL_yesI (t := nameT 4) (b := lnB draw) (k := 5) (I := LnI k m) (rngD 0 m) 0 [.val .deck, .val (.int ((k : Nat) : Int)), .val (.int ((m : Nat) : Int)), .own (.lst, []), .un, .un, .un]
      ⟨[], .un, .un, .un, rfl, rfl, fun r h => (by cases h), fun r h => (by cases h)⟩ fun d hd i e hi hI => ln_turn hD hk0 hk i d hd (by rw [rngD_len] at hi; omega) e hI
  rw [rngD_len] at hF
  obtain ⟨fl, s2, e2, ⟨ee, rfl, hE⟩, l3, l4⟩ := hF st (by omega) (by omega)
  obtain ⟨rows, x4, x5, x6, rfl, h1, h3, h4⟩ := hE.ex
  have hc := compL_yes (t := nameT 4) (f := lnEnd draw) (env := [.val .deck, .val (.int ((k : Nat) : Int)), .val (.int ((m : Nat) : Int)), .own (.lst, rows.map rowD), .un, x5, x6]) (k := 1) (P := fun d => ∃ b : Bool, d = .bl b ∧ True) (rngD 0 m) fun d' hd' => by
    obtain ⟨q, rfl, hq⟩ := mem_rng hd'
    exact ⟨_, rfl, lnEnd_yes hD _ rfl rfl rfl⟩
  rw [rngD_len] at hc
  obtain ⟨l, s3, e3, ⟨hl, hp⟩, l5, l6⟩ := hc s2 (by omega) (by omega)
  obtain ⟨ends, rfl, _⟩ := maps_of l hp
  have hel : ends.length = m := by simpa using hl
  refine ⟨tK ⟨k, rows, ends⟩, s3, ?_, ⟨_, rfl, ⟨hk0, hk, by show 1 ≤ rows.length; omega, by show rows.length ≤ 9; omega, by show ends.length = rows.length; omega, h3, fun r hr s hs => by show s < rows.length; have := h4 r hr s hs; omega⟩, rfl, by show rows.length = m; omega⟩, by omega, by omega⟩
  unfold lnBody
  generalize lnB draw = B at e2
  generalize lnEnd draw = B2 at e3
  simp [grd_of (show 0 ≤ 1000000 by decide), grd_of (show 3 ≤ 1000000 by decide), rng_of (show m ≤ 1000000 by omega)]
  rw [e2]
  simp [grd_of (show 3 ≤ 1000000 by decide), rng_of (show m ≤ 1000000 by omega), rngD_len, grd_of (show m ≤ 1000000 by omega)]
  rw [e3]
  simp [grd_of (show 3 ≤ 1000000 by decide)]
end Lw

set_option Elab.async false
set_option linter.all false
set_option maxRecDepth 100000
set_option maxHeartbeats 1000000
namespace Lw
open PySem MD L2
theorem joinL_flat : ∀ (ps : List (List Nat)), TL.joinL [] ps = ps.flatten
  | [] => rfl
  | [p] => by simp [TL.joinL]
  | p :: q :: r => by
    show p ++ ([] ++ TL.joinL [] (q :: r)) = _
    rw [joinL_flat (q :: r)]
    rfl
theorem join_str (ps : List (List Nat)) : Txt.join "" (ps.map W) = W ps.flatten := by
  apply TL.ext_tl
  rw [TL.join_eq, TL.tl_join, empty_W]
  show TL.joinL (W []).cps.toList ((ps.map W).map fun x => x.cps.toList) = (W ps.flatten).cps.toList
  rw [W_list, W_list, List.map_map]
  have e : ((fun (x : Str) => x.cps.toList) ∘ W) = id := by funext x; simp
  rw [e, List.map_id, joinL_flat]
theorem flat_one (ws : List Nat) : (ws.map fun c => [c]).flatten = ws := by
  induction ws with
  | nil => rfl
  | cons x r ih => simp [ih]
theorem join_W (ws : List Nat) (h : ws.length ≤ 1000000) : joinM (.str "") [.lst (ws.map fun c => D.str (W [c]))] = some (.str (W ws)) := by
  have e : (ws.map fun c => D.str (W [c])) = ((ws.map fun c => [c]).map W).map D.str := by rw [List.map_map, List.map_map]; rfl
  rw [e]
  show ((strsOf (((ws.map fun c => [c]).map W).map D.str)).bind fun ys => if (ys.map (·.length)).sum + ys.length * ("" : Str).length ≤ 16777216 then some (D.str (Txt.join "" ys)) else none) = _
  rw [strsOf_map]
  show (if ((((ws.map fun c => [c]).map W)).map (·.length)).sum + (((ws.map fun c => [c]).map W)).length * ("" : Str).length ≤ 16777216 then some (D.str (Txt.join "" ((ws.map fun c => [c]).map W))) else none) = _
  rw [if_pos, join_str, flat_one]
  have e1 : ("" : Str).length = 0 := by rw [empty_W, W_len]; rfl
  have e2 : ∀ (l : List Nat), ((((l.map fun c => [c]).map W)).map (·.length)).sum = l.length := fun l => by
    induction l with
    | nil => rfl
    | cons x r ih => simp at ih ⊢; omega
  rw [e1, e2, Nat.mul_zero]
  omega
theorem cutW_to' {ws : List Nat} {n : Nat} : cutS (W ws) none (some ((n : Nat) : Int)) = W (ws.take n) := by
  unfold cutS
  rw [W_list, W_len, HT.sIx_none, HT.sIx_nat]
  show (⟨((ws.drop 0).take (min n ws.length - 0)).toArray⟩ : Str) = _
  rw [List.drop_zero, Nat.sub_zero]
  have : ws.take (min n ws.length) = ws.take n := by
    by_cases h : n ≤ ws.length
    · rw [Nat.min_eq_left h]
    · rw [Nat.min_eq_right (by omega), List.take_of_length_le (Nat.le_refl _), List.take_of_length_le (by omega)]
  rw [this]
  rfl
theorem cutW_from' {ws : List Nat} {n : Nat} : cutS (W ws) (some ((n : Nat) : Int)) none = W (ws.drop n) := by
  unfold cutS
  rw [W_list, W_len, HT.sIx_none, HT.sIx_nat]
  show (⟨((ws.drop (min n ws.length)).take (ws.length - min n ws.length)).toArray⟩ : Str) = _
  rw [List.take_of_length_le (by rw [List.length_drop]; exact Nat.le_refl _)]
  have : ws.drop (min n ws.length) = ws.drop n := by
    by_cases h : n ≤ ws.length
    · rw [Nat.min_eq_left h]
    · rw [Nat.min_eq_right (by omega), List.drop_of_length_le (Nat.le_refl _), List.drop_of_length_le (by omega)]
  rw [this]
  rfl
theorem abcd_lets {k : Nat} : Lets k ((List.range k).map (97 + ·)) := fun c hc => by
  obtain ⟨x, hx, rfl⟩ := List.mem_map.mp hc
  have := List.mem_range.mp hx
  exact ⟨by omega, by omega⟩
/-- a letter drawn -/
theorem let_yes {draw : MF} (hD : IsDraw draw) {k : Nat} (hk0 : 1 ≤ k) (hk : k ≤ 4) : Yes 1 (oneM draw [.deck, .str (W ((List.range k).map (97 + ·)))]) fun d => ∃ c, d = .str (W [c]) ∧ Let k c :=
  (one_str hD (ws := (List.range k).map (97 + ·)) (fun z => by have := congrArg List.length z; simp at this; omega) (by simp; omega)).mono (Nat.le_refl _) fun d ⟨c, hc, e⟩ => ⟨c, e, abcd_lets c hc⟩
/-! ### words drawn -/
noncomputable def wdE (one : MF) : ME := (callM one (aCons (rd 0) (aCons (slM slAny (cst (.str "abcd")) noP (prt (rd 1))) aNil)))
theorem wdE_yes {draw : MF} (hD : IsDraw draw) {k : Nat} (hk0 : 1 ≤ k) (hk : k ≤ 4) (e : Sg) (h : e[0]? = some (.val .deck)) (h1 : e[1]? = some (.val (.int ((k : Nat) : Int)))) : Yes 1 (wdE (oneM draw) e) fun d => ∃ c, d = .str (W [c]) ∧ Let k c := by
  intro st h0 hn
  obtain ⟨d, s1, e1, p1, l1, l2⟩ := let_yes hD hk0 hk st h0 (by omega)
  refine ⟨d, s1, ?_, p1, l1, l2⟩
  generalize oneM draw = one at e1
  simp [wdE, h, h1, grd_of abcd_len, cut_abcd hk, e1]
noncomputable def wordB (draw one : MF) : MS := (retM (m1M joinM (cst (.str "")) (frz (compM (r1M (aCons (callM draw (aCons (rd 0) (aCons (opM addM (rd 2) (cst (.int 1))) aNil))) aNil)) (nameT 3) yesM (wdE one) [3]))))
theorem word_yes {draw : MF} (hD : IsDraw draw) {k n : Nat} (hk0 : 1 ≤ k) (hk : k ≤ 4) (hn1 : n ≤ 1000) : Yes (n + 1) (runM 4 (wordB draw (oneM draw)) [.deck, .int ((k : Nat) : Int), .int ((n : Nat) : Int)]) fun d => ∃ ws, d = .str (W ws) ∧ Lets k ws ∧ ws.length ≤ n := by
  intro st h0 hn
  obtain ⟨_, s1, e1, ⟨r, rfl, r1⟩, l1, l2⟩ := hD.yes (m := n + 1) (by omega) (by omega) st h0 (by omega)
  have e1' : draw [.deck, .int (((n : Nat) : Int) + 1)] st = some (.int ((r : Nat) : Int), s1) := e1
  have hc := compL_yes (t := nameT 3) (f := wdE (oneM draw)) (env := [.val .deck, .val (.int ((k : Nat) : Int)), .val (.int ((n : Nat) : Int)), .un]) (k := 1) (P := fun d => ∃ c, d = .str (W [c]) ∧ Let k c) (rngD 0 r) fun d' _ => ⟨_, rfl, wdE_yes hD hk0 hk _ rfl rfl⟩
  rw [rngD_len] at hc
  obtain ⟨l, s2, e2, ⟨hl, hp⟩, l3, l4⟩ := hc s1 (by omega) (by omega)
  obtain ⟨ws, rfl, hws⟩ := maps_of (f := fun c => D.str (W [c])) l hp
  have hlen : ws.length = r := by simpa using hl
  refine ⟨.str (W ws), s2, ?_, ⟨ws, rfl, hws, by omega⟩, by omega, by omega⟩
  unfold wordB
  generalize wdE (oneM draw) = B at e2
  have hj := join_W ws (by omega)
  simp [e1', rng_of (show r ≤ 1000000 by omega), rngD_len, grd_of (show r ≤ 1000000 by omega)]
  rw [e2]
  simp [hj]
end Lw

set_option Elab.async false
set_option linter.all false
set_option maxRecDepth 100000
set_option maxHeartbeats 1000000
namespace Lw
open PySem MD L2
/-! ### words walked along a kind -/
def outs (kd : Kd) (s : Nat) : List Nat := (List.range kd.k).filter fun x => (stp kd s x).isSome
abbrev nD (n : Nat) : D := .int ((n : Nat) : Int)
abbrev tN (ns : List Nat) : List D := ns.map nD
theorem ne_nats (a : List Nat) : neM (.lst (tN a)) (.lst []) = some (.bl (!a.isEmpty)) := by
  have h := ne_ints (a.map fun x => ((x : Nat) : Int)) []
  rw [List.map_map, List.map_nil] at h
  have e : (D.int ∘ fun (x : Nat) => ((x : Nat) : Int)) = nD := rfl
  rw [e] at h
  rw [h]
  cases a <;> rfl
noncomputable def wkC : MT := (tstM (opM isNotM (opM subD (opM subD (opM subD (rd 1) (cst (.int 1))) (rd 4)) (rd 7)) (cst .non)))
noncomputable def wkB (one : MF) : MS := (seqM (asgM (nameT 6) (frz (compM (r1M (aCons (opM subD (rd 1) (cst (.int 0))) aNil)) (nameT 7) wkC (rd 7) [7])))
 (ifS (tstM (opM neM (rd 6) (frz (lstM aNil))))
 (seqM (asgM (nameT 7) (callM one (aCons (rd 0) (aCons (rd 6) aNil))))
 (asgM (tupT 2 (consT (nameT 3) (consT (nameT 4) nilT))) (tupM (aCons (opM addM (rd 3) (opM subD (cst (.str "abcd")) (rd 7))) (aCons (opM subD (opM subD (opM subD (rd 1) (cst (.int 1))) (rd 4)) (rd 7)) aNil)))))
 nxM))
theorem wk_comp {kd : Kd} (ok : kd.Ok) {s : Nat} (hs : s < kd.rows.length) (st : S) (x2 x3 x5 x6 : Sl) (xs : List Nat) (h : ∀ x ∈ xs, x < kd.k) :
    compL (nameT 7) wkC (rd 7) [.val .deck, .val (tK kd), x2, x3, .val (nD s), x5, x6, .un] (tN xs) st = some (tN (xs.filter fun x => (stp kd s x).isSome), st) := by
  induction xs with
  | nil => rfl
  | cons x xs ih =>
    have hx := h x List.mem_cons_self
    have ih := ih fun y hy => h y (List.mem_cons_of_mem _ hy)
    have e1 := item_D ok hs hx
    rw [show tN (x :: xs) = nD x :: tN xs from rfl, v_compL]
    unfold wkC at ih ⊢
    cases hst : stp kd s x with
    | none =>
      rw [hst] at e1
      simp [row_D hs, e1, ih, hst]
    | some s' =>
      rw [hst] at e1
      simp [row_D hs, e1, ih, hst]
structure WkI (kd : Kd) (x2 : Sl) (j : Nat) (env : Sg) : Prop where
  ex : ∃ w s x5 x6 x7, env = [.val .deck, .val (tK kd), x2, .val (.str (W w)), .val (nD s), x5, x6, x7] ∧ Lets kd.k w ∧ walk kd 0 w = some s ∧ s < kd.rows.length ∧ w.length ≤ j
theorem wk_turn {draw : MF} (hD : IsDraw draw) {kd : Kd} (ok : kd.Ok) (x2 : Sl) (d : D) (j : Nat) (hj : j ≤ 1000) (env : Sg) (hi : WkI kd x2 j env) : ∃ e, nameT 5 d env = some e ∧ Yes 1 (wkB (oneM draw) e) fun fl => ∃ e', fl = .nx e' ∧ WkI kd x2 (j + 1) e' := by
  obtain ⟨w, s, x5, x6, x7, rfl, hw, hwk, hs, hl⟩ := hi.ex
  refine ⟨_, rfl, ?_⟩
  have hk4 := ok.k4
  intro st h0 hn
  have e1 := wk_comp ok hs st x2 (.val (.str (W w))) (.val d) x6 (List.range kd.k) fun x hx => List.mem_range.mp hx
  have ea : asgM (nameT 6) (frz (compM (r1M (aCons (opM subD (rd 1) (cst (.int 0))) aNil)) (nameT 7) wkC (rd 7) [7])) [.val .deck, .val (tK kd), x2, .val (.str (W w)), .val (nD s), .val d, x6, x7] st =
      some (.nx [.val .deck, .val (tK kd), x2, .val (.str (W w)), .val (nD s), .val d, .val (.lst (tN (outs kd s))), x7], st) := by
    generalize wkC = B at e1
    simp [rng_of (show kd.k ≤ 1000000 by omega), rngD_len, grd_of (show kd.k ≤ 1000000 by omega)]
    rw [rng_map, e1]
    rfl
  have hne := ne_nats (outs kd s)
  have hset : ([Sl.val D.deck, .val (tK kd), x2, .val (.str (W w)), .val (nD s), x5, x6, x7].set 5 (.val d)) = [.val .deck, .val (tK kd), x2, .val (.str (W w)), .val (nD s), .val d, x6, x7] := rfl
  rw [hset]
  by_cases ho : outs kd s = []
  · refine ⟨_, st, ?_, ⟨_, rfl, ⟨w, s, .val d, .val (.lst []), x7, rfl, hw, hwk, hs, by omega⟩⟩, Int.le_refl _, by omega⟩
    rw [ho] at ea hne
    unfold wkB
    rw [v_seqM, ea]
    simp at hne
    simp [grd_of (show 0 ≤ 1000000 by decide), hne]
  · have hlen : (tN (outs kd s)).length ≤ 1000 := by
      rw [List.length_map]
      have : (outs kd s).length ≤ (List.range kd.k).length := List.length_filter_le _ _
      simp at this
      omega
    obtain ⟨y, s1, e2, hy, l1, l2⟩ := one_lst hD (ds := tN (outs kd s)) (fun z => ho (List.map_eq_nil_iff.mp z)) hlen st h0 (by omega)
    obtain ⟨x, hx, rfl⟩ := List.mem_map.mp hy
    obtain ⟨hx1, hx2⟩ := List.mem_filter.mp hx
    have hxk : x < kd.k := List.mem_range.mp hx1
    obtain ⟨s', hs'⟩ := Option.isSome_iff_exists.mp hx2
    have hlt := stp_lt ok hs hs'
    have e3 := item_D ok hs hxk
    rw [hs'] at e3
    have e4 := abcd_at (show x < 4 by omega)
    refine ⟨_, s1, ?_, ⟨_, rfl, ⟨w ++ [97 + x], s', .val d, .val (.lst (tN (outs kd s))), .val (nD x), rfl, hw.snoc hxk, ?_, hlt, by simp; omega⟩⟩, l1, by omega⟩
    · unfold wkB
      rw [v_seqM, ea]
      have hdec : (outs kd s).isEmpty = false := by
        cases h : outs kd s with
        | nil => exact absurd h ho
        | cons a b => rfl
      rw [hdec] at hne
      generalize hLL : tN (outs kd s) = LL at *
      generalize oneM draw = one at e2
      simp [grd_of (show 0 ≤ 1000000 by decide), hne, e2, row_D hs, e3, e4, grd_of (show w.length + 1 ≤ 1000000 by omega), W_app, grd_of (show 2 ≤ 1000000 by decide), optD]
    · rw [walk_snoc, hwk]
      show stp kd s (97 + x - 97) = _
      rw [Nat.add_sub_cancel_left, hs']
noncomputable def walkedB (draw one : MF) : MS := (seqM (asgM (tupT 2 (consT (nameT 3) (consT (nameT 4) nilT))) (tupM (aCons (cst (.str "")) (aCons (cst (.int 0)) aNil))))
 (seqM (forM (r1M (aCons (callM draw (aCons (rd 0) (aCons (opM addM (rd 2) (cst (.int 1))) aNil))) aNil)) (nameT 5) (wkB one))
 (retM (rd 3))))
theorem walked_yes {draw : MF} (hD : IsDraw draw) {kd : Kd} (ok : kd.Ok) {n : Nat} (hn1 : n ≤ 900) : Yes (n + 1) (runM 8 (walkedB draw (oneM draw)) [.deck, tK kd, nD n]) fun d => ∃ ws, d = .str (W ws) ∧ Lets kd.k ws ∧ ws.length ≤ n := by
  intro st h0 hn
  obtain ⟨_, s1, e1, ⟨r, rfl, r1⟩, l1, l2⟩ := hD.yes (m := n + 1) (by omega) (by omega) st h0 (by omega)
  have e1' : draw [.deck, .int (((n : Nat) : Int) + 1)] st = some (.int ((r : Nat) : Int), s1) := e1
  have hF := forL_yesI (t := nameT 5) (b := wkB (oneM draw)) (k := 1) (I := WkI kd (.val (nD n))) (rngD 0 r) 0 [.val .deck, .val (tK kd), .val (nD n), .val (.str (W [])), .val (nD 0), .un, .un, .un]
    ⟨[], 0, .un, .un, .un, rfl, fun c hc => (by cases hc), rfl, ok.m0, Nat.zero_le _⟩ fun d' _ i e hi hI => wk_turn hD ok (.val (nD n)) d' i (by rw [rngD_len] at hi; omega) e hI
  rw [rngD_len] at hF
  obtain ⟨fl, s2, e2, ⟨ee, rfl, hE⟩, l3, l4⟩ := hF s1 (by omega) (by omega)
  obtain ⟨w, s, y5, y6, y7, rfl, hw, hwk, hs, hwl⟩ := hE.ex
  refine ⟨.str (W w), s2, ?_, ⟨w, rfl, hw, by omega⟩, by omega, by omega⟩
  unfold walkedB
  generalize wkB (oneM draw) = B at e2
  rw [← empty_W] at e2
  simp [e1', grd_of (show 2 ≤ 1000000 by decide), rng_of (show r ≤ 1000000 by omega)]
  have e2' : forL (nameT 5) B (rngD 0 r) [Sl.val D.deck, Sl.val (tK kd), Sl.val (nD n), Sl.val (D.str ""), Sl.val (D.int 0), Sl.un, Sl.un, Sl.un] s1 = _ := e2
  rw [e2']
  simp
/-! ### a word with a letter otherwise -/
noncomputable def otherB (draw one : MF) : MS := (seqM (asgM (nameT 3) (callM draw (aCons (rd 0) (aCons (opM addM (cbM lenA (aCons (rd 2) aNil)) (cst (.int 1))) aNil))))
 (retM (slM slAny (opM addM (opM addM (slM slAny (rd 2) noP (prt (rd 3))) (callM one (aCons (rd 0) (aCons (slM slAny (cst (.str "abcd")) noP (prt (rd 1))) aNil)))) (slM slAny (rd 2) (prt (opM addM (rd 3) (callM draw (aCons (rd 0) (aCons (cst (.int 2)) aNil))))) noP)) noP (prt (cst (.int 400))))))
theorem other_yes {draw : MF} (hD : IsDraw draw) {k : Nat} (hk0 : 1 ≤ k) (hk : k ≤ 4) {ws : List Nat} (hw : Lets k ws) (hl : ws.length ≤ 1000) : Yes 3 (runM 4 (otherB draw (oneM draw)) [.deck, nD k, .str (W ws)]) fun d => ∃ vs, d = .str (W vs) ∧ Lets k vs ∧ vs.length ≤ 1001 := by
  intro st h0 hn
  obtain ⟨_, s1, e1, ⟨r, rfl, r1⟩, l1, l2⟩ := hD.yes (m := ws.length + 1) (by omega) (by omega) st h0 (by omega)
  have e1' : draw [.deck, .int (((ws.length : Nat) : Int) + 1)] st = some (.int ((r : Nat) : Int), s1) := e1
  obtain ⟨_, s2, e2, ⟨c, rfl, hc⟩, l3, l4⟩ := let_yes hD hk0 hk s1 (by omega) (by omega)
  obtain ⟨_, s3, e3, ⟨r', rfl, r2⟩, l5, l6⟩ := hD.yes (m := 2) (by omega) (by omega) s2 (by omega) (by omega)
  have e3' : draw [.deck, .int 2] s2 = some (.int ((r' : Nat) : Int), s3) := e3
  have hx : ((r : Nat) : Int) + ((r' : Nat) : Int) = ((r + r' : Nat) : Int) := by omega
  refine ⟨.str (W ((ws.take r ++ [c] ++ ws.drop (r + r')).take 400)), s3, ?_, ⟨_, rfl, fun x hx => ?_, ?_⟩, by omega, by omega⟩
  · unfold otherB
    generalize oneM draw = one at e2
    have h400 : (some (400 : Int)) = some (((400 : Nat) : Nat) : Int) := rfl
    have ht : (ws.take r).length ≤ 1000 := by simp; omega
    have hd' : (ws.drop (r + r')).length ≤ 1000 := by simp; omega
    have g1 : ∀ vs : List Nat, cutS (W vs) none (some (400 : Int)) = W (vs.take 400) := fun vs => cutW_to' (n := 400)
    have g2 : cutS (W ws) (some (((r : Nat) : Int) + ((r' : Nat) : Int))) none = W (ws.drop (r + r')) := by rw [hx]; exact cutW_from'
    have hlen3 : (ws.take r ++ ([c] ++ ws.drop (r + r'))).length ≤ 1000000 := by simp only [List.length_append, List.length_singleton]; omega
    simp [grd_of (show ws.length ≤ 1000000 by omega), e1', cutW_to', grd_of abcd_len, cut_abcd hk, e2, W_app]
    rw [grd_of (by omega)]
    simp [e3', g2, W_app]
    rw [grd_of (by omega)]
    simp [g1]
    rw [grd_of (by omega)]
    simp
  · have hx := List.mem_of_mem_take hx
    rcases List.mem_append.mp hx with z | z
    · rcases List.mem_append.mp z with z | z
      · exact hw x (List.mem_of_mem_take z)
      · rw [List.mem_singleton.mp z]; exact hc
    · exact hw x (List.mem_of_mem_drop z)
  · simp; omega
end Lw

set_option Elab.async false
set_option linter.all false
set_option maxRecDepth 100000
set_option maxHeartbeats 1000000
namespace Lw
open PySem MD L2
/-! ### data, empty dicts among them, that can be shown -/
structure G0 (d : D) (n : Nat) : Prop where
  ql : d.ql = true
  sh : d.qy.showable = true
  dp : d.qy.depth ≤ n
  lf : d.qy.leavesShort 50 = true
def bk (d : D) : Nat := d.qy.bulk
def bks' (ds : List D) : Nat := (ds.map fun d => bk d + 1).sum
structure Gd (d : D) (n b : Nat) : Prop where
  g : G0 d n
  k : bk d ≤ b
structure Gds (ds : List D) (n b : Nat) : Prop where
  g : ∀ d ∈ ds, G0 d n
  k : bks' ds ≤ b
theorem G0.mono {d : D} {n n' : Nat} (h : G0 d n) (hn : n ≤ n') : G0 d n' := ⟨h.ql, h.sh, Nat.le_trans h.dp hn, h.lf⟩
theorem Gd.mono {d : D} {n b n' b' : Nat} (h : Gd d n b) (hn : n ≤ n') (hb : b ≤ b') : Gd d n' b' := ⟨h.g.mono hn, Nat.le_trans h.k hb⟩
theorem Gds.mono {d : List D} {n b n' b' : Nat} (h : Gds d n b) (hn : n ≤ n') (hb : b ≤ b') : Gds d n' b' := ⟨fun x hx => (h.g x hx).mono hn, Nat.le_trans h.k hb⟩
theorem Gd.non : Gd .non 0 0 := ⟨⟨rfl, by simp [D.qy, PyData.showable], by simp [D.qy, PyData.depth], by simp [D.qy, PyData.leavesShort]⟩, by simp [bk, D.qy, PyData.bulk]⟩
theorem Gd.bl (c : Bool) : Gd (.bl c) 0 0 := ⟨⟨rfl, by simp [D.qy, PyData.showable], by simp [D.qy, PyData.depth], by simp [D.qy, PyData.leavesShort]⟩, by simp [bk, D.qy, PyData.bulk]⟩
theorem Gd.dic : Gd (.dic [] []) 1 0 := ⟨⟨rfl, by simp [D.qy, PyData.showable, PyData.showableKv], by simp [D.qy, PyData.depth, PyData.depthKv], by simp [D.qy, PyData.leavesShort, PyData.leavesShortKv]⟩, by simp [bk, D.qy, PyData.bulk, PyData.bulkKv]⟩
theorem Gd.int {i : Int} (h : i.natAbs < 10 ^ 44) : Gd (.int i) 0 0 := by
  refine ⟨⟨rfl, ?_, by simp [D.qy, PyData.depth], ?_⟩, by simp [bk, D.qy, PyData.bulk]⟩
  · simp only [D.qy, PyData.showable, decide_eq_true_eq]
    by_cases h0 : i.natAbs = 0
    · rw [h0]; decide
    · have h1 : i.natAbs.log2 < 150 := (Nat.log2_lt h0).mpr (Nat.lt_of_lt_of_le h (by decide))
      omega
  · simp only [D.qy, PyData.leavesShort, decide_eq_true_eq]
    have e := int_text_length_le10 (k := 44) (by decide) h
    show (Str.ofString (toString i)).length ≤ 50
    rw [ofString_length]; omega
theorem Gd.nat {n : Nat} (h : n ≤ 1000000) : Gd (nD n) 0 0 := Gd.int (by
  rw [Int.natAbs_natCast]
  exact Nat.lt_of_le_of_lt h (by decide))
theorem Gd.str {x : Str} {b : Nat} (h : x.cps.toList.all (fun c => decide (c < 16 ^ 8)) = true) (hb : x.cps.size ≤ b) : Gd (.str x) 0 b := by
  refine ⟨⟨rfl, by simp [D.qy, PyData.showable], by simp [D.qy, PyData.depth], ?_⟩, by simpa [bk, D.qy, PyData.bulk] using hb⟩
  simpa only [D.qy, PyData.leavesShort] using h
theorem qlAll_of {ds : List D} (h : ∀ d ∈ ds, d.ql = true) : qlAll ds = true := by
  induction ds with
  | nil => rfl
  | cons x r ih =>
    show (x.ql && qlAll r) = true
    rw [h x List.mem_cons_self, ih fun y hy => h y (List.mem_cons_of_mem _ hy)]; rfl
theorem shAll_of {ds : List D} (h : ∀ d ∈ ds, d.qy.showable = true) : PyData.showableAll (qyAll ds) = true := by
  induction ds with
  | nil => rfl
  | cons x r ih =>
    show (x.qy.showable && PyData.showableAll (qyAll r)) = true
    rw [h x List.mem_cons_self, ih fun y hy => h y (List.mem_cons_of_mem _ hy)]; rfl
theorem lfAll_of {ds : List D} (h : ∀ d ∈ ds, d.qy.leavesShort 50 = true) : PyData.leavesShortAll 50 (qyAll ds) = true := by
  induction ds with
  | nil => rfl
  | cons x r ih =>
    show (x.qy.leavesShort 50 && PyData.leavesShortAll 50 (qyAll r)) = true
    rw [h x List.mem_cons_self, ih fun y hy => h y (List.mem_cons_of_mem _ hy)]; rfl
theorem dpAll_of {n : Nat} {ds : List D} (h : ∀ d ∈ ds, d.qy.depth ≤ n) : PyData.depthAll (qyAll ds) ≤ n := by
  induction ds with
  | nil => exact Nat.zero_le _
  | cons x r ih =>
    show max x.qy.depth (PyData.depthAll (qyAll r)) ≤ n
    exact Nat.max_le.mpr ⟨h x List.mem_cons_self, ih fun y hy => h y (List.mem_cons_of_mem _ hy)⟩
theorem bkAll_eq (ds : List D) : PyData.bulkAll (qyAll ds) = bks' ds := by
  induction ds with
  | nil => rfl
  | cons x r ih =>
    show x.qy.bulk + 1 + PyData.bulkAll (qyAll r) = _
    rw [ih]; rfl
theorem Gd.lst {ds : List D} {n b : Nat} (h : Gds ds n b) : Gd (.lst ds) (n + 1) b := by
  refine ⟨⟨qlAll_of fun d hd => (h.g d hd).ql, shAll_of fun d hd => (h.g d hd).sh, ?_, lfAll_of fun d hd => (h.g d hd).lf⟩, ?_⟩
  · have := dpAll_of fun d hd => (h.g d hd).dp
    simp only [D.qy, PyData.depth]
    omega
  · have := bkAll_eq ds
    show PyData.bulkAll (qyAll ds) ≤ b
    rw [this]; exact h.k
theorem Gd.tup {ds : List D} {n b : Nat} (h : Gds ds n b) : Gd (.tup ds) (n + 1) b := by
  refine ⟨⟨qlAll_of fun d hd => (h.g d hd).ql, shAll_of fun d hd => (h.g d hd).sh, ?_, lfAll_of fun d hd => (h.g d hd).lf⟩, ?_⟩
  · have := dpAll_of fun d hd => (h.g d hd).dp
    simp only [D.qy, PyData.depth]
    omega
  · have := bkAll_eq ds
    show PyData.bulkAll (qyAll ds) ≤ b
    rw [this]; exact h.k
theorem Gds.nil {n b : Nat} : Gds [] n b := ⟨(fun _ h => nomatch h), Nat.zero_le _⟩
theorem Gds.cons {d : D} {ds : List D} {n b c : Nat} (h : Gd d n b) (hs : Gds ds n c) : Gds (d :: ds) n (b + 1 + c) := by
  refine ⟨fun x hx => ?_, ?_⟩
  · rcases List.mem_cons.mp hx with z | z
    · rw [z]; exact h.g
    · exact hs.g x z
  · show bk d + 1 + bks' ds ≤ _
    have := h.k
    have := hs.k
    omega
theorem bks_app (a b : List D) : bks' (a ++ b) = bks' a + bks' b := by unfold bks'; rw [List.map_append, List.sum_append]
theorem Gds.app {a b : List D} {n c e : Nat} (h : Gds a n c) (h' : Gds b n e) : Gds (a ++ b) n (c + e) := by
  refine ⟨fun x hx => ?_, by rw [bks_app]; exact Nat.add_le_add h.k h'.k⟩
  rcases List.mem_append.mp hx with z | z
  · exact h.g x z
  · exact h'.g x z
theorem Gds.all {n b : Nat} {ds : List D} (h : ∀ d ∈ ds, Gd d n b) : Gds ds n (ds.length * (b + 1)) := by
  refine ⟨fun x hx => (h x hx).g, ?_⟩
  induction ds with
  | nil => exact Nat.zero_le _
  | cons x r ih =>
    have h1 := (h x List.mem_cons_self).k
    have h2 := ih fun y hy => h y (List.mem_cons_of_mem _ hy)
    show bk x + 1 + bks' r ≤ _
    rw [List.length_cons, Nat.succ_mul]
    omega
/-- the parts of a tuple -/
theorem Gd.parts {ds : List D} {n b : Nat} (h : Gd (.tup ds) n b) : ∃ m, n = m + 1 ∧ Gds ds m b := by
  have hd := h.g.dp
  simp only [D.qy, PyData.depth] at hd
  have hq : qlAll ds = true := h.g.ql
  have hs : PyData.showableAll (qyAll ds) = true := h.g.sh
  have hl : PyData.leavesShortAll 50 (qyAll ds) = true := h.g.lf
  refine ⟨n - 1, by omega, ?_, by rw [← bkAll_eq]; exact h.k⟩
  have hd' : PyData.depthAll (qyAll ds) ≤ n - 1 := by omega
  generalize n - 1 = m at hd'
  clear h hd
  induction ds with
  | nil => exact fun _ h => nomatch h
  | cons x r ih =>
    have hq' : (x.ql && qlAll r) = true := hq
    have hs' : (x.qy.showable && PyData.showableAll (qyAll r)) = true := hs
    have hl' : (x.qy.leavesShort 50 && PyData.leavesShortAll 50 (qyAll r)) = true := hl
    have hd'' : max x.qy.depth (PyData.depthAll (qyAll r)) ≤ m := hd'
    rw [Bool.and_eq_true] at hq' hs' hl'
    rw [Nat.max_le] at hd''
    intro d hd
    rcases List.mem_cons.mp hd with z | z
    · rw [z]; exact ⟨hq'.1, hs'.1, hd''.1, hl'.1⟩
    · exact ih hq'.2 hs'.2 hl'.2 hd''.2 d z
theorem bks_split (ds : List D) (i : Nat) : bks' (ds.take i) + bks' (ds.drop i) = bks' ds := by rw [← bks_app, List.take_append_drop]
theorem reprQ_gd {d : D} {n b : Nat} (h : Gd d n b) (hn : n ≤ 60) (hb : b ≤ 15000) : reprQ [d] = some (.str d.qy.shown) := by
  have h3 : d.qy.depth ≤ 60 := Nat.le_trans h.g.dp hn
  have h4 : d.qy.shown.length ≤ sizeLine := by
    have h1 := PyData.shown_le_bulk 50 (by decide) d.qy h.g.lf
    have h2 : (50 + 2) * d.qy.bulk ≤ 52 * 15000 := Nat.mul_le_mul (by decide) (Nat.le_trans h.k hb)
    exact Nat.le_trans h1 (Nat.le_trans (show (50 + 2) * d.qy.bulk + 50 ≤ 900000 by omega) (by decide))
  show (if d.ql && d.qy.showable && decide (d.qy.depth ≤ 60) && decide (d.qy.shown.length ≤ sizeLine) then some (D.str d.qy.shown) else none) = _
  rw [h.g.ql, h.g.sh, decide_eq_true h3, decide_eq_true h4]
  rfl
theorem Gd.opt {o : Option Nat} (h : ∀ s, o = some s → s ≤ 1000000) : Gd (optD o) 0 0 := by
  cases o with
  | none => exact Gd.non
  | some s => exact Gd.nat (h s rfl)
theorem gd_rows {kd : Kd} (ok : kd.Ok) : Gds (kd.rows.map rowD) 1 50 := by
  have m8 := ok.m8
  have k4 := ok.k4
  have := Gds.all (ds := kd.rows.map rowD) (n := 1) (b := 4) fun d hd => by
    obtain ⟨r, h1, rfl⟩ := List.mem_map.mp hd
    have e := ok.rl r h1
    refine (Gd.tup (Gds.all (n := 0) (b := 0) fun x hx => ?_)).mono (Nat.le_refl _) (by rw [List.length_map]; omega)
    obtain ⟨o, h2, rfl⟩ := List.mem_map.mp hx
    exact Gd.opt fun s hs => by
      have := ok.rs r h1 s (by rw [← hs]; exact h2)
      omega
  rw [List.length_map] at this
  exact this.mono (Nat.le_refl _) (by omega)
theorem gd_ends {kd : Kd} (ok : kd.Ok) : Gds (kd.ends.map D.bl) 0 10 := by
  have m8 := ok.m8
  have := Gds.all (ds := kd.ends.map D.bl) (n := 0) (b := 0) fun d hd => by
    obtain ⟨c, _, rfl⟩ := List.mem_map.mp hd
    exact Gd.bl c
  rw [List.length_map, ok.me] at this
  exact this.mono (Nat.le_refl _) (by omega)
/-! ### == with an empty list or tuple -/
theorem eqN_lst (ds : List D) : eqN (.lst ds) (.lst []) = some (.bl ds.isEmpty) := by
  unfold eqN eqM eqB
  have e : sEq (.lst ds) (.lst []) = none := rfl
  rw [e]
  by_cases h : (okD (.lst ds) && okD (.lst [])) = true
  · simp only [h, if_true]
    cases ds <;> rfl
  · simp only [h]
    cases ds <;> rfl
theorem neN_lst (ds : List D) : neN (.lst ds) (.lst []) = some (.bl (!ds.isEmpty)) := by
  unfold neN neM eqB
  have e : sEq (.lst ds) (.lst []) = none := rfl
  rw [e]
  by_cases h : (okD (.lst ds) && okD (.lst [])) = true
  · simp only [h, if_true]
    cases ds <;> rfl
  · simp only [h]
    cases ds <;> rfl
theorem eqN_tup (ds : List D) : eqN (.tup ds) (.tup []) = some (.bl ds.isEmpty) := by
  unfold eqN eqM eqB
  have e : sEq (.tup ds) (.tup []) = none := rfl
  rw [e]
  by_cases h : (okD (.tup ds) && okD (.tup [])) = true
  · simp only [h, if_true]
    cases ds <;> rfl
  · simp only [h]
    cases ds <;> rfl
theorem G0.dr {d : D} {n : Nat} (h : G0 d n) (st : S) : dr st d = d := dr_of fun m e => by
  have := h.ql
  rw [e] at this
  cases this
end Lw

set_option Elab.async false
set_option linter.all false
set_option maxRecDepth 100000
set_option maxHeartbeats 4000000
namespace Lw
open PySem PySem.Spec PyProof.Rows L2 MD
/-! ### the text -/
def topS (i : Nat) : Stmt := PySem.Challenge.pw_unitlimits_k21_kinds_with_errors.main.body.getD i (.Pass ⟨0, 0, 0, 0⟩)
abbrev s__law_deck : Stmt := topS 9
theorem sc__law_deck : FnScope ["_law_script", "_law_cell"] ["_law_script"] (defScope s__law_deck) := ⟨rfl, rfl, rfl, by decide +kernel, rfl, by decide +kernel, by decide +kernel⟩
abbrev s__law_draw : Stmt := topS 10
theorem sc__law_draw : FnScope ["_law_deck_here", "_law_many", "_law_cell", "_law_at", "_law_mixed"] ["_law_deck_here", "_law_many"] (defScope s__law_draw) := ⟨rfl, rfl, rfl, by decide +kernel, rfl, by decide +kernel, by decide +kernel⟩
abbrev s__law_one : Stmt := topS 11
theorem sc__law_one : FnScope ["_law_deck_here", "_law_items"] ["_law_deck_here", "_law_items"] (defScope s__law_one) := ⟨rfl, rfl, rfl, by decide +kernel, rfl, by decide +kernel, by decide +kernel⟩
abbrev s__law_kind : Stmt := topS 12
theorem sc__law_kind : FnScope ["_law_deck_here", "_law_letters", "_law_many", "_law_none", "_law_rows", "_law_k", "_law_row", "_law_j"] ["_law_deck_here", "_law_letters", "_law_many"] (defScope s__law_kind) := ⟨rfl, rfl, rfl, by decide +kernel, rfl, by decide +kernel, by decide +kernel⟩
abbrev s__law_odd : Stmt := topS 16
theorem sc__law_odd : FnScope ["_law_deck_here", "_law_many", "_law_some"] ["_law_deck_here", "_law_many"] (defScope s__law_odd) := ⟨rfl, rfl, rfl, by decide +kernel, rfl, by decide +kernel, by decide +kernel⟩
abbrev s__law_bent : Stmt := topS 17
theorem sc__law_bent : FnScope ["_law_deck_here", "_law_value", "_law_many", "_law_deep", "_law_at", "_law_way"] ["_law_deck_here", "_law_value", "_law_many", "_law_deep"] (defScope s__law_bent) := ⟨rfl, rfl, rfl, by decide +kernel, rfl, by decide +kernel, by decide +kernel⟩
abbrev s_is_integer : Stmt := topS 3
theorem sc_is_integer : FnScope ["value", "least", "most"] ["value", "least", "most"] (defScope s_is_integer) := ⟨rfl, rfl, rfl, by decide +kernel, rfl, by decide +kernel, by decide +kernel⟩
abbrev s_is_row : Stmt := topS 4
theorem sc_is_row : FnScope ["value", "letters", "many", "item"] ["value", "letters", "many"] (defScope s_is_row) := ⟨rfl, rfl, rfl, by decide +kernel, rfl, by decide +kernel, by decide +kernel⟩
abbrev s_are_rows : Stmt := topS 5
theorem sc_are_rows : FnScope ["value", "letters", "row"] ["value", "letters"] (defScope s_are_rows) := ⟨rfl, rfl, rfl, by decide +kernel, rfl, by decide +kernel, by decide +kernel⟩
abbrev s_are_ends : Stmt := topS 6
theorem sc_are_ends : FnScope ["value", "many", "end"] ["value", "many"] (defScope s_are_ends) := ⟨rfl, rfl, rfl, by decide +kernel, rfl, by decide +kernel, by decide +kernel⟩
abbrev s_kind_error : Stmt := topS 7
theorem sc_kind_error : FnScope ["value"] ["value"] (defScope s_kind_error) := ⟨rfl, rfl, rfl, by decide +kernel, rfl, by decide +kernel, by decide +kernel⟩
abbrev s__law_whole : Stmt := topS 13
theorem sc__law_whole : FnScope ["_law_value", "_law_least", "_law_most"] ["_law_value", "_law_least", "_law_most"] (defScope s__law_whole) := ⟨rfl, rfl, rfl, by decide +kernel, rfl, by decide +kernel, by decide +kernel⟩
abbrev s__law_are_rows : Stmt := topS 14
theorem sc__law_are_rows : FnScope ["_law_value", "_law_letters", "_law_row", "_law_item"] ["_law_value", "_law_letters"] (defScope s__law_are_rows) := ⟨rfl, rfl, rfl, by decide +kernel, rfl, by decide +kernel, by decide +kernel⟩
abbrev s__law_error : Stmt := topS 15
theorem sc__law_error : FnScope ["_law_value", "_law_end"] ["_law_value"] (defScope s__law_error) := ⟨rfl, rfl, rfl, by decide +kernel, rfl, by decide +kernel, by decide +kernel⟩
abbrev s__law_right : Stmt := topS 18
theorem sc__law_right : FnScope ["_law_value", "_law_told"] ["_law_value"] (defScope s__law_right) := ⟨rfl, rfl, rfl, by decide +kernel, rfl, by decide +kernel, by decide +kernel⟩
abbrev s_law : Stmt := topS 19
theorem sc_law : FnScope ["_law_script", "_law_deck_here", "_law_turn", "_law_letters", "_law_many", "_law_kind_here", "_law_bent_here", "_law_values", "_law_value", "_law_nine", "_law_end", "_law_letter"] ["_law_script"] (defScope s_law) := ⟨rfl, rfl, rfl, by decide +kernel, rfl, by decide +kernel, by decide +kernel⟩
structure Txt (K : Fg) (mg : Str → Option Value) : Prop where
  n_len : mg "len" = none
  n_range : mg "range" = none
  n_tuple : mg "tuple" = none
  n_isinstance : mg "isinstance" = none
  n_list : mg "list" = none
  n_int : mg "int" = none
  n_bool : mg "bool" = none
  c_MAX_STATES : ∃ t, mg "MAX_STATES" = some (.int 8 t)
  c_MAX_LETTERS : ∃ t, mg "MAX_LETTERS" = some (.int 4 t)
  n_repr : mg "repr" = none
  n_abs : mg "abs" = none
/-! ### mirrors -/
def dc : DC := ⟨2147483563, 8117, 3, 2147483629⟩
def m__law_draw : MF := drawM dc
noncomputable def b__law_one : MS :=
 (retM (opM subD (rd 1) (callM m__law_draw (aCons (rd 0) (aCons (cbM lenA (aCons (rd 1) aNil)) aNil)))))
noncomputable def m__law_one : MF := runM 2 b__law_one
noncomputable def b__law_kind : MS :=
 (seqM (asgM (nameT 3) (callM m__law_one (aCons (rd 0) (aCons (frz (lstM (aCons (cst (.int 2)) (aCons (cst (.int 4)) (aCons (cst (.int 9)) aNil))))) aNil))))
 (seqM (ownM 4 (lstM aNil))
 (seqM (forM (r1M (aCons (rd 2) aNil)) (nameT 5)
 (seqM (asgM (nameT 6) (frz (compM (r1M (aCons (rd 1) aNil)) (nameT 7) yesM (ifM (tstM (opM gtM (callM m__law_draw (aCons (rd 0) (aCons (rd 3) aNil))) (cst (.int 0)))) (callM m__law_draw (aCons (rd 0) (aCons (rd 2) aNil))) (cst .non)) [7])))
 (appM 4 (cbM tupleM (aCons (rd 6) aNil)))))
 (retM (tupM (aCons (rd 1) (aCons (cbM tupleM (aCons (rdW 4) aNil)) (aCons (cbM tupleM (aCons (frz (compM (r1M (aCons (rd 2) aNil)) (nameT 5) yesM (opM gtM (callM m__law_draw (aCons (rd 0) (aCons (cst (.int 3)) aNil))) (cst (.int 0))) [5])) aNil)) aNil))))))))
noncomputable def m__law_kind : MF := runM 8 b__law_kind
noncomputable def b__law_odd : MS :=
 (seqM (asgM (nameT 2) (frz (lstM (aCons (cst .non) (aCons (cst (.bl true)) (aCons (cst (.bl false)) (aCons (cst (.int 0)) (aCons (cst (.int 1)) (aCons (cst (.int 4)) (aCons (cst (.int 5)) (aCons (unM (unI fun i => .int (-i)) (cst (.int 1))) (aCons (rd 1) (aCons (opM subM (rd 1) (cst (.int 1))) (aCons (opM powM (cst (.int 10)) (cst (.int 40))) (aCons (cst (.str "")) (aCons (cst (.str "a")) (aCons (cst (.str "0")) (aCons (tupM aNil) (aCons (frz (lstM aNil)) (aCons (frzK newK) (aCons (tupM (aCons (cst (.int 0)) aNil)) (aCons (frz (lstM (aCons (cst (.int 0)) aNil))) (aCons (tupM (aCons (cst .non) aNil)) aNil)))))))))))))))))))))))
 (retM (callM m__law_one (aCons (rd 0) (aCons (opM addM (rd 2) (frz (lstM (aCons (tupM (aCons (cst (.bl true)) aNil)) (aCons (tupM (aCons (tupM aNil) aNil)) (aCons (tupM (aCons (cst (.int 0)) (aCons (cst (.int 0)) aNil))) (aCons (tupM (aCons (cst (.int 0)) (aCons (cst .non) aNil))) (aCons (cst (.str "ends")) (aCons (tupM (aCons (cst (.bl false)) (aCons (cst (.bl true)) aNil))) (aCons (cst (.int 2)) (aCons (cst (.int 3)) (aCons (cst (.int 8)) (aCons (cst (.int 9)) aNil))))))))))))) aNil)))))
noncomputable def m__law_odd : MF := runM 3 b__law_odd
noncomputable def b__law_bent (rec : MF) : MS :=
 (seqM (ifS (orM (tstM (opM eqM (rd 3) (cst (.int 0)))) (orM (notM (truM (isiM "tuple" (rd 1)))) (tstM (opM eqN (rd 1) (tupM aNil)))))
 (retM (callM m__law_odd (aCons (rd 0) (aCons (rd 2) aNil))))
 nxM)
 (seqM (parM 4 5 (aCons (callM m__law_draw (aCons (rd 0) (aCons (cbM lenA (aCons (rd 1) aNil)) aNil))) (aCons (callM m__law_draw (aCons (rd 0) (aCons (cst (.int 10)) aNil))) aNil)))
 (seqM (ifS (tstM (opM eqM (rd 5) (cst (.int 0))))
 (retM (opM addM (slM slAny (rd 1) noP (prt (rd 4))) (slM slAny (rd 1) (prt (opM addM (rd 4) (cst (.int 1)))) noP)))
 nxM)
 (seqM (ifS (tstM (opM eqM (rd 5) (cst (.int 1))))
 (retM (opM addM (opM addM (slM slAny (rd 1) noP (prt (rd 4))) (slM slAny (rd 1) (prt (rd 4)) (prt (opM addM (rd 4) (cst (.int 1)))))) (slM slAny (rd 1) (prt (rd 4)) noP)))
 nxM)
 (seqM (ifS (tstM (opM eqM (rd 5) (cst (.int 2))))
 (retM (frz (listM (aCons (rd 1) aNil))))
 nxM)
 (seqM (ifS (tstM (opM eqM (rd 5) (cst (.int 3))))
 (retM (opM addM (opM addM (slM slAny (rd 1) noP (prt (rd 4))) (tupM (aCons (callM m__law_odd (aCons (rd 0) (aCons (rd 2) aNil))) aNil))) (slM slAny (rd 1) (prt (opM addM (rd 4) (cst (.int 1)))) noP)))
 nxM)
 (retM (opM addM (opM addM (slM slAny (rd 1) noP (prt (rd 4))) (tupM (aCons (callM rec (aCons (rd 0) (aCons (opM subD (rd 1) (rd 4)) (aCons (rd 2) (aCons (opM subM (rd 3) (cst (.int 1))) aNil))))) aNil))) (slM slAny (rd 1) (prt (opM addM (rd 4) (cst (.int 1)))) noP)))))))))
noncomputable def mr__law_bent : Nat → MF
  | 0 => fun _ _ => none
  | k + 1 => runM 6 (b__law_bent (mr__law_bent k))
noncomputable def m__law_bent : MF := mr__law_bent 4
noncomputable def b_is_integer : MS :=
 (retM (andV (isiM "int" (rd 0)) (andV (notV (isiM "bool" (rd 0))) (chM leM leM (rd 1) (rd 0) (rd 2)))))
noncomputable def m_is_integer : MF := runM 3 b_is_integer
noncomputable def b_is_row : MS :=
 (seqM (ifS (orM (notM (truM (isiM "tuple" (rd 0)))) (tstM (opM neM (cbM lenA (aCons (rd 0) aNil)) (rd 1))))
 (retM (cst (.bl false)))
 nxM)
 (retM (opM eqN (frz (compM (seqI (rd 0)) (nameT 3) (andM (tstM (opM isNotM (rd 3) (cst .non))) (notM (truM (callM m_is_integer (aCons (rd 3) (aCons (cst (.int 0)) (aCons (opM subM (rd 2) (cst (.int 1))) aNil))))))) (rd 3) [3])) (frz (lstM aNil)))))
noncomputable def m_is_row : MF := runM 4 b_is_row
noncomputable def b_are_rows : MS :=
 (seqM (ifS (orM (notM (truM (isiM "tuple" (rd 0)))) (notM (tstM (chM leM leM (cst (.int 1)) (cbM lenA (aCons (rd 0) aNil)) (cst (.int 8))))))
 (retM (cst (.bl false)))
 nxM)
 (retM (opM eqN (frz (compM (seqI (rd 0)) (nameT 2) (notM (truM (callM m_is_row (aCons (rd 2) (aCons (rd 1) (aCons (cbM lenA (aCons (rd 0) aNil)) aNil)))))) (rd 2) [2])) (frz (lstM aNil)))))
noncomputable def m_are_rows : MF := runM 3 b_are_rows
noncomputable def b_are_ends : MS :=
 (seqM (ifS (orM (notM (truM (isiM "tuple" (rd 0)))) (tstM (opM neM (cbM lenA (aCons (rd 0) aNil)) (rd 1))))
 (retM (cst (.bl false)))
 nxM)
 (retM (opM eqN (frz (compM (seqI (rd 0)) (nameT 2) (notM (truM (isiM "bool" (rd 2)))) (rd 2) [2])) (frz (lstM aNil)))))
noncomputable def m_are_ends : MF := runM 3 b_are_ends
noncomputable def b_kind_error : MS :=
 (seqM (ifS (orM (notM (truM (isiM "tuple" (rd 0)))) (tstM (opM neM (cbM lenA (aCons (rd 0) aNil)) (cst (.int 3)))))
 (retM (cst (.str "kind")))
 nxM)
 (seqM (ifS (notM (truM (callM m_is_integer (aCons (opM subD (rd 0) (cst (.int 0))) (aCons (cst (.int 1)) (aCons (cst (.int 4)) aNil))))))
 (retM (cst (.str "letters")))
 nxM)
 (seqM (ifS (notM (truM (callM m_are_rows (aCons (opM subD (rd 0) (cst (.int 1))) (aCons (opM subD (rd 0) (cst (.int 0))) aNil)))))
 (retM (cst (.str "rows")))
 nxM)
 (retM (ifM (truM (callM m_are_ends (aCons (opM subD (rd 0) (cst (.int 2))) (aCons (cbM lenA (aCons (opM subD (rd 0) (cst (.int 1))) aNil)) aNil)))) (cst .non) (cst (.str "ends")))))))
noncomputable def m_kind_error : MF := runM 1 b_kind_error
noncomputable def b__law_whole : MS :=
 (retM (andV (isiM "int" (rd 0)) (andV (notV (isiM "bool" (rd 0))) (chM leM leM (rd 1) (rd 0) (rd 2)))))
noncomputable def m__law_whole : MF := runM 3 b__law_whole
noncomputable def b__law_are_rows : MS :=
 (seqM (ifS (orM (notM (truM (isiM "tuple" (rd 0)))) (notM (tstM (chM leM leM (cst (.int 1)) (cbM lenA (aCons (rd 0) aNil)) (cst (.int 8))))))
 (retM (cst (.bl false)))
 nxM)
 (seqM (forM (seqI (rd 0)) (nameT 2)
 (seqM (ifS (orM (notM (truM (isiM "tuple" (rd 2)))) (tstM (opM neM (cbM lenA (aCons (rd 2) aNil)) (rd 1))))
 (retM (cst (.bl false)))
 nxM)
 (ifS (tstM (opM neN (frz (compM (seqI (rd 2)) (nameT 3) (andM (tstM (opM isNotM (rd 3) (cst .non))) (notM (truM (callM m__law_whole (aCons (rd 3) (aCons (cst (.int 0)) (aCons (opM subM (cbM lenA (aCons (rd 0) aNil)) (cst (.int 1))) aNil))))))) (rd 3) [3])) (frz (lstM aNil))))
 (retM (cst (.bl false)))
 nxM)))
 (retM (cst (.bl true)))))
noncomputable def m__law_are_rows : MF := runM 4 b__law_are_rows
noncomputable def b__law_error : MS :=
 (seqM (ifS (orM (notM (truM (isiM "tuple" (rd 0)))) (tstM (opM neM (cbM lenA (aCons (rd 0) aNil)) (cst (.int 3)))))
 (retM (cst (.str "kind")))
 nxM)
 (seqM (ifS (notM (truM (callM m__law_whole (aCons (opM subD (rd 0) (cst (.int 0))) (aCons (cst (.int 1)) (aCons (cst (.int 4)) aNil))))))
 (retM (cst (.str "letters")))
 nxM)
 (seqM (ifS (notM (truM (callM m__law_are_rows (aCons (opM subD (rd 0) (cst (.int 1))) (aCons (opM subD (rd 0) (cst (.int 0))) aNil)))))
 (retM (cst (.str "rows")))
 nxM)
 (seqM (ifS (orM (notM (truM (isiM "tuple" (opM subD (rd 0) (cst (.int 2)))))) (tstM (opM neM (cbM lenA (aCons (opM subD (rd 0) (cst (.int 2))) aNil)) (cbM lenA (aCons (opM subD (rd 0) (cst (.int 1))) aNil)))))
 (retM (cst (.str "ends")))
 nxM)
 (retM (ifM (tstM (opM neN (frz (compM (seqI (opM subD (rd 0) (cst (.int 2)))) (nameT 1) (notM (truM (isiM "bool" (rd 1)))) (rd 1) [1])) (frz (lstM aNil)))) (cst (.str "ends")) (cst .non)))))))
noncomputable def m__law_error : MF := runM 2 b__law_error
noncomputable def b__law_right : MS :=
 (seqM (asgM (nameT 1) (cbM reprQ (aCons (rd 0) aNil)))
 (retM (andV (opM eqM (cbM reprQ (aCons (callM m_kind_error (aCons (rd 0) aNil)) aNil)) (cbM reprQ (aCons (callM m__law_error (aCons (rd 0) aNil)) aNil))) (opM eqM (cbM reprQ (aCons (rd 0) aNil)) (rd 1)))))
noncomputable def m__law_right : MF := runM 2 b__law_right
noncomputable def b_law : MS :=
 (seqM (forM (r1M (aCons (cst (.int 12)) aNil)) (nameT 2)
 (seqM (parM 3 4 (aCons (opM addM (cst (.int 1)) (callM m__law_draw (aCons (rd 1) (aCons (cst (.int 4)) aNil)))) (aCons (opM addM (cst (.int 1)) (callM m__law_draw (aCons (rd 1) (aCons (cst (.int 9)) aNil)))) aNil)))
 (seqM (asgM (nameT 5) (callM m__law_kind (aCons (rd 1) (aCons (rd 3) (aCons (rd 4) aNil)))))
 (seqM (asgM (nameT 6) (callM m__law_bent (aCons (rd 1) (aCons (rd 5) (aCons (rd 4) (aCons (cst (.int 3)) aNil))))))
 (seqM (asgM (nameT 7) (frz (lstM (aCons (rd 5) (aCons (rd 6) (aCons (callM m__law_bent (aCons (rd 1) (aCons (rd 6) (aCons (rd 4) (aCons (cst (.int 3)) aNil))))) (aCons (callM m__law_odd (aCons (rd 1) (aCons (rd 4) aNil))) (aCons (frz (listM (aCons (rd 5) aNil))) (aCons (opM addM (rd 5) (tupM (aCons (cst (.int 1)) aNil))) aNil)))))))))
 (seqM (asgM (nameT 7) (opM addM (rd 7) (frz (lstM (aCons (opM addM (opM addM (tupM (aCons (rd 3) aNil)) (slM slAny (rd 5) (prt (cst (.int 1))) (prt (cst (.int 2))))) (tupM (aCons (cbM tupleM (aCons (frz (compM (seqI (opM subD (rd 5) (cst (.int 2)))) (nameT 10) yesM (cbM int1M (aCons (rd 10) aNil)) [10])) aNil)) aNil))) (aCons (slM slAny (rd 5) noP (prt (cst (.int 2)))) aNil))))))
 (seqM (asgM (nameT 7) (opM addM (rd 7) (frz (compM (seqI (frz (lstM (aCons (cst (.int 0)) (aCons (cst (.int 5)) (aCons (cst (.bl true)) (aCons (cst .non) (aCons (cst (.str "2")) (aCons (cst (.int 4)) (aCons (unM (unI fun i => .int (-i)) (cst (.int 1))) aNil)))))))))) (nameT 11) yesM (opM addM (tupM (aCons (rd 11) aNil)) (slM slAny (rd 5) (prt (cst (.int 1))) noP)) [11]))))
 (seqM (asgM (nameT 7) (opM addM (rd 7) (frz (lstM (aCons (opM addM (tupM (aCons (opM addM (cst (.int 1)) (opM modM (rd 3) (cst (.int 4)))) aNil)) (slM slAny (rd 5) (prt (cst (.int 1))) noP)) (aCons (opM addM (opM addM (slM slAny (rd 5) noP (prt (cst (.int 1)))) (tupM (aCons (tupM aNil) aNil))) (slM slAny (rd 5) (prt (cst (.int 2))) noP)) (aCons (tupM (aCons (rd 3) (aCons (tupM aNil) (aCons (tupM aNil) aNil)))) aNil)))))))
 (forM (seqI (rd 7)) (nameT 8)
 (ifS (notM (truM (callM m__law_right (aCons (rd 8) aNil))))
 (retM (cst (.bl false)))
 nxM))))))))))
 (seqM (asgM (nameT 9) (frz (compM (seqI (frz (lstM (aCons (cst (.int 8)) (aCons (cst (.int 9)) aNil))))) (nameT 4) yesM (tupM (aCons (cst (.int 1)) (aCons (opM mulA (tupM (aCons (tupM (aCons (cst (.int 0)) aNil)) aNil)) (rd 4)) (aCons (opM mulA (tupM (aCons (cst (.bl true)) aNil)) (rd 4)) aNil)))) [4])))
 (retM (opM eqM (cbM reprQ (aCons (frz (compM (seqI (rd 9)) (nameT 8) yesM (callM m_kind_error (aCons (rd 8) aNil)) [8])) aNil)) (cbM reprQ (aCons (frz (lstM (aCons (cst .non) (aCons (cst (.str "rows")) aNil)))) aNil))))))
/-! ### the defs keep them -/
section
variable {P : Program} {w : World} {K : Fg} {mg : Str → Option Value} {base : Heap}
theorem ok__law_deck (T : Txt K mg) {f : Addr} {fd : FuncData} (Fn : Fun K "_law_deck" "_law_deck" s__law_deck f fd)  : FnG P w K mg base 1 f fd ["_law_script"] (spDeck K) :=
  fn_deck Fn sc__law_deck rfl rfl fun cdv A outer s H E => by
  refine (pss_one (ps_ret (pe_lst (pa_cons (pe_lc (own := [("_law_cell", 1)]) (g := gName 1) rfl sc__law_deck.nd (pi_list (pe_slice sl_list (pv 0) po_none (po_some pe_int))) (blkOk_by (own := [("_law_cell", 1)]) (N := ["_law_script", "_law_cell"]) (sc := defScope s__law_deck) (by decide +kernel)) (fun _ _ _ _ _ => pg_name (i := 1) sc__law_deck.nd rfl (Or.inl rfl)) (fun _ _ _ _ _ => pts_nil) (fun _ _ _ _ _ => pe_callB call_abs (by rfl) T.n_abs (by decide +kernel) (pa_cons (pv 1) pa_nil))) (pa_cons pe_int pa_nil)))))
theorem ok__law_draw (T : Txt K mg) {f : Addr} {fd : FuncData} (Fn : Fun K "_law_draw" "_law_draw" s__law_draw f fd)  : FnG P w K mg base 1 f fd ["_law_deck_here", "_law_many"] (spD K 2 m__law_draw) :=
  fn_draw (c := dc) (by unfold DC.ok dc; decide) Fn sc__law_draw rfl rfl fun cdv A outer s H E => by
  refine (pss_cons (ps_asg (pe_op op_add (pe_ix ix_seq (pv 0) pe_int (fun _ _ => rfl)) pe_int) (pg_sub (pv 0) pe_int set_list))
 (pss_cons (ps_asg (pe_tup (pa_cons pe_int (pa_cons (pe_un un_neg pe_int) pa_nil))) (pg_tup rfl (pgs_cons (pg_name (i := 2) sc__law_draw.nd rfl (Or.inl rfl)) (pgs_cons (pg_name (i := 3) sc__law_draw.nd rfl (Or.inl rfl)) pgs_nil))))
 (pss_cons (ps_if (pt_cmpR op_gt (pe_callB call_len (by rfl) T.n_len (by decide +kernel) (pa_cons (pe_ix ix_seq (pv 0) pe_int (fun _ _ => rfl)) pa_nil)) pe_int (nomark _))
   (pss_cons (ps_set (i := 3) sc__law_draw.nd rfl (Or.inl rfl) (pe_op op_mod (pe_callTy call_int1 (by rfl) T.n_int (by decide +kernel) (pa_cons (pe_ix ix_seq (pv 0) pe_int (fun _ _ => rfl)) pa_nil)) (pe_callB call_len (by rfl) T.n_len (by decide +kernel) (pa_cons (pe_ix ix_seq (pv 0) pe_int (fun _ _ => rfl)) pa_nil)))) (pss_one (ps_set (i := 2) sc__law_draw.nd rfl (Or.inl rfl) (pe_ix ix_seq (pe_ix ix_seq (pv 0) pe_int (fun _ _ => rfl)) (pv 3) (fun _ _ => rfl))))) pss_nil)
 (pss_cons (ps_if (pt_cmpR op_ge (pv 2) (pe_op op_pow pe_int pe_int) (nomark _))
   (pss_cons (ps_asg (pe_op op_fdiv (pe_callTy call_int1 (by rfl) T.n_int (by decide +kernel) (pa_cons (pv 2) pa_nil)) (pv 1)) (pg_sub (pe_ix ix_seq (pv 0) pe_int (fun _ _ => rfl)) (pv 3) set_list)) (pss_one (ps_ret (pe_op op_mod (pe_callTy call_int1 (by rfl) T.n_int (by decide +kernel) (pa_cons (pv 2) pa_nil)) (pv 1))))) pss_nil)
 (pss_cons (ps_set (i := 4) sc__law_draw.nd rfl (Or.inl rfl) (pe_op op_add (pe_op op_add (pe_op op_mod (pe_callTy call_int1 (by rfl) T.n_int (by decide +kernel) (pa_cons (pv 2) pa_nil)) pe_int) (pe_op op_mul pe_int (pe_ix ix_seq (pv 0) pe_int (fun _ _ => rfl)))) pe_int))
 (pss_one (ps_ret (pe_op op_mod (pe_callTy call_int1 (by rfl) T.n_int (by decide +kernel) (pa_cons (pe_op op_mod (pe_callTy call_int1 (by rfl) T.n_int (by decide +kernel) (pa_cons (pe_op op_pow (pv 4) pe_int) pa_nil)) pe_int) pa_nil)) (pv 1)))))))))
theorem ok__law_one (T : Txt K mg) {f : Addr} {fd : FuncData} (Fn : Fun K "_law_one" "_law_one" s__law_one f fd) (c__law_draw : Cal P w K mg base 1 "_law_draw" ["_law_deck_here", "_law_many"] (spD K 2 m__law_draw)) : FnG P w K mg base 2 f fd ["_law_deck_here", "_law_items"] (spD K 2 m__law_one) :=
  fnD Fn sc__law_one (by decide) fun cdv A outer s H E hr gd => ⟨_, (pss_one (ps_ret (pe_sub (units1 hr.units) (pv 1) (pe_callC c__law_draw hr gd (by rfl) (pa_cons (pv 0) (pa_cons (pe_callB call_lenA (by rfl) T.n_len (by decide +kernel) (pa_cons (pv 1) pa_nil)) pa_nil)))))),
 (is_ret (im_sub ((im_var 1)).w ((im_call (ia_cons (im_var 0) (ia_cons (im_cb rc_lenA (iaw_cons ((im_var 1)).w iaw_nil)) ia_nil)) (an_cons (an_cons an_nil)))).w))⟩
theorem ok__law_kind (T : Txt K mg) {f : Addr} {fd : FuncData} (Fn : Fun K "_law_kind" "_law_kind" s__law_kind f fd) (c__law_one : Cal P w K mg base 2 "_law_one" ["_law_deck_here", "_law_items"] (spD K 2 m__law_one)) (c__law_draw : Cal P w K mg base 1 "_law_draw" ["_law_deck_here", "_law_many"] (spD K 2 m__law_draw)) : FnG P w K mg base 3 f fd ["_law_deck_here", "_law_letters", "_law_many"] (spD K 3 m__law_kind) :=
  fnD Fn sc__law_kind (by decide) fun cdv A outer s H E hr gd => ⟨_, (pss_cons (ps_set (i := 3) sc__law_kind.nd rfl (Or.inr rfl) (pe_callC c__law_one hr gd (by rfl) (pa_cons (pv 0) (pa_cons (pe_lst (pa_cons pe_int (pa_cons pe_int (pa_cons pe_int pa_nil)))) pa_nil))))
 (pss_cons (ps_set (i := 4) sc__law_kind.nd rfl (Or.inl rfl) (pe_lst pa_nil))
 (pss_cons (ps_for PassesOwn.never rfl (pi_range1 (by rfl) T.n_range (pa_cons (pv 2) pa_nil)) (pg_name (i := 5) sc__law_kind.nd rfl (Or.inl rfl))
 (pss_cons (ps_setLc (i := 6) (own := [("_law_j", 7)]) (g := (gName 7)) rfl sc__law_kind.nd rfl rfl (sw_true rfl rfl rfl (by decide +kernel)) (pi_range1 (by rfl) T.n_range (pa_cons (pv 1) pa_nil)) (blkOk_by (own := [("_law_j", 7)]) (N := ["_law_deck_here", "_law_letters", "_law_many", "_law_none", "_law_rows", "_law_k", "_law_row", "_law_j"]) (sc := defScope s__law_kind) (by decide +kernel)) (fun _ _ _ _ _ => (pg_name (i := 7) sc__law_kind.nd rfl (Or.inl rfl))) (fun _ _ _ _ _ => pts_nil) (fun _ _ _ _ _ => (pe_ifExp (pt_cmpR op_gt (pe_callC c__law_draw hr gd (by rfl) (pa_cons (pv 0) (pa_cons (pv 3) pa_nil))) pe_int (nomark _)) (pe_callC c__law_draw hr gd (by rfl) (pa_cons (pv 0) (pa_cons (pv 2) pa_nil))) pe_non)))
 (pss_one (ps_expr (pe_bm PySem.F.plainAttrs_list PySem.F.slot_list_append PySem.F.type_list_append mt_append (pv 4) (pa_cons (pe_callTy (call_tupA rfl) (by rfl) T.n_tuple (by decide +kernel) (pa_cons (pv 6) pa_nil)) pa_nil))))))
 (pss_one (ps_ret (pe_tup (pa_cons (pv 1) (pa_cons (pe_callTy (call_tupA rfl) (by rfl) T.n_tuple (by decide +kernel) (pa_cons (pv 4) pa_nil)) (pa_cons (pe_callTy (call_tupA rfl) (by rfl) T.n_tuple (by decide +kernel) (pa_cons (pe_lc (own := [("_law_k", 5)]) (g := (gName 5)) rfl sc__law_kind.nd (pi_range1 (by rfl) T.n_range (pa_cons (pv 2) pa_nil)) (blkOk_by (own := [("_law_k", 5)]) (N := ["_law_deck_here", "_law_letters", "_law_many", "_law_none", "_law_rows", "_law_k", "_law_row", "_law_j"]) (sc := defScope s__law_kind) (by decide +kernel)) (fun _ _ _ _ _ => (pg_name (i := 5) sc__law_kind.nd rfl (Or.inl rfl))) (fun _ _ _ _ _ => pts_nil) (fun _ _ _ _ _ => (pe_cmpR op_gt (pe_callC c__law_draw hr gd (by rfl) (pa_cons (pv 0) (pa_cons pe_int pa_nil))) pe_int (nomark _)))) pa_nil)) pa_nil))))))))),
 (is_seq (is_asg (im_call (ia_cons (im_var 0) (ia_cons ((if_lst (ia_cons im_int (ia_cons im_int (ia_cons im_int ia_nil))))).im ia_nil)) (an_cons (an_cons an_nil))) (ig_name 3))
 (is_seq (is_own 4 (if_lst ia_nil))
 (is_seq (is_for (ii_range1 (iaw_cons ((im_var 2)).w iaw_nil)) (ig_name 5)
 (is_seq (is_asg ((if_comp (vs := [7]) (ii_range1 (iaw_cons ((im_var 1)).w iaw_nil)) (ig_name 7) it_yes (im_if (it_test (im_op ro_gt ((im_call (ia_cons (im_var 0) (ia_cons (im_var 3) ia_nil)) (an_cons (an_cons an_nil)))).w (im_int).w)) (im_call (ia_cons (im_var 0) (ia_cons (im_var 2) ia_nil)) (an_cons (an_cons an_nil))) im_non) (by decide))).im (ig_name 6))
 (is_app 4 (im_cb rc_tupA (iaw_cons ((im_var 6)).w iaw_nil)))))
 (is_ret (im_tup (ia_cons (im_var 1) (ia_cons (im_cb rc_tupA (iaw_cons (im_own 4) iaw_nil)) (ia_cons (im_cb rc_tupA (iaw_cons ((if_comp (vs := [5]) (ii_range1 (iaw_cons ((im_var 2)).w iaw_nil)) (ig_name 5) it_yes (im_op ro_gt ((im_call (ia_cons (im_var 0) (ia_cons im_int ia_nil)) (an_cons (an_cons an_nil)))).w (im_int).w) (by decide))).w iaw_nil)) ia_nil))))))))⟩
theorem ok__law_odd (T : Txt K mg) {f : Addr} {fd : FuncData} (Fn : Fun K "_law_odd" "_law_odd" s__law_odd f fd) (c__law_one : Cal P w K mg base 2 "_law_one" ["_law_deck_here", "_law_items"] (spD K 2 m__law_one)) : FnG P w K mg base 3 f fd ["_law_deck_here", "_law_many"] (spD K 2 m__law_odd) :=
  fnD Fn sc__law_odd (by decide) fun cdv A outer s H E hr gd => ⟨_, (pss_cons (ps_set (i := 2) sc__law_odd.nd rfl (Or.inl rfl) (pe_lst (pa_cons pe_non (pa_cons pe_bl (pa_cons pe_bl (pa_cons pe_int (pa_cons pe_int (pa_cons pe_int (pa_cons pe_int (pa_cons (pe_un un_neg pe_int) (pa_cons (pv 1) (pa_cons (pe_op op_sub (pv 1) pe_int) (pa_cons (pe_op op_pow pe_int pe_int) (pa_cons pe_str (pa_cons pe_str (pa_cons pe_str (pa_cons (pe_tup pa_nil) (pa_cons (pe_lst pa_nil) (pa_cons pe_dnewK (pa_cons (pe_tup (pa_cons pe_int pa_nil)) (pa_cons (pe_lst (pa_cons pe_int pa_nil)) (pa_cons (pe_tup (pa_cons pe_non pa_nil)) pa_nil))))))))))))))))))))))
 (pss_one (ps_ret (pe_callC c__law_one hr gd (by rfl) (pa_cons (pv 0) (pa_cons (pe_op op_addA (pv 2) (pe_lst (pa_cons (pe_tup (pa_cons pe_bl pa_nil)) (pa_cons (pe_tup (pa_cons (pe_tup pa_nil) pa_nil)) (pa_cons (pe_tup (pa_cons pe_int (pa_cons pe_int pa_nil))) (pa_cons (pe_tup (pa_cons pe_int (pa_cons pe_non pa_nil))) (pa_cons pe_str (pa_cons (pe_tup (pa_cons pe_bl (pa_cons pe_bl pa_nil))) (pa_cons pe_int (pa_cons pe_int (pa_cons pe_int (pa_cons pe_int pa_nil)))))))))))) pa_nil)))))),
 (is_seq (is_asg ((if_lst (ia_cons im_non (ia_cons im_bl (ia_cons im_bl (ia_cons im_int (ia_cons im_int (ia_cons im_int (ia_cons im_int (ia_cons (im_neg (im_int).w) (ia_cons (im_var 1) (ia_cons (im_op ro_sub ((im_var 1)).w (im_int).w) (ia_cons (im_op ro_pow (im_int).w (im_int).w) (ia_cons im_str (ia_cons im_str (ia_cons im_str (ia_cons (im_tup ia_nil) (ia_cons ((if_lst ia_nil)).im (ia_cons (ik_new).im (ia_cons (im_tup (ia_cons im_int ia_nil)) (ia_cons ((if_lst (ia_cons im_int ia_nil))).im (ia_cons (im_tup (ia_cons im_non ia_nil)) ia_nil)))))))))))))))))))))).im (ig_name 2))
 (is_ret (im_call (ia_cons (im_var 0) (ia_cons (im_op ro_addA ((im_var 2)).w ((if_lst (ia_cons (im_tup (ia_cons im_bl ia_nil)) (ia_cons (im_tup (ia_cons (im_tup ia_nil) ia_nil)) (ia_cons (im_tup (ia_cons im_int (ia_cons im_int ia_nil))) (ia_cons (im_tup (ia_cons im_int (ia_cons im_non ia_nil))) (ia_cons im_str (ia_cons (im_tup (ia_cons im_bl (ia_cons im_bl ia_nil))) (ia_cons im_int (ia_cons im_int (ia_cons im_int (ia_cons im_int ia_nil)))))))))))).w) ia_nil)) (an_cons (an_cons an_nil)))))⟩
theorem okr__law_bent (T : Txt K mg) {f : Addr} {fd : FuncData} (Fn : Fun K "_law_bent" "_law_bent" s__law_bent f fd) (c__law_odd : Cal P w K mg base 3 "_law_odd" ["_law_deck_here", "_law_many"] (spD K 2 m__law_odd)) (c__law_draw : Cal P w K mg base 1 "_law_draw" ["_law_deck_here", "_law_many"] (spD K 2 m__law_draw)) (hm : mg "_law_bent" = some (.ref f)) (hk : PySem.W.keepIn K (.ref f) = true) (hb : Binds K fd ["_law_deck_here", "_law_value", "_law_many", "_law_deep"] []) : ∀ k : Nat, FnG P w K mg base (4 + k) f fd ["_law_deck_here", "_law_value", "_law_many", "_law_deep"] (spD K 4 (mr__law_bent k))
  | 0 => fn0 rfl
  | k + 1 => by
    have c__law_bent : Cal P w K mg base (4 + k) "_law_bent" ["_law_deck_here", "_law_value", "_law_many", "_law_deep"] (spD K 4 (mr__law_bent k)) := ⟨_, _, okr__law_bent T Fn c__law_odd c__law_draw hm hk hb k, hm, hk, hb⟩
    exact fnD (k := 4 + k) (b := b__law_bent (mr__law_bent k)) Fn sc__law_bent (by decide) fun cdv A outer s H E hr gd => ⟨_, (pss_cons (ps_if (PW.pt (pw_or (pt_cmpR (op_eqA hr.units) (pv 3) pe_int (nomark _)) (pw_or (pt_not (pt_truth (pe_callB call_isi (by rfl) T.n_isinstance (by decide +kernel) (pa_cons (pv 1) (pa_cons (pe_tyName (by rfl) T.n_tuple (by decide +kernel)) pa_nil))) (by intro _; rfl))) (pw_or1 (pt_cmpR (op_eqN hr.units) (pv 1) (pe_tup pa_nil) (nomark _))))))
 (pss_one (ps_ret (pe_callC c__law_odd hr gd (by rfl) (pa_cons (pv 0) (pa_cons (pv 2) pa_nil)) (hj := by omega))))
 pss_nil)
 (pss_cons (ps_par (i := 4) (j := 5) rfl sc__law_bent.nd rfl rfl (by decide) rfl rfl (pa_cons (pe_callC c__law_draw hr gd (by rfl) (pa_cons (pv 0) (pa_cons (pe_callB call_lenA (by rfl) T.n_len (by decide +kernel) (pa_cons (pv 1) pa_nil)) pa_nil)) (hj := by omega)) (pa_cons (pe_callC c__law_draw hr gd (by rfl) (pa_cons (pv 0) (pa_cons pe_int pa_nil)) (hj := by omega)) pa_nil)) (by rfl))
 (pss_cons (ps_if (pt_cmpR (op_eqA hr.units) (pv 5) pe_int (nomark _))
 (pss_one (ps_ret (pe_op op_addA (pe_slice sl_any (pv 1) po_none (po_some (pv 4))) (pe_slice sl_any (pv 1) (po_some (pe_op op_addA (pv 4) pe_int)) po_none))))
 pss_nil)
 (pss_cons (ps_if (pt_cmpR (op_eqA hr.units) (pv 5) pe_int (nomark _))
 (pss_one (ps_ret (pe_op op_addA (pe_op op_addA (pe_slice sl_any (pv 1) po_none (po_some (pv 4))) (pe_slice sl_any (pv 1) (po_some (pv 4)) (po_some (pe_op op_addA (pv 4) pe_int)))) (pe_slice sl_any (pv 1) (po_some (pv 4)) po_none))))
 pss_nil)
 (pss_cons (ps_if (pt_cmpR (op_eqA hr.units) (pv 5) pe_int (nomark _))
 (pss_one (ps_ret (pe_callTy (call_listA rfl) (by rfl) T.n_list (by decide +kernel) (pa_cons (pv 1) pa_nil))))
 pss_nil)
 (pss_cons (ps_if (pt_cmpR (op_eqA hr.units) (pv 5) pe_int (nomark _))
 (pss_one (ps_ret (pe_op op_addA (pe_op op_addA (pe_slice sl_any (pv 1) po_none (po_some (pv 4))) (pe_tup (pa_cons (pe_callC c__law_odd hr gd (by rfl) (pa_cons (pv 0) (pa_cons (pv 2) pa_nil)) (hj := by omega)) pa_nil))) (pe_slice sl_any (pv 1) (po_some (pe_op op_addA (pv 4) pe_int)) po_none))))
 pss_nil)
 (pss_one (ps_ret (pe_op op_addA (pe_op op_addA (pe_slice sl_any (pv 1) po_none (po_some (pv 4))) (pe_tup (pa_cons (pe_callC c__law_bent hr gd (by rfl) (pa_cons (pv 0) (pa_cons (pe_sub (units1 hr.units) (pv 1) (pv 4)) (pa_cons (pv 2) (pa_cons (pe_op op_sub (pv 3) pe_int) pa_nil)))) (hj := Nat.le_refl _)) pa_nil))) (pe_slice sl_any (pv 1) (po_some (pe_op op_addA (pv 4) pe_int)) po_none)))))))))),
 (is_seq (is_if (it_or (it_test (im_op ro_eq ((im_var 3)).w (im_int).w)) (it_or (it_not (it_truth ((im_isi "tuple" ((im_var 1)).w)).w)) (it_test (im_op ro_eqN ((im_var 1)).w ((im_tup ia_nil)).w))))
 (is_ret (im_call (ia_cons (im_var 0) (ia_cons (im_var 2) ia_nil)) (an_cons (an_cons an_nil))))
 is_next)
 (is_seq (is_par 4 5 (ia_cons (im_call (ia_cons (im_var 0) (ia_cons (im_cb rc_lenA (iaw_cons ((im_var 1)).w iaw_nil)) ia_nil)) (an_cons (an_cons an_nil))) (ia_cons (im_call (ia_cons (im_var 0) (ia_cons im_int ia_nil)) (an_cons (an_cons an_nil))) ia_nil)))
 (is_seq (is_if (it_test (im_op ro_eq ((im_var 5)).w (im_int).w))
 (is_ret (im_op ro_addA ((im_sl rs_any ((im_var 1)).w io_none (io_some ((im_var 4)).w))).w ((im_sl rs_any ((im_var 1)).w (io_some ((im_op ro_addA ((im_var 4)).w (im_int).w)).w) io_none)).w))
 is_next)
 (is_seq (is_if (it_test (im_op ro_eq ((im_var 5)).w (im_int).w))
 (is_ret (im_op ro_addA ((im_op ro_addA ((im_sl rs_any ((im_var 1)).w io_none (io_some ((im_var 4)).w))).w ((im_sl rs_any ((im_var 1)).w (io_some ((im_var 4)).w) (io_some ((im_op ro_addA ((im_var 4)).w (im_int).w)).w))).w)).w ((im_sl rs_any ((im_var 1)).w (io_some ((im_var 4)).w) io_none)).w))
 is_next)
 (is_seq (is_if (it_test (im_op ro_eq ((im_var 5)).w (im_int).w))
 (is_ret ((if_list (iaw_cons ((im_var 1)).w iaw_nil))).im)
 is_next)
 (is_seq (is_if (it_test (im_op ro_eq ((im_var 5)).w (im_int).w))
 (is_ret (im_op ro_addA ((im_op ro_addA ((im_sl rs_any ((im_var 1)).w io_none (io_some ((im_var 4)).w))).w ((im_tup (ia_cons (im_call (ia_cons (im_var 0) (ia_cons (im_var 2) ia_nil)) (an_cons (an_cons an_nil))) ia_nil))).w)).w ((im_sl rs_any ((im_var 1)).w (io_some ((im_op ro_addA ((im_var 4)).w (im_int).w)).w) io_none)).w))
 is_next)
 (is_ret (im_op ro_addA ((im_op ro_addA ((im_sl rs_any ((im_var 1)).w io_none (io_some ((im_var 4)).w))).w ((im_tup (ia_cons (im_call (ia_cons (im_var 0) (ia_cons (im_sub ((im_var 1)).w ((im_var 4)).w) (ia_cons (im_var 2) (ia_cons (im_op ro_sub ((im_var 3)).w (im_int).w) ia_nil)))) (an_cons (an_cons (an_cons (an_cons an_nil))))) ia_nil))).w)).w ((im_sl rs_any ((im_var 1)).w (io_some ((im_op ro_addA ((im_var 4)).w (im_int).w)).w) io_none)).w))))))))⟩
theorem ok_is_integer (T : Txt K mg) {f : Addr} {fd : FuncData} (Fn : Fun K "is_integer" "is_integer" s_is_integer f fd)  : FnG P w K mg base 1 f fd ["value", "least", "most"] (spD K 3 m_is_integer) :=
  fnD Fn sc_is_integer (by decide) fun cdv A outer s H E hr gd => ⟨_, (pss_one (ps_ret (L2.pe_and (pe_callB call_isi (by rfl) T.n_isinstance (by decide +kernel) (pa_cons (pv 0) (pa_cons (pe_tyName (by rfl) T.n_int (by decide +kernel)) pa_nil))) (L2.pe_and (pe_not (pe_callB call_isi (by rfl) T.n_isinstance (by decide +kernel) (pa_cons (pv 0) (pa_cons (pe_tyName (by rfl) T.n_bool (by decide +kernel)) pa_nil)))) (pe_one (pe_chain op_le op_le (pv 1) (pv 0) (pv 2))))))),
 (is_ret (im_andV (im_isi "int" ((im_var 0)).w) (im_andV (im_notV (im_isi "bool" ((im_var 0)).w)) (im_chain ro_le ro_le ((im_var 1)).w ((im_var 0)).w ((im_var 2)).w))))⟩
theorem ok_is_row (T : Txt K mg) {f : Addr} {fd : FuncData} (Fn : Fun K "is_row" "is_row" s_is_row f fd) (c_is_integer : Cal P w K mg base 1 "is_integer" ["value", "least", "most"] (spD K 3 m_is_integer)) : FnG P w K mg base 2 f fd ["value", "letters", "many"] (spD K 3 m_is_row) :=
  fnD Fn sc_is_row (by decide) fun cdv A outer s H E hr gd => ⟨_, (pss_cons (ps_if (PW.pt (pw_or (pt_not (pt_truth (pe_callB call_isi (by rfl) T.n_isinstance (by decide +kernel) (pa_cons (pv 0) (pa_cons (pe_tyName (by rfl) T.n_tuple (by decide +kernel)) pa_nil))) (by intro _; rfl))) (pw_or1 (pt_cmpR (op_neA hr.units) (pe_callB call_lenA (by rfl) T.n_len (by decide +kernel) (pa_cons (pv 0) pa_nil)) (pv 1) (nomark _)))))
 (pss_one (ps_ret pe_bl))
 pss_nil)
 (pss_one (ps_ret (pe_cmpR (op_eqN hr.units) (pe_lc (own := [("item", 3)]) (g := (gName 3)) rfl sc_is_row.nd (pi_seq (pv 0)) (blkOk_by (own := [("item", 3)]) (N := ["value", "letters", "many", "item"]) (sc := defScope s_is_row) (by decide +kernel)) (fun _ _ _ _ _ => (pg_name (i := 3) sc_is_row.nd rfl (Or.inl rfl))) (fun _ _ _ _ _ => (pts_one (PW.pt (pw_and (pt_cmpR op_notN (pv 3) pe_non (nomark _)) (pw_and1 (pt_not (pt_truth (pe_callC c_is_integer hr gd (by rfl) (pa_cons (pv 3) (pa_cons pe_int (pa_cons (pe_op op_sub (pv 2) pe_int) pa_nil)))) (by intro _; rfl)))))))) (fun _ _ _ _ _ => (pv 3))) (pe_lst pa_nil) (nomark _))))),
 (is_seq (is_if (it_or (it_not (it_truth ((im_isi "tuple" ((im_var 0)).w)).w)) (it_test (im_op ro_ne ((im_cb rc_lenA (iaw_cons ((im_var 0)).w iaw_nil))).w ((im_var 1)).w)))
 (is_ret im_bl)
 is_next)
 (is_ret (im_op ro_eqN ((if_comp (vs := [3]) (ii_seq (im_var 0)) (ig_name 3) (it_and (it_test (im_op ro_isNot ((im_var 3)).w (im_non).w)) (it_not (it_truth ((im_call (ia_cons (im_var 3) (ia_cons im_int (ia_cons (im_op ro_sub ((im_var 2)).w (im_int).w) ia_nil))) (an_cons (an_cons (an_cons an_nil))))).w))) (im_var 3) (by decide))).w ((if_lst ia_nil)).w)))⟩
theorem ok_are_rows (T : Txt K mg) {f : Addr} {fd : FuncData} (Fn : Fun K "are_rows" "are_rows" s_are_rows f fd) (c_is_row : Cal P w K mg base 2 "is_row" ["value", "letters", "many"] (spD K 3 m_is_row)) : FnG P w K mg base 3 f fd ["value", "letters"] (spD K 2 m_are_rows) :=
  fnD Fn sc_are_rows (by decide) fun cdv A outer s H E hr gd => ⟨_, (pss_cons (ps_if (PW.pt (pw_or (pt_not (pt_truth (pe_callB call_isi (by rfl) T.n_isinstance (by decide +kernel) (pa_cons (pv 0) (pa_cons (pe_tyName (by rfl) T.n_tuple (by decide +kernel)) pa_nil))) (by intro _; rfl))) (pw_or1 (pt_not (pt_chain op_le op_le pe_int (pe_callB call_lenA (by rfl) T.n_len (by decide +kernel) (pa_cons (pv 0) pa_nil)) (pe_gint (by rfl) T.c_MAX_STATES))))))
 (pss_one (ps_ret pe_bl))
 pss_nil)
 (pss_one (ps_ret (pe_cmpR (op_eqN hr.units) (pe_lc (own := [("row", 2)]) (g := (gName 2)) rfl sc_are_rows.nd (pi_seq (pv 0)) (blkOk_by (own := [("row", 2)]) (N := ["value", "letters", "row"]) (sc := defScope s_are_rows) (by decide +kernel)) (fun _ _ _ _ _ => (pg_name (i := 2) sc_are_rows.nd rfl (Or.inl rfl))) (fun _ _ _ _ _ => (pts_one (pt_not (pt_truth (pe_callC c_is_row hr gd (by rfl) (pa_cons (pv 2) (pa_cons (pv 1) (pa_cons (pe_callB call_lenA (by rfl) T.n_len (by decide +kernel) (pa_cons (pv 0) pa_nil)) pa_nil)))) (by intro _; rfl))))) (fun _ _ _ _ _ => (pv 2))) (pe_lst pa_nil) (nomark _))))),
 (is_seq (is_if (it_or (it_not (it_truth ((im_isi "tuple" ((im_var 0)).w)).w)) (it_not (it_test (im_chain ro_le ro_le (im_int).w ((im_cb rc_lenA (iaw_cons ((im_var 0)).w iaw_nil))).w (im_int).w))))
 (is_ret im_bl)
 is_next)
 (is_ret (im_op ro_eqN ((if_comp (vs := [2]) (ii_seq (im_var 0)) (ig_name 2) (it_not (it_truth ((im_call (ia_cons (im_var 2) (ia_cons (im_var 1) (ia_cons (im_cb rc_lenA (iaw_cons ((im_var 0)).w iaw_nil)) ia_nil))) (an_cons (an_cons (an_cons an_nil))))).w)) (im_var 2) (by decide))).w ((if_lst ia_nil)).w)))⟩
theorem ok_are_ends (T : Txt K mg) {f : Addr} {fd : FuncData} (Fn : Fun K "are_ends" "are_ends" s_are_ends f fd)  : FnG P w K mg base 1 f fd ["value", "many"] (spD K 2 m_are_ends) :=
  fnD Fn sc_are_ends (by decide) fun cdv A outer s H E hr gd => ⟨_, (pss_cons (ps_if (PW.pt (pw_or (pt_not (pt_truth (pe_callB call_isi (by rfl) T.n_isinstance (by decide +kernel) (pa_cons (pv 0) (pa_cons (pe_tyName (by rfl) T.n_tuple (by decide +kernel)) pa_nil))) (by intro _; rfl))) (pw_or1 (pt_cmpR (op_neA hr.units) (pe_callB call_lenA (by rfl) T.n_len (by decide +kernel) (pa_cons (pv 0) pa_nil)) (pv 1) (nomark _)))))
 (pss_one (ps_ret pe_bl))
 pss_nil)
 (pss_one (ps_ret (pe_cmpR (op_eqN hr.units) (pe_lc (own := [("end", 2)]) (g := (gName 2)) rfl sc_are_ends.nd (pi_seq (pv 0)) (blkOk_by (own := [("end", 2)]) (N := ["value", "many", "end"]) (sc := defScope s_are_ends) (by decide +kernel)) (fun _ _ _ _ _ => (pg_name (i := 2) sc_are_ends.nd rfl (Or.inl rfl))) (fun _ _ _ _ _ => (pts_one (pt_not (pt_truth (pe_callB call_isi (by rfl) T.n_isinstance (by decide +kernel) (pa_cons (pv 2) (pa_cons (pe_tyName (by rfl) T.n_bool (by decide +kernel)) pa_nil))) (by intro _; rfl))))) (fun _ _ _ _ _ => (pv 2))) (pe_lst pa_nil) (nomark _))))),
 (is_seq (is_if (it_or (it_not (it_truth ((im_isi "tuple" ((im_var 0)).w)).w)) (it_test (im_op ro_ne ((im_cb rc_lenA (iaw_cons ((im_var 0)).w iaw_nil))).w ((im_var 1)).w)))
 (is_ret im_bl)
 is_next)
 (is_ret (im_op ro_eqN ((if_comp (vs := [2]) (ii_seq (im_var 0)) (ig_name 2) (it_not (it_truth ((im_isi "bool" ((im_var 2)).w)).w)) (im_var 2) (by decide))).w ((if_lst ia_nil)).w)))⟩
theorem ok_kind_error (T : Txt K mg) {f : Addr} {fd : FuncData} (Fn : Fun K "kind_error" "kind_error" s_kind_error f fd) (c_is_integer : Cal P w K mg base 1 "is_integer" ["value", "least", "most"] (spD K 3 m_is_integer)) (c_are_rows : Cal P w K mg base 3 "are_rows" ["value", "letters"] (spD K 2 m_are_rows)) (c_are_ends : Cal P w K mg base 1 "are_ends" ["value", "many"] (spD K 2 m_are_ends)) : FnG P w K mg base 4 f fd ["value"] (spD K 1 m_kind_error) :=
  fnD Fn sc_kind_error (by decide) fun cdv A outer s H E hr gd => ⟨_, (pss_cons (ps_if (PW.pt (pw_or (pt_not (pt_truth (pe_callB call_isi (by rfl) T.n_isinstance (by decide +kernel) (pa_cons (pv 0) (pa_cons (pe_tyName (by rfl) T.n_tuple (by decide +kernel)) pa_nil))) (by intro _; rfl))) (pw_or1 (pt_cmpR (op_neA hr.units) (pe_callB call_lenA (by rfl) T.n_len (by decide +kernel) (pa_cons (pv 0) pa_nil)) pe_int (nomark _)))))
 (pss_one (ps_ret pe_str))
 pss_nil)
 (pss_cons (ps_if (pt_not (pt_truth (pe_callC c_is_integer hr gd (by rfl) (pa_cons (pe_sub (units1 hr.units) (pv 0) pe_int) (pa_cons pe_int (pa_cons (pe_gint (by rfl) T.c_MAX_LETTERS) pa_nil)))) (by intro _; rfl)))
 (pss_one (ps_ret pe_str))
 pss_nil)
 (pss_cons (ps_if (pt_not (pt_truth (pe_callC c_are_rows hr gd (by rfl) (pa_cons (pe_sub (units1 hr.units) (pv 0) pe_int) (pa_cons (pe_sub (units1 hr.units) (pv 0) pe_int) pa_nil))) (by intro _; rfl)))
 (pss_one (ps_ret pe_str))
 pss_nil)
 (pss_one (ps_ret (pe_ifExp (pt_truth (pe_callC c_are_ends hr gd (by rfl) (pa_cons (pe_sub (units1 hr.units) (pv 0) pe_int) (pa_cons (pe_callB call_lenA (by rfl) T.n_len (by decide +kernel) (pa_cons (pe_sub (units1 hr.units) (pv 0) pe_int) pa_nil)) pa_nil))) (by intro _; rfl)) pe_non pe_str)))))),
 (is_seq (is_if (it_or (it_not (it_truth ((im_isi "tuple" ((im_var 0)).w)).w)) (it_test (im_op ro_ne ((im_cb rc_lenA (iaw_cons ((im_var 0)).w iaw_nil))).w (im_int).w)))
 (is_ret im_str)
 is_next)
 (is_seq (is_if (it_not (it_truth ((im_call (ia_cons (im_sub ((im_var 0)).w (im_int).w) (ia_cons im_int (ia_cons im_int ia_nil))) (an_cons (an_cons (an_cons an_nil))))).w))
 (is_ret im_str)
 is_next)
 (is_seq (is_if (it_not (it_truth ((im_call (ia_cons (im_sub ((im_var 0)).w (im_int).w) (ia_cons (im_sub ((im_var 0)).w (im_int).w) ia_nil)) (an_cons (an_cons an_nil)))).w))
 (is_ret im_str)
 is_next)
 (is_ret (im_if (it_truth ((im_call (ia_cons (im_sub ((im_var 0)).w (im_int).w) (ia_cons (im_cb rc_lenA (iaw_cons ((im_sub ((im_var 0)).w (im_int).w)).w iaw_nil)) ia_nil)) (an_cons (an_cons an_nil)))).w) im_non im_str)))))⟩
theorem ok__law_whole (T : Txt K mg) {f : Addr} {fd : FuncData} (Fn : Fun K "_law_whole" "_law_whole" s__law_whole f fd)  : FnG P w K mg base 1 f fd ["_law_value", "_law_least", "_law_most"] (spD K 3 m__law_whole) :=
  fnD Fn sc__law_whole (by decide) fun cdv A outer s H E hr gd => ⟨_, (pss_one (ps_ret (L2.pe_and (pe_callB call_isi (by rfl) T.n_isinstance (by decide +kernel) (pa_cons (pv 0) (pa_cons (pe_tyName (by rfl) T.n_int (by decide +kernel)) pa_nil))) (L2.pe_and (pe_not (pe_callB call_isi (by rfl) T.n_isinstance (by decide +kernel) (pa_cons (pv 0) (pa_cons (pe_tyName (by rfl) T.n_bool (by decide +kernel)) pa_nil)))) (pe_one (pe_chain op_le op_le (pv 1) (pv 0) (pv 2))))))),
 (is_ret (im_andV (im_isi "int" ((im_var 0)).w) (im_andV (im_notV (im_isi "bool" ((im_var 0)).w)) (im_chain ro_le ro_le ((im_var 1)).w ((im_var 0)).w ((im_var 2)).w))))⟩
theorem ok__law_are_rows (T : Txt K mg) {f : Addr} {fd : FuncData} (Fn : Fun K "_law_are_rows" "_law_are_rows" s__law_are_rows f fd) (c__law_whole : Cal P w K mg base 1 "_law_whole" ["_law_value", "_law_least", "_law_most"] (spD K 3 m__law_whole)) : FnG P w K mg base 2 f fd ["_law_value", "_law_letters"] (spD K 2 m__law_are_rows) :=
  fnD Fn sc__law_are_rows (by decide) fun cdv A outer s H E hr gd => ⟨_, (pss_cons (ps_if (PW.pt (pw_or (pt_not (pt_truth (pe_callB call_isi (by rfl) T.n_isinstance (by decide +kernel) (pa_cons (pv 0) (pa_cons (pe_tyName (by rfl) T.n_tuple (by decide +kernel)) pa_nil))) (by intro _; rfl))) (pw_or1 (pt_not (pt_chain op_le op_le pe_int (pe_callB call_lenA (by rfl) T.n_len (by decide +kernel) (pa_cons (pv 0) pa_nil)) pe_int)))))
 (pss_one (ps_ret pe_bl))
 pss_nil)
 (pss_cons (ps_for PassesOwn.never rfl (pi_seq (pv 0)) (pg_name (i := 2) sc__law_are_rows.nd rfl (Or.inl rfl))
 (pss_cons (ps_if (PW.pt (pw_or (pt_not (pt_truth (pe_callB call_isi (by rfl) T.n_isinstance (by decide +kernel) (pa_cons (pv 2) (pa_cons (pe_tyName (by rfl) T.n_tuple (by decide +kernel)) pa_nil))) (by intro _; rfl))) (pw_or1 (pt_cmpR (op_neA hr.units) (pe_callB call_lenA (by rfl) T.n_len (by decide +kernel) (pa_cons (pv 2) pa_nil)) (pv 1) (nomark _)))))
 (pss_one (ps_ret pe_bl))
 pss_nil)
 (pss_one (ps_if (pt_cmpR (op_neN hr.units) (pe_lc (own := [("_law_item", 3)]) (g := (gName 3)) rfl sc__law_are_rows.nd (pi_seq (pv 2)) (blkOk_by (own := [("_law_item", 3)]) (N := ["_law_value", "_law_letters", "_law_row", "_law_item"]) (sc := defScope s__law_are_rows) (by decide +kernel)) (fun _ _ _ _ _ => (pg_name (i := 3) sc__law_are_rows.nd rfl (Or.inl rfl))) (fun _ _ _ _ _ => (pts_one (PW.pt (pw_and (pt_cmpR op_notN (pv 3) pe_non (nomark _)) (pw_and1 (pt_not (pt_truth (pe_callC c__law_whole hr gd (by rfl) (pa_cons (pv 3) (pa_cons pe_int (pa_cons (pe_op op_sub (pe_callB call_lenA (by rfl) T.n_len (by decide +kernel) (pa_cons (pv 0) pa_nil)) pe_int) pa_nil)))) (by intro _; rfl)))))))) (fun _ _ _ _ _ => (pv 3))) (pe_lst pa_nil) (nomark _))
 (pss_one (ps_ret pe_bl))
 pss_nil))))
 (pss_one (ps_ret pe_bl)))),
 (is_seq (is_if (it_or (it_not (it_truth ((im_isi "tuple" ((im_var 0)).w)).w)) (it_not (it_test (im_chain ro_le ro_le (im_int).w ((im_cb rc_lenA (iaw_cons ((im_var 0)).w iaw_nil))).w (im_int).w))))
 (is_ret im_bl)
 is_next)
 (is_seq (is_for (ii_seq (im_var 0)) (ig_name 2)
 (is_seq (is_if (it_or (it_not (it_truth ((im_isi "tuple" ((im_var 2)).w)).w)) (it_test (im_op ro_ne ((im_cb rc_lenA (iaw_cons ((im_var 2)).w iaw_nil))).w ((im_var 1)).w)))
 (is_ret im_bl)
 is_next)
 (is_if (it_test (im_op ro_neN ((if_comp (vs := [3]) (ii_seq (im_var 2)) (ig_name 3) (it_and (it_test (im_op ro_isNot ((im_var 3)).w (im_non).w)) (it_not (it_truth ((im_call (ia_cons (im_var 3) (ia_cons im_int (ia_cons (im_op ro_sub ((im_cb rc_lenA (iaw_cons ((im_var 0)).w iaw_nil))).w (im_int).w) ia_nil))) (an_cons (an_cons (an_cons an_nil))))).w))) (im_var 3) (by decide))).w ((if_lst ia_nil)).w))
 (is_ret im_bl)
 is_next)))
 (is_ret im_bl)))⟩
theorem ok__law_error (T : Txt K mg) {f : Addr} {fd : FuncData} (Fn : Fun K "_law_error" "_law_error" s__law_error f fd) (c__law_whole : Cal P w K mg base 1 "_law_whole" ["_law_value", "_law_least", "_law_most"] (spD K 3 m__law_whole)) (c__law_are_rows : Cal P w K mg base 2 "_law_are_rows" ["_law_value", "_law_letters"] (spD K 2 m__law_are_rows)) : FnG P w K mg base 3 f fd ["_law_value"] (spD K 1 m__law_error) :=
  fnD Fn sc__law_error (by decide) fun cdv A outer s H E hr gd => ⟨_, (pss_cons (ps_if (PW.pt (pw_or (pt_not (pt_truth (pe_callB call_isi (by rfl) T.n_isinstance (by decide +kernel) (pa_cons (pv 0) (pa_cons (pe_tyName (by rfl) T.n_tuple (by decide +kernel)) pa_nil))) (by intro _; rfl))) (pw_or1 (pt_cmpR (op_neA hr.units) (pe_callB call_lenA (by rfl) T.n_len (by decide +kernel) (pa_cons (pv 0) pa_nil)) pe_int (nomark _)))))
 (pss_one (ps_ret pe_str))
 pss_nil)
 (pss_cons (ps_if (pt_not (pt_truth (pe_callC c__law_whole hr gd (by rfl) (pa_cons (pe_sub (units1 hr.units) (pv 0) pe_int) (pa_cons pe_int (pa_cons pe_int pa_nil)))) (by intro _; rfl)))
 (pss_one (ps_ret pe_str))
 pss_nil)
 (pss_cons (ps_if (pt_not (pt_truth (pe_callC c__law_are_rows hr gd (by rfl) (pa_cons (pe_sub (units1 hr.units) (pv 0) pe_int) (pa_cons (pe_sub (units1 hr.units) (pv 0) pe_int) pa_nil))) (by intro _; rfl)))
 (pss_one (ps_ret pe_str))
 pss_nil)
 (pss_cons (ps_if (PW.pt (pw_or (pt_not (pt_truth (pe_callB call_isi (by rfl) T.n_isinstance (by decide +kernel) (pa_cons (pe_sub (units1 hr.units) (pv 0) pe_int) (pa_cons (pe_tyName (by rfl) T.n_tuple (by decide +kernel)) pa_nil))) (by intro _; rfl))) (pw_or1 (pt_cmpR (op_neA hr.units) (pe_callB call_lenA (by rfl) T.n_len (by decide +kernel) (pa_cons (pe_sub (units1 hr.units) (pv 0) pe_int) pa_nil)) (pe_callB call_lenA (by rfl) T.n_len (by decide +kernel) (pa_cons (pe_sub (units1 hr.units) (pv 0) pe_int) pa_nil)) (nomark _)))))
 (pss_one (ps_ret pe_str))
 pss_nil)
 (pss_one (ps_ret (pe_ifExp (pt_cmpR (op_neN hr.units) (pe_lc (own := [("_law_end", 1)]) (g := (gName 1)) rfl sc__law_error.nd (pi_seq (pe_sub (units1 hr.units) (pv 0) pe_int)) (blkOk_by (own := [("_law_end", 1)]) (N := ["_law_value", "_law_end"]) (sc := defScope s__law_error) (by decide +kernel)) (fun _ _ _ _ _ => (pg_name (i := 1) sc__law_error.nd rfl (Or.inl rfl))) (fun _ _ _ _ _ => (pts_one (pt_not (pt_truth (pe_callB call_isi (by rfl) T.n_isinstance (by decide +kernel) (pa_cons (pv 1) (pa_cons (pe_tyName (by rfl) T.n_bool (by decide +kernel)) pa_nil))) (by intro _; rfl))))) (fun _ _ _ _ _ => (pv 1))) (pe_lst pa_nil) (nomark _)) pe_str pe_non))))))),
 (is_seq (is_if (it_or (it_not (it_truth ((im_isi "tuple" ((im_var 0)).w)).w)) (it_test (im_op ro_ne ((im_cb rc_lenA (iaw_cons ((im_var 0)).w iaw_nil))).w (im_int).w)))
 (is_ret im_str)
 is_next)
 (is_seq (is_if (it_not (it_truth ((im_call (ia_cons (im_sub ((im_var 0)).w (im_int).w) (ia_cons im_int (ia_cons im_int ia_nil))) (an_cons (an_cons (an_cons an_nil))))).w))
 (is_ret im_str)
 is_next)
 (is_seq (is_if (it_not (it_truth ((im_call (ia_cons (im_sub ((im_var 0)).w (im_int).w) (ia_cons (im_sub ((im_var 0)).w (im_int).w) ia_nil)) (an_cons (an_cons an_nil)))).w))
 (is_ret im_str)
 is_next)
 (is_seq (is_if (it_or (it_not (it_truth ((im_isi "tuple" ((im_sub ((im_var 0)).w (im_int).w)).w)).w)) (it_test (im_op ro_ne ((im_cb rc_lenA (iaw_cons ((im_sub ((im_var 0)).w (im_int).w)).w iaw_nil))).w ((im_cb rc_lenA (iaw_cons ((im_sub ((im_var 0)).w (im_int).w)).w iaw_nil))).w)))
 (is_ret im_str)
 is_next)
 (is_ret (im_if (it_test (im_op ro_neN ((if_comp (vs := [1]) (ii_seq (im_sub ((im_var 0)).w (im_int).w)) (ig_name 1) (it_not (it_truth ((im_isi "bool" ((im_var 1)).w)).w)) (im_var 1) (by decide))).w ((if_lst ia_nil)).w)) im_str im_non))))))⟩
theorem ok__law_right (T : Txt K mg) {f : Addr} {fd : FuncData} (Fn : Fun K "_law_right" "_law_right" s__law_right f fd) (c_kind_error : Cal P w K mg base 4 "kind_error" ["value"] (spD K 1 m_kind_error)) (c__law_error : Cal P w K mg base 3 "_law_error" ["_law_value"] (spD K 1 m__law_error)) : FnG P w K mg base 5 f fd ["_law_value"] (spD K 1 m__law_right) :=
  fnD Fn sc__law_right (by decide) fun cdv A outer s H E hr gd => ⟨_, (pss_cons (ps_set (i := 1) sc__law_right.nd rfl (Or.inl rfl) (pe_callB (call_reprQ gd hr.units) (by rfl) T.n_repr (by decide +kernel) (pa_cons (pv 0) pa_nil)))
 (pss_one (ps_ret (L2.pe_and (pe_cmpR (op_eqA hr.units) (pe_callB (call_reprQ gd hr.units) (by rfl) T.n_repr (by decide +kernel) (pa_cons (pe_callC c_kind_error hr gd (by rfl) (pa_cons (pv 0) pa_nil)) pa_nil)) (pe_callB (call_reprQ gd hr.units) (by rfl) T.n_repr (by decide +kernel) (pa_cons (pe_callC c__law_error hr gd (by rfl) (pa_cons (pv 0) pa_nil)) pa_nil)) (nomark _)) (pe_one (pe_cmpR (op_eqA hr.units) (pe_callB (call_reprQ gd hr.units) (by rfl) T.n_repr (by decide +kernel) (pa_cons (pv 0) pa_nil)) (pv 1) (nomark _))))))),
 (is_seq (is_asg (im_cb rc_reprQ (iaw_cons ((im_var 0)).w iaw_nil)) (ig_name 1))
 (is_ret (im_andV (im_op ro_eq ((im_cb rc_reprQ (iaw_cons ((im_call (ia_cons (im_var 0) ia_nil) (an_cons an_nil))).w iaw_nil))).w ((im_cb rc_reprQ (iaw_cons ((im_call (ia_cons (im_var 0) ia_nil) (an_cons an_nil))).w iaw_nil))).w) (im_op ro_eq ((im_cb rc_reprQ (iaw_cons ((im_var 0)).w iaw_nil))).w ((im_var 1)).w))))⟩
theorem ok_law (T : Txt K mg) {f : Addr} {fd : FuncData} (Fn : Fun K "law" "law" s_law f fd) (c__law_deck : Cal P w K mg base 1 "_law_deck" ["_law_script"] (spDeck K)) (c__law_draw : Cal P w K mg base 1 "_law_draw" ["_law_deck_here", "_law_many"] (spD K 2 m__law_draw)) (c__law_kind : Cal P w K mg base 3 "_law_kind" ["_law_deck_here", "_law_letters", "_law_many"] (spD K 3 m__law_kind)) (c__law_bent : Cal P w K mg base 8 "_law_bent" ["_law_deck_here", "_law_value", "_law_many", "_law_deep"] (spD K 4 m__law_bent)) (c__law_odd : Cal P w K mg base 3 "_law_odd" ["_law_deck_here", "_law_many"] (spD K 2 m__law_odd)) (c__law_right : Cal P w K mg base 5 "_law_right" ["_law_value"] (spD K 1 m__law_right)) (c_kind_error : Cal P w K mg base 4 "kind_error" ["value"] (spD K 1 m_kind_error)) (hb : ∀ ns : List Int, ns.length ≤ 63 → ∃ s1, b_law (env0 12) ⟨ns.map absI, 0, []⟩ = some (.rt (.bl true), s1)) : FnG P w K mg base 9 f fd ["_law_script"] (spLaw K) :=
  fn_law Fn sc_law (by decide) rfl hb fun cdv A outer s H E hr gd => ⟨_, pss_cons (ps_set (i := 1) sc_law.nd rfl (Or.inl rfl) (pe_callC c__law_deck hr gd (by rfl) (pa_cons (pv 0) pa_nil)))
 (pss_cons (ps_for PassesOwn.never rfl (pi_range1 (by rfl) T.n_range (pa_cons pe_int pa_nil)) (pg_name (i := 2) sc_law.nd rfl (Or.inl rfl))
 (pss_cons (ps_par (i := 3) (j := 4) rfl sc_law.nd rfl rfl (by decide) rfl rfl (pa_cons (pe_op op_addA pe_int (pe_callC c__law_draw hr gd (by rfl) (pa_cons (pv 1) (pa_cons pe_int pa_nil)))) (pa_cons (pe_op op_addA pe_int (pe_callC c__law_draw hr gd (by rfl) (pa_cons (pv 1) (pa_cons pe_int pa_nil)))) pa_nil)) (by rfl))
 (pss_cons (ps_set (i := 5) sc_law.nd rfl (Or.inr rfl) (pe_callC c__law_kind hr gd (by rfl) (pa_cons (pv 1) (pa_cons (pv 3) (pa_cons (pv 4) pa_nil)))))
 (pss_cons (ps_set (i := 6) sc_law.nd rfl (Or.inl rfl) (pe_callC c__law_bent hr gd (by rfl) (pa_cons (pv 1) (pa_cons (pv 5) (pa_cons (pv 4) (pa_cons pe_int pa_nil)))) (hj := by omega)))
 (pss_cons (ps_set (i := 7) sc_law.nd rfl (Or.inl rfl) (pe_lst (pa_cons (pv 5) (pa_cons (pv 6) (pa_cons (pe_callC c__law_bent hr gd (by rfl) (pa_cons (pv 1) (pa_cons (pv 6) (pa_cons (pv 4) (pa_cons pe_int pa_nil)))) (hj := by omega)) (pa_cons (pe_callC c__law_odd hr gd (by rfl) (pa_cons (pv 1) (pa_cons (pv 4) pa_nil))) (pa_cons (pe_callTy (call_listA rfl) (by rfl) T.n_list (by decide +kernel) (pa_cons (pv 5) pa_nil)) (pa_cons (pe_op op_addA (pv 5) (pe_tup (pa_cons pe_int pa_nil))) pa_nil))))))))
 (pss_cons (ps_set (i := 7) sc_law.nd rfl (Or.inl rfl) (pe_op op_addA (pv 7) (pe_lst (pa_cons (pe_op op_addA (pe_op op_addA (pe_tup (pa_cons (pv 3) pa_nil)) (pe_slice sl_any (pv 5) (po_some pe_int) (po_some pe_int))) (pe_tup (pa_cons (pe_callTy (call_tupA rfl) (by rfl) T.n_tuple (by decide +kernel) (pa_cons (pe_lc (own := [("_law_end", 10)]) (g := (gName 10)) rfl sc_law.nd (pi_seq (pe_sub (units1 hr.units) (pv 5) pe_int)) (blkOk_by (own := [("_law_end", 10)]) (N := ["_law_script", "_law_deck_here", "_law_turn", "_law_letters", "_law_many", "_law_kind_here", "_law_bent_here", "_law_values", "_law_value", "_law_nine", "_law_end", "_law_letter"]) (sc := defScope s_law) (by decide +kernel)) (fun _ _ _ _ _ => (pg_name (i := 10) sc_law.nd rfl (Or.inl rfl))) (fun _ _ _ _ _ => pts_nil) (fun _ _ _ _ _ => (pe_callTy call_int1 (by rfl) T.n_int (by decide +kernel) (pa_cons (pv 10) pa_nil)))) pa_nil)) pa_nil))) (pa_cons (pe_slice sl_any (pv 5) po_none (po_some pe_int)) pa_nil)))))
 (pss_cons (ps_set (i := 7) sc_law.nd rfl (Or.inl rfl) (pe_op op_addA (pv 7) (pe_lc (own := [("_law_letter", 11)]) (g := (gName 11)) rfl sc_law.nd (pi_seq (pe_lst (pa_cons pe_int (pa_cons pe_int (pa_cons pe_bl (pa_cons pe_non (pa_cons pe_str (pa_cons pe_int (pa_cons (pe_un un_neg pe_int) pa_nil))))))))) (blkOk_by (own := [("_law_letter", 11)]) (N := ["_law_script", "_law_deck_here", "_law_turn", "_law_letters", "_law_many", "_law_kind_here", "_law_bent_here", "_law_values", "_law_value", "_law_nine", "_law_end", "_law_letter"]) (sc := defScope s_law) (by decide +kernel)) (fun _ _ _ _ _ => (pg_name (i := 11) sc_law.nd rfl (Or.inl rfl))) (fun _ _ _ _ _ => pts_nil) (fun _ _ _ _ _ => (pe_op op_addA (pe_tup (pa_cons (pv 11) pa_nil)) (pe_slice sl_any (pv 5) (po_some pe_int) po_none))))))
 (pss_cons (ps_set (i := 7) sc_law.nd rfl (Or.inl rfl) (pe_op op_addA (pv 7) (pe_lst (pa_cons (pe_op op_addA (pe_tup (pa_cons (pe_op op_addA pe_int (pe_op op_mod (pv 3) pe_int)) pa_nil)) (pe_slice sl_any (pv 5) (po_some pe_int) po_none)) (pa_cons (pe_op op_addA (pe_op op_addA (pe_slice sl_any (pv 5) po_none (po_some pe_int)) (pe_tup (pa_cons (pe_tup pa_nil) pa_nil))) (pe_slice sl_any (pv 5) (po_some pe_int) po_none)) (pa_cons (pe_tup (pa_cons (pv 3) (pa_cons (pe_tup pa_nil) (pa_cons (pe_tup pa_nil) pa_nil)))) pa_nil))))))
 (pss_one (ps_for PassesOwn.never rfl (pi_seq (pv 7)) (pg_name (i := 8) sc_law.nd rfl (Or.inl rfl))
 (pss_one (ps_if (pt_not (pt_truth (pe_callC c__law_right hr gd (by rfl) (pa_cons (pv 8) pa_nil)) (by intro _; rfl)))
 (pss_one (ps_ret pe_bl))
 pss_nil))))))))))))
 (pss_cons (ps_setLc (i := 9) (own := [("_law_many", 4)]) (g := (gName 4)) rfl sc_law.nd rfl rfl (sw_true rfl rfl rfl (by decide +kernel)) (pi_seq (pe_lst (pa_cons pe_int (pa_cons pe_int pa_nil)))) (blkOk_by (own := [("_law_many", 4)]) (N := ["_law_script", "_law_deck_here", "_law_turn", "_law_letters", "_law_many", "_law_kind_here", "_law_bent_here", "_law_values", "_law_value", "_law_nine", "_law_end", "_law_letter"]) (sc := defScope s_law) (by decide +kernel)) (fun _ _ _ _ _ => (pg_name (i := 4) sc_law.nd rfl (Or.inl rfl))) (fun _ _ _ _ _ => pts_nil) (fun _ _ _ _ _ => (pe_tup (pa_cons pe_int (pa_cons (pe_op op_mulA (pe_tup (pa_cons (pe_tup (pa_cons pe_int pa_nil)) pa_nil)) (pv 4)) (pa_cons (pe_op op_mulA (pe_tup (pa_cons pe_bl pa_nil)) (pv 4)) pa_nil))))))
 (pss_one (ps_ret (pe_cmpR (op_eqA hr.units) (pe_callB (call_reprQ gd hr.units) (by rfl) T.n_repr (by decide +kernel) (pa_cons (pe_lc (own := [("_law_value", 8)]) (g := (gName 8)) rfl sc_law.nd (pi_seq (pv 9)) (blkOk_by (own := [("_law_value", 8)]) (N := ["_law_script", "_law_deck_here", "_law_turn", "_law_letters", "_law_many", "_law_kind_here", "_law_bent_here", "_law_values", "_law_value", "_law_nine", "_law_end", "_law_letter"]) (sc := defScope s_law) (by decide +kernel)) (fun _ _ _ _ _ => (pg_name (i := 8) sc_law.nd rfl (Or.inl rfl))) (fun _ _ _ _ _ => pts_nil) (fun _ _ _ _ _ => (pe_callC c_kind_error hr gd (by rfl) (pa_cons (pv 8) pa_nil)))) pa_nil)) (pe_callB (call_reprQ gd hr.units) (by rfl) T.n_repr (by decide +kernel) (pa_cons (pe_lst (pa_cons pe_non (pa_cons pe_str pa_nil))) pa_nil)) (nomark _)))))),
 (is_seq (is_for (ii_range1 (iaw_cons (im_int).w iaw_nil)) (ig_name 2)
 (is_seq (is_par 3 4 (ia_cons (im_op ro_addA (im_int).w ((im_call (ia_cons (im_var 1) (ia_cons im_int ia_nil)) (an_cons (an_cons an_nil)))).w) (ia_cons (im_op ro_addA (im_int).w ((im_call (ia_cons (im_var 1) (ia_cons im_int ia_nil)) (an_cons (an_cons an_nil)))).w) ia_nil)))
 (is_seq (is_asg (im_call (ia_cons (im_var 1) (ia_cons (im_var 3) (ia_cons (im_var 4) ia_nil))) (an_cons (an_cons (an_cons an_nil)))) (ig_name 5))
 (is_seq (is_asg (im_call (ia_cons (im_var 1) (ia_cons (im_var 5) (ia_cons (im_var 4) (ia_cons im_int ia_nil)))) (an_cons (an_cons (an_cons (an_cons an_nil))))) (ig_name 6))
 (is_seq (is_asg ((if_lst (ia_cons (im_var 5) (ia_cons (im_var 6) (ia_cons (im_call (ia_cons (im_var 1) (ia_cons (im_var 6) (ia_cons (im_var 4) (ia_cons im_int ia_nil)))) (an_cons (an_cons (an_cons (an_cons an_nil))))) (ia_cons (im_call (ia_cons (im_var 1) (ia_cons (im_var 4) ia_nil)) (an_cons (an_cons an_nil))) (ia_cons ((if_list (iaw_cons ((im_var 5)).w iaw_nil))).im (ia_cons (im_op ro_addA ((im_var 5)).w ((im_tup (ia_cons im_int ia_nil))).w) ia_nil)))))))).im (ig_name 7))
 (is_seq (is_asg (im_op ro_addA ((im_var 7)).w ((if_lst (ia_cons (im_op ro_addA ((im_op ro_addA ((im_tup (ia_cons (im_var 3) ia_nil))).w ((im_sl rs_any ((im_var 5)).w (io_some (im_int).w) (io_some (im_int).w))).w)).w ((im_tup (ia_cons (im_cb rc_tupA (iaw_cons ((if_comp (vs := [10]) (ii_seq (im_sub ((im_var 5)).w (im_int).w)) (ig_name 10) it_yes (im_cb rc_int1 (iaw_cons ((im_var 10)).w iaw_nil)) (by decide))).w iaw_nil)) ia_nil))).w) (ia_cons (im_sl rs_any ((im_var 5)).w io_none (io_some (im_int).w)) ia_nil)))).w) (ig_name 7))
 (is_seq (is_asg (im_op ro_addA ((im_var 7)).w ((if_comp (vs := [11]) (ii_seq ((if_lst (ia_cons im_int (ia_cons im_int (ia_cons im_bl (ia_cons im_non (ia_cons im_str (ia_cons im_int (ia_cons (im_neg (im_int).w) ia_nil))))))))).im) (ig_name 11) it_yes (im_op ro_addA ((im_tup (ia_cons (im_var 11) ia_nil))).w ((im_sl rs_any ((im_var 5)).w (io_some (im_int).w) io_none)).w) (by decide))).w) (ig_name 7))
 (is_seq (is_asg (im_op ro_addA ((im_var 7)).w ((if_lst (ia_cons (im_op ro_addA ((im_tup (ia_cons (im_op ro_addA (im_int).w ((im_op ro_mod ((im_var 3)).w (im_int).w)).w) ia_nil))).w ((im_sl rs_any ((im_var 5)).w (io_some (im_int).w) io_none)).w) (ia_cons (im_op ro_addA ((im_op ro_addA ((im_sl rs_any ((im_var 5)).w io_none (io_some (im_int).w))).w ((im_tup (ia_cons (im_tup ia_nil) ia_nil))).w)).w ((im_sl rs_any ((im_var 5)).w (io_some (im_int).w) io_none)).w) (ia_cons (im_tup (ia_cons (im_var 3) (ia_cons (im_tup ia_nil) (ia_cons (im_tup ia_nil) ia_nil)))) ia_nil))))).w) (ig_name 7))
 (is_for (ii_seq (im_var 7)) (ig_name 8)
 (is_if (it_not (it_truth ((im_call (ia_cons (im_var 8) ia_nil) (an_cons an_nil))).w))
 (is_ret im_bl)
 is_next))))))))))
 (is_seq (is_asg ((if_comp (vs := [4]) (ii_seq ((if_lst (ia_cons im_int (ia_cons im_int ia_nil)))).im) (ig_name 4) it_yes (im_tup (ia_cons im_int (ia_cons (im_op ro_mulA ((im_tup (ia_cons (im_tup (ia_cons im_int ia_nil)) ia_nil))).w ((im_var 4)).w) (ia_cons (im_op ro_mulA ((im_tup (ia_cons im_bl ia_nil))).w ((im_var 4)).w) ia_nil)))) (by decide))).im (ig_name 9))
 (is_ret (im_op ro_eq ((im_cb rc_reprQ (iaw_cons ((if_comp (vs := [8]) (ii_seq (im_var 9)) (ig_name 8) it_yes (im_call (ia_cons (im_var 8) ia_nil) (an_cons an_nil)) (by decide))).w iaw_nil))).w ((im_cb rc_reprQ (iaw_cons ((if_lst (ia_cons im_non (ia_cons im_str ia_nil)))).w iaw_nil))).w))))⟩
end
/-! ### what the top has written -/
theorem all_mk {l : PySem.W.OpenLaw} {w : World} {K : Fg} {h : Heap} {mg : Str → Option Value} {fa : Addr} (hb : ∀ ns : List Int, ns.length ≤ 63 → ∃ s1, b_law (env0 12) ⟨ns.map absI, 0, []⟩ = some (.rt (.bl true), s1)) (X : K.In h) (G : h.Ns mainGlobals mg) (hfa : mg "law" = some (.ref fa))
    {f__law_deck : Addr} {odx0 anx0 : Option Addr} {slx0 : Array (Option Value)} {ocx0 kVx0 dcx0 pmx0 cdx0 ctx0 : Value} (ax0 : PySem.W.nsIn K mainGlobals "_law_deck" = some (some (.ref f__law_deck))) (lx0 : K.lookup f__law_deck = some ⟨ocx0, odx0, .func (PySem.W.fnOf "_law_deck" "_law_deck" (defArgs s__law_deck) (defBody s__law_deck) (defScope s__law_deck) .none kVx0 dcx0 pmx0 anx0 cdx0 ctx0), slx0⟩) (ccx0 : PySem.W.codeIn K cdx0 "_law_deck" = true) (kx0 : PySem.W.keepIn K (.ref f__law_deck) = true)
    {f__law_draw : Addr} {odx1 anx1 : Option Addr} {slx1 : Array (Option Value)} {ocx1 kVx1 dcx1 pmx1 cdx1 ctx1 : Value} (ax1 : PySem.W.nsIn K mainGlobals "_law_draw" = some (some (.ref f__law_draw))) (lx1 : K.lookup f__law_draw = some ⟨ocx1, odx1, .func (PySem.W.fnOf "_law_draw" "_law_draw" (defArgs s__law_draw) (defBody s__law_draw) (defScope s__law_draw) .none kVx1 dcx1 pmx1 anx1 cdx1 ctx1), slx1⟩) (ccx1 : PySem.W.codeIn K cdx1 "_law_draw" = true) (kx1 : PySem.W.keepIn K (.ref f__law_draw) = true)
    {f__law_one : Addr} {odx2 anx2 : Option Addr} {slx2 : Array (Option Value)} {ocx2 kVx2 dcx2 pmx2 cdx2 ctx2 : Value} (ax2 : PySem.W.nsIn K mainGlobals "_law_one" = some (some (.ref f__law_one))) (lx2 : K.lookup f__law_one = some ⟨ocx2, odx2, .func (PySem.W.fnOf "_law_one" "_law_one" (defArgs s__law_one) (defBody s__law_one) (defScope s__law_one) .none kVx2 dcx2 pmx2 anx2 cdx2 ctx2), slx2⟩) (ccx2 : PySem.W.codeIn K cdx2 "_law_one" = true) (kx2 : PySem.W.keepIn K (.ref f__law_one) = true)
    {f__law_kind : Addr} {odx3 anx3 : Option Addr} {slx3 : Array (Option Value)} {ocx3 kVx3 dcx3 pmx3 cdx3 ctx3 : Value} (ax3 : PySem.W.nsIn K mainGlobals "_law_kind" = some (some (.ref f__law_kind))) (lx3 : K.lookup f__law_kind = some ⟨ocx3, odx3, .func (PySem.W.fnOf "_law_kind" "_law_kind" (defArgs s__law_kind) (defBody s__law_kind) (defScope s__law_kind) .none kVx3 dcx3 pmx3 anx3 cdx3 ctx3), slx3⟩) (ccx3 : PySem.W.codeIn K cdx3 "_law_kind" = true) (kx3 : PySem.W.keepIn K (.ref f__law_kind) = true)
    {f__law_odd : Addr} {odx4 anx4 : Option Addr} {slx4 : Array (Option Value)} {ocx4 kVx4 dcx4 pmx4 cdx4 ctx4 : Value} (ax4 : PySem.W.nsIn K mainGlobals "_law_odd" = some (some (.ref f__law_odd))) (lx4 : K.lookup f__law_odd = some ⟨ocx4, odx4, .func (PySem.W.fnOf "_law_odd" "_law_odd" (defArgs s__law_odd) (defBody s__law_odd) (defScope s__law_odd) .none kVx4 dcx4 pmx4 anx4 cdx4 ctx4), slx4⟩) (ccx4 : PySem.W.codeIn K cdx4 "_law_odd" = true) (kx4 : PySem.W.keepIn K (.ref f__law_odd) = true)
    {f__law_bent : Addr} {odx5 anx5 : Option Addr} {slx5 : Array (Option Value)} {ocx5 kVx5 dcx5 pmx5 cdx5 ctx5 : Value} (ax5 : PySem.W.nsIn K mainGlobals "_law_bent" = some (some (.ref f__law_bent))) (lx5 : K.lookup f__law_bent = some ⟨ocx5, odx5, .func (PySem.W.fnOf "_law_bent" "_law_bent" (defArgs s__law_bent) (defBody s__law_bent) (defScope s__law_bent) .none kVx5 dcx5 pmx5 anx5 cdx5 ctx5), slx5⟩) (ccx5 : PySem.W.codeIn K cdx5 "_law_bent" = true) (kx5 : PySem.W.keepIn K (.ref f__law_bent) = true)
    {f_is_integer : Addr} {odx6 anx6 : Option Addr} {slx6 : Array (Option Value)} {ocx6 kVx6 dcx6 pmx6 cdx6 ctx6 : Value} (ax6 : PySem.W.nsIn K mainGlobals "is_integer" = some (some (.ref f_is_integer))) (lx6 : K.lookup f_is_integer = some ⟨ocx6, odx6, .func (PySem.W.fnOf "is_integer" "is_integer" (defArgs s_is_integer) (defBody s_is_integer) (defScope s_is_integer) .none kVx6 dcx6 pmx6 anx6 cdx6 ctx6), slx6⟩) (ccx6 : PySem.W.codeIn K cdx6 "is_integer" = true) (kx6 : PySem.W.keepIn K (.ref f_is_integer) = true)
    {f_is_row : Addr} {odx7 anx7 : Option Addr} {slx7 : Array (Option Value)} {ocx7 kVx7 dcx7 pmx7 cdx7 ctx7 : Value} (ax7 : PySem.W.nsIn K mainGlobals "is_row" = some (some (.ref f_is_row))) (lx7 : K.lookup f_is_row = some ⟨ocx7, odx7, .func (PySem.W.fnOf "is_row" "is_row" (defArgs s_is_row) (defBody s_is_row) (defScope s_is_row) .none kVx7 dcx7 pmx7 anx7 cdx7 ctx7), slx7⟩) (ccx7 : PySem.W.codeIn K cdx7 "is_row" = true) (kx7 : PySem.W.keepIn K (.ref f_is_row) = true)
    {f_are_rows : Addr} {odx8 anx8 : Option Addr} {slx8 : Array (Option Value)} {ocx8 kVx8 dcx8 pmx8 cdx8 ctx8 : Value} (ax8 : PySem.W.nsIn K mainGlobals "are_rows" = some (some (.ref f_are_rows))) (lx8 : K.lookup f_are_rows = some ⟨ocx8, odx8, .func (PySem.W.fnOf "are_rows" "are_rows" (defArgs s_are_rows) (defBody s_are_rows) (defScope s_are_rows) .none kVx8 dcx8 pmx8 anx8 cdx8 ctx8), slx8⟩) (ccx8 : PySem.W.codeIn K cdx8 "are_rows" = true) (kx8 : PySem.W.keepIn K (.ref f_are_rows) = true)
    {f_are_ends : Addr} {odx9 anx9 : Option Addr} {slx9 : Array (Option Value)} {ocx9 kVx9 dcx9 pmx9 cdx9 ctx9 : Value} (ax9 : PySem.W.nsIn K mainGlobals "are_ends" = some (some (.ref f_are_ends))) (lx9 : K.lookup f_are_ends = some ⟨ocx9, odx9, .func (PySem.W.fnOf "are_ends" "are_ends" (defArgs s_are_ends) (defBody s_are_ends) (defScope s_are_ends) .none kVx9 dcx9 pmx9 anx9 cdx9 ctx9), slx9⟩) (ccx9 : PySem.W.codeIn K cdx9 "are_ends" = true) (kx9 : PySem.W.keepIn K (.ref f_are_ends) = true)
    {f_kind_error : Addr} {odx10 anx10 : Option Addr} {slx10 : Array (Option Value)} {ocx10 kVx10 dcx10 pmx10 cdx10 ctx10 : Value} (ax10 : PySem.W.nsIn K mainGlobals "kind_error" = some (some (.ref f_kind_error))) (lx10 : K.lookup f_kind_error = some ⟨ocx10, odx10, .func (PySem.W.fnOf "kind_error" "kind_error" (defArgs s_kind_error) (defBody s_kind_error) (defScope s_kind_error) .none kVx10 dcx10 pmx10 anx10 cdx10 ctx10), slx10⟩) (ccx10 : PySem.W.codeIn K cdx10 "kind_error" = true) (kx10 : PySem.W.keepIn K (.ref f_kind_error) = true)
    {f__law_whole : Addr} {odx11 anx11 : Option Addr} {slx11 : Array (Option Value)} {ocx11 kVx11 dcx11 pmx11 cdx11 ctx11 : Value} (ax11 : PySem.W.nsIn K mainGlobals "_law_whole" = some (some (.ref f__law_whole))) (lx11 : K.lookup f__law_whole = some ⟨ocx11, odx11, .func (PySem.W.fnOf "_law_whole" "_law_whole" (defArgs s__law_whole) (defBody s__law_whole) (defScope s__law_whole) .none kVx11 dcx11 pmx11 anx11 cdx11 ctx11), slx11⟩) (ccx11 : PySem.W.codeIn K cdx11 "_law_whole" = true) (kx11 : PySem.W.keepIn K (.ref f__law_whole) = true)
    {f__law_are_rows : Addr} {odx12 anx12 : Option Addr} {slx12 : Array (Option Value)} {ocx12 kVx12 dcx12 pmx12 cdx12 ctx12 : Value} (ax12 : PySem.W.nsIn K mainGlobals "_law_are_rows" = some (some (.ref f__law_are_rows))) (lx12 : K.lookup f__law_are_rows = some ⟨ocx12, odx12, .func (PySem.W.fnOf "_law_are_rows" "_law_are_rows" (defArgs s__law_are_rows) (defBody s__law_are_rows) (defScope s__law_are_rows) .none kVx12 dcx12 pmx12 anx12 cdx12 ctx12), slx12⟩) (ccx12 : PySem.W.codeIn K cdx12 "_law_are_rows" = true) (kx12 : PySem.W.keepIn K (.ref f__law_are_rows) = true)
    {f__law_error : Addr} {odx13 anx13 : Option Addr} {slx13 : Array (Option Value)} {ocx13 kVx13 dcx13 pmx13 cdx13 ctx13 : Value} (ax13 : PySem.W.nsIn K mainGlobals "_law_error" = some (some (.ref f__law_error))) (lx13 : K.lookup f__law_error = some ⟨ocx13, odx13, .func (PySem.W.fnOf "_law_error" "_law_error" (defArgs s__law_error) (defBody s__law_error) (defScope s__law_error) .none kVx13 dcx13 pmx13 anx13 cdx13 ctx13), slx13⟩) (ccx13 : PySem.W.codeIn K cdx13 "_law_error" = true) (kx13 : PySem.W.keepIn K (.ref f__law_error) = true)
    {f__law_right : Addr} {odx14 anx14 : Option Addr} {slx14 : Array (Option Value)} {ocx14 kVx14 dcx14 pmx14 cdx14 ctx14 : Value} (ax14 : PySem.W.nsIn K mainGlobals "_law_right" = some (some (.ref f__law_right))) (lx14 : K.lookup f__law_right = some ⟨ocx14, odx14, .func (PySem.W.fnOf "_law_right" "_law_right" (defArgs s__law_right) (defBody s__law_right) (defScope s__law_right) .none kVx14 dcx14 pmx14 anx14 cdx14 ctx14), slx14⟩) (ccx14 : PySem.W.codeIn K cdx14 "_law_right" = true) (kx14 : PySem.W.keepIn K (.ref f__law_right) = true)
    {f_law : Addr} {odx15 anx15 : Option Addr} {slx15 : Array (Option Value)} {ocx15 kVx15 dcx15 pmx15 cdx15 ctx15 : Value} (ax15 : PySem.W.nsIn K mainGlobals "law" = some (some (.ref f_law))) (lx15 : K.lookup f_law = some ⟨ocx15, odx15, .func (PySem.W.fnOf "law" "law" (defArgs s_law) (defBody s_law) (defScope s_law) .none kVx15 dcx15 pmx15 anx15 cdx15 ctx15), slx15⟩) (ccx15 : PySem.W.codeIn K cdx15 "law" = true) (kx15 : PySem.W.keepIn K (.ref f_law) = true)
    (z_n_len : PySem.W.nsIn K mainGlobals "len" = some none)
    (z_n_range : PySem.W.nsIn K mainGlobals "range" = some none)
    (z_n_tuple : PySem.W.nsIn K mainGlobals "tuple" = some none)
    (z_n_isinstance : PySem.W.nsIn K mainGlobals "isinstance" = some none)
    (z_n_list : PySem.W.nsIn K mainGlobals "list" = some none)
    (z_n_int : PySem.W.nsIn K mainGlobals "int" = some none)
    (z_n_bool : PySem.W.nsIn K mainGlobals "bool" = some none)
    {t_c_MAX_STATES : Tok} (z_c_MAX_STATES : PySem.W.nsIn K mainGlobals "MAX_STATES" = some (some (.int 8 t_c_MAX_STATES)))
    {t_c_MAX_LETTERS : Tok} (z_c_MAX_LETTERS : PySem.W.nsIn K mainGlobals "MAX_LETTERS" = some (some (.int 4 t_c_MAX_LETTERS)))
    (z_n_repr : PySem.W.nsIn K mainGlobals "repr" = some none)
    (z_n_abs : PySem.W.nsIn K mainGlobals "abs" = some none) :
    ∃ fd : FuncData, (∀ (s : Shared) (v : Value), BindsTo s fd ⟨[v], []⟩ [("_law_script", v)]) ∧ ∀ base : Heap, K.In base → base.Ns mainGlobals mg → FnG l.prog w K mg base 9 fa fd ["_law_script"] (spLaw K) := by
  have e := hfa.symm.trans (PySem.W.mg_of X G ax15)
  cases e
  have T : Txt K mg := ⟨PySem.W.mg_none_of X G z_n_len, PySem.W.mg_none_of X G z_n_range, PySem.W.mg_none_of X G z_n_tuple, PySem.W.mg_none_of X G z_n_isinstance, PySem.W.mg_none_of X G z_n_list, PySem.W.mg_none_of X G z_n_int, PySem.W.mg_none_of X G z_n_bool, ⟨_, PySem.W.mg_of X G z_c_MAX_STATES⟩, ⟨_, PySem.W.mg_of X G z_c_MAX_LETTERS⟩, PySem.W.mg_none_of X G z_n_repr, PySem.W.mg_none_of X G z_n_abs⟩
  refine ⟨PySem.W.fnOf "law" "law" (defArgs s_law) (defBody s_law) (defScope s_law) .none kVx15 dcx15 pmx15 anx15 cdx15 ctx15, fun s v => .of_eq rfl, fun base _ _ => ?_⟩
  have F__law_deck := fun_mk (st := s__law_deck) lx0 ccx0 kx0
  have b__law_deck := F__law_deck.binds (ps := ["_law_script"]) fun _ _ _ _ _ _ us hl => match us, hl with | [_], _ => rfl
  have C__law_deck : Cal l.prog w K mg base 1 "_law_deck" ["_law_script"] (spDeck K) := ⟨_, _, ok__law_deck T F__law_deck , PySem.W.mg_of X G ax0, F__law_deck.kp, b__law_deck⟩
  have F__law_draw := fun_mk (st := s__law_draw) lx1 ccx1 kx1
  have b__law_draw := F__law_draw.binds (ps := ["_law_deck_here", "_law_many"]) fun _ _ _ _ _ _ us hl => match us, hl with | [_, _], _ => rfl
  have C__law_draw : Cal l.prog w K mg base 1 "_law_draw" ["_law_deck_here", "_law_many"] (spD K 2 m__law_draw) := ⟨_, _, ok__law_draw T F__law_draw , PySem.W.mg_of X G ax1, F__law_draw.kp, b__law_draw⟩
  have F__law_one := fun_mk (st := s__law_one) lx2 ccx2 kx2
  have b__law_one := F__law_one.binds (ps := ["_law_deck_here", "_law_items"]) fun _ _ _ _ _ _ us hl => match us, hl with | [_, _], _ => rfl
  have C__law_one : Cal l.prog w K mg base 2 "_law_one" ["_law_deck_here", "_law_items"] (spD K 2 m__law_one) := ⟨_, _, ok__law_one T F__law_one C__law_draw, PySem.W.mg_of X G ax2, F__law_one.kp, b__law_one⟩
  have F__law_kind := fun_mk (st := s__law_kind) lx3 ccx3 kx3
  have b__law_kind := F__law_kind.binds (ps := ["_law_deck_here", "_law_letters", "_law_many"]) fun _ _ _ _ _ _ us hl => match us, hl with | [_, _, _], _ => rfl
  have C__law_kind : Cal l.prog w K mg base 3 "_law_kind" ["_law_deck_here", "_law_letters", "_law_many"] (spD K 3 m__law_kind) := ⟨_, _, ok__law_kind T F__law_kind C__law_one C__law_draw, PySem.W.mg_of X G ax3, F__law_kind.kp, b__law_kind⟩
  have F__law_odd := fun_mk (st := s__law_odd) lx4 ccx4 kx4
  have b__law_odd := F__law_odd.binds (ps := ["_law_deck_here", "_law_many"]) fun _ _ _ _ _ _ us hl => match us, hl with | [_, _], _ => rfl
  have C__law_odd : Cal l.prog w K mg base 3 "_law_odd" ["_law_deck_here", "_law_many"] (spD K 2 m__law_odd) := ⟨_, _, ok__law_odd T F__law_odd C__law_one, PySem.W.mg_of X G ax4, F__law_odd.kp, b__law_odd⟩
  have F__law_bent := fun_mk (st := s__law_bent) lx5 ccx5 kx5
  have b__law_bent := F__law_bent.binds (ps := ["_law_deck_here", "_law_value", "_law_many", "_law_deep"]) fun _ _ _ _ _ _ us hl => match us, hl with | [_, _, _, _], _ => rfl
  have C__law_bent : Cal l.prog w K mg base 8 "_law_bent" ["_law_deck_here", "_law_value", "_law_many", "_law_deep"] (spD K 4 m__law_bent) := ⟨_, _, okr__law_bent T F__law_bent C__law_odd C__law_draw (PySem.W.mg_of X G ax5) F__law_bent.kp b__law_bent 4, PySem.W.mg_of X G ax5, F__law_bent.kp, b__law_bent⟩
  have F_is_integer := fun_mk (st := s_is_integer) lx6 ccx6 kx6
  have b_is_integer := F_is_integer.binds (ps := ["value", "least", "most"]) fun _ _ _ _ _ _ us hl => match us, hl with | [_, _, _], _ => rfl
  have C_is_integer : Cal l.prog w K mg base 1 "is_integer" ["value", "least", "most"] (spD K 3 m_is_integer) := ⟨_, _, ok_is_integer T F_is_integer , PySem.W.mg_of X G ax6, F_is_integer.kp, b_is_integer⟩
  have F_is_row := fun_mk (st := s_is_row) lx7 ccx7 kx7
  have b_is_row := F_is_row.binds (ps := ["value", "letters", "many"]) fun _ _ _ _ _ _ us hl => match us, hl with | [_, _, _], _ => rfl
  have C_is_row : Cal l.prog w K mg base 2 "is_row" ["value", "letters", "many"] (spD K 3 m_is_row) := ⟨_, _, ok_is_row T F_is_row C_is_integer, PySem.W.mg_of X G ax7, F_is_row.kp, b_is_row⟩
  have F_are_rows := fun_mk (st := s_are_rows) lx8 ccx8 kx8
  have b_are_rows := F_are_rows.binds (ps := ["value", "letters"]) fun _ _ _ _ _ _ us hl => match us, hl with | [_, _], _ => rfl
  have C_are_rows : Cal l.prog w K mg base 3 "are_rows" ["value", "letters"] (spD K 2 m_are_rows) := ⟨_, _, ok_are_rows T F_are_rows C_is_row, PySem.W.mg_of X G ax8, F_are_rows.kp, b_are_rows⟩
  have F_are_ends := fun_mk (st := s_are_ends) lx9 ccx9 kx9
  have b_are_ends := F_are_ends.binds (ps := ["value", "many"]) fun _ _ _ _ _ _ us hl => match us, hl with | [_, _], _ => rfl
  have C_are_ends : Cal l.prog w K mg base 1 "are_ends" ["value", "many"] (spD K 2 m_are_ends) := ⟨_, _, ok_are_ends T F_are_ends , PySem.W.mg_of X G ax9, F_are_ends.kp, b_are_ends⟩
  have F_kind_error := fun_mk (st := s_kind_error) lx10 ccx10 kx10
  have b_kind_error := F_kind_error.binds (ps := ["value"]) fun _ _ _ _ _ _ us hl => match us, hl with | [_], _ => rfl
  have C_kind_error : Cal l.prog w K mg base 4 "kind_error" ["value"] (spD K 1 m_kind_error) := ⟨_, _, ok_kind_error T F_kind_error C_is_integer C_are_rows C_are_ends, PySem.W.mg_of X G ax10, F_kind_error.kp, b_kind_error⟩
  have F__law_whole := fun_mk (st := s__law_whole) lx11 ccx11 kx11
  have b__law_whole := F__law_whole.binds (ps := ["_law_value", "_law_least", "_law_most"]) fun _ _ _ _ _ _ us hl => match us, hl with | [_, _, _], _ => rfl
  have C__law_whole : Cal l.prog w K mg base 1 "_law_whole" ["_law_value", "_law_least", "_law_most"] (spD K 3 m__law_whole) := ⟨_, _, ok__law_whole T F__law_whole , PySem.W.mg_of X G ax11, F__law_whole.kp, b__law_whole⟩
  have F__law_are_rows := fun_mk (st := s__law_are_rows) lx12 ccx12 kx12
  have b__law_are_rows := F__law_are_rows.binds (ps := ["_law_value", "_law_letters"]) fun _ _ _ _ _ _ us hl => match us, hl with | [_, _], _ => rfl
  have C__law_are_rows : Cal l.prog w K mg base 2 "_law_are_rows" ["_law_value", "_law_letters"] (spD K 2 m__law_are_rows) := ⟨_, _, ok__law_are_rows T F__law_are_rows C__law_whole, PySem.W.mg_of X G ax12, F__law_are_rows.kp, b__law_are_rows⟩
  have F__law_error := fun_mk (st := s__law_error) lx13 ccx13 kx13
  have b__law_error := F__law_error.binds (ps := ["_law_value"]) fun _ _ _ _ _ _ us hl => match us, hl with | [_], _ => rfl
  have C__law_error : Cal l.prog w K mg base 3 "_law_error" ["_law_value"] (spD K 1 m__law_error) := ⟨_, _, ok__law_error T F__law_error C__law_whole C__law_are_rows, PySem.W.mg_of X G ax13, F__law_error.kp, b__law_error⟩
  have F__law_right := fun_mk (st := s__law_right) lx14 ccx14 kx14
  have b__law_right := F__law_right.binds (ps := ["_law_value"]) fun _ _ _ _ _ _ us hl => match us, hl with | [_], _ => rfl
  have C__law_right : Cal l.prog w K mg base 5 "_law_right" ["_law_value"] (spD K 1 m__law_right) := ⟨_, _, ok__law_right T F__law_right C_kind_error C__law_error, PySem.W.mg_of X G ax14, F__law_right.kp, b__law_right⟩
  have F_law := fun_mk (st := s_law) lx15 ccx15 kx15
  exact ok_law T F_law C__law_deck C__law_draw C__law_kind C__law_bent C__law_odd C__law_right C_kind_error hb
end Lw

set_option Elab.async false
set_option linter.all false
set_option maxRecDepth 100000
set_option maxHeartbeats 2000000
namespace Lw
open PySem MD L2
theorem call_of {m : MF} {a : MA} {env : Sg} {st s1 s2 : S} {d : D} {ds : List D} (h1 : a env st = some (ds, s1)) (h2 : m ds s1 = some (d, s2)) : callM m a env st = some (d, s2) := by rw [v_callM, h1, Option.bind_some]; exact h2
/-! ### what is wrong with a value as a kind, plainly -/
def isIn (d : D) (lo hi : Int) : Bool := match d with
  | .int i => decide (lo ≤ i) && decide (i ≤ hi)
  | _ => false
def isRow (d : D) (l m : Int) : Bool := match d with
  | .tup ds => decide ((ds.length : Int) = l) && ds.all fun x => nonD x || isIn x 0 (m - 1)
  | _ => false
def areRows (d : D) (l : Int) : Bool := match d with
  | .tup ds => (decide ((1 : Int) ≤ ds.length) && decide ((ds.length : Int) ≤ 8)) && ds.all fun x => isRow x l ds.length
  | _ => false
def isBl : D → Bool
  | .bl _ => true
  | _ => false
def areEnds (d : D) (m : Int) : Bool := match d with
  | .tup ds => decide ((ds.length : Int) = m) && ds.all isBl
  | _ => false
def lenT : D → Int
  | .tup ds => ds.length
  | _ => 0
def toI : D → Int
  | .int i => i
  | _ => 0
def kerr : D → D
  | .tup [a, b, c] => if isIn a 1 4 = false then .str "letters" else if areRows b (toI a) = false then .str "rows" else if areEnds c (lenT b) = false then .str "ends" else .non
  | _ => .str "kind"
/-! ### the mirrors of the program -/
@[simp] theorem kb_NoneType_int : kitB "NoneType" "int" = some false := by decide +kernel
@[simp] theorem kb_bool_int : kitB "bool" "int" = some true := by decide +kernel
@[simp] theorem kb_int_int : kitB "int" "int" = some true := by decide +kernel
@[simp] theorem kb_str_int : kitB "str" "int" = some false := by decide +kernel
@[simp] theorem kb_list_int : kitB "list" "int" = some false := by decide +kernel
@[simp] theorem kb_tuple_int : kitB "tuple" "int" = some false := by decide +kernel
@[simp] theorem kb_dict_int : kitB "dict" "int" = some false := by decide +kernel
@[simp] theorem kb_NoneType_bool : kitB "NoneType" "bool" = some false := by decide +kernel
@[simp] theorem kb_bool_bool : kitB "bool" "bool" = some true := by decide +kernel
@[simp] theorem kb_int_bool : kitB "int" "bool" = some false := by decide +kernel
@[simp] theorem kb_str_bool : kitB "str" "bool" = some false := by decide +kernel
@[simp] theorem kb_list_bool : kitB "list" "bool" = some false := by decide +kernel
@[simp] theorem kb_tuple_bool : kitB "tuple" "bool" = some false := by decide +kernel
@[simp] theorem kb_dict_bool : kitB "dict" "bool" = some false := by decide +kernel
@[simp] theorem kb_NoneType_tuple : kitB "NoneType" "tuple" = some false := by decide +kernel
@[simp] theorem kb_bool_tuple : kitB "bool" "tuple" = some false := by decide +kernel
@[simp] theorem kb_int_tuple : kitB "int" "tuple" = some false := by decide +kernel
@[simp] theorem kb_str_tuple : kitB "str" "tuple" = some false := by decide +kernel
@[simp] theorem kb_list_tuple : kitB "list" "tuple" = some false := by decide +kernel
@[simp] theorem kb_tuple_tuple : kitB "tuple" "tuple" = some true := by decide +kernel
@[simp] theorem kb_dict_tuple : kitB "dict" "tuple" = some false := by decide +kernel
theorem int_ok {d : D} {n : Nat} (g : G0 d n) (lo hi : Int) (st : S) : m_is_integer [d, .int lo, .int hi] st = some (.bl (isIn d lo hi), st) := by
  have hd := g.dr st
  have hq := g.ql
  unfold m_is_integer b_is_integer
  cases d with
  | int i =>
    by_cases h : lo ≤ i <;> simp [tyD, isIn, h]
  | deck => cases hq
  | ref _ => cases hq
  | non => simp [tyD, isIn]
  | bl b => simp [tyD, isIn]
  | str x => simp [tyD, isIn]
  | lst x => simp [tyD, isIn]
  | tup x => simp [tyD, isIn]
  | dic x y => simp [tyD, isIn]
def isTup : D → Bool
  | .tup _ => true
  | _ => false
theorem ist_ok {d : D} {n : Nat} (g : G0 d n) {f : ME} {env : Sg} {st : S} (hf : f env st = some (d, st)) : isiM "tuple" f env st = some (.bl (isTup d), st) := by
  have hq := g.ql
  rw [v_isiM, hf, Option.bind_some]
  cases d with
  | deck => cases hq
  | ref _ => cases hq
  | _ => simp [tyD, isTup]
theorem isb_ok {d : D} {n : Nat} (g : G0 d n) {f : ME} {env : Sg} {st : S} (hf : f env st = some (d, st)) : isiM "bool" f env st = some (.bl (isBl d), st) := by
  have hq := g.ql
  rw [v_isiM, hf, Option.bind_some]
  cases d with
  | deck => cases hq
  | ref _ => cases hq
  | _ => simp [tyD, isBl]
theorem emp_filter {ds : List D} {P : D → Bool} : (ds.filter P).isEmpty = ds.all fun x => !P x := by
  induction ds with
  | nil => rfl
  | cons x r ih =>
    rw [List.filter_cons, List.all_cons, ← ih]
    cases P x <;> simp
/-- [x for x in value if c] == [] -/
theorem none_of (vs : List Nat) (i : Nat) (c : MT) (it : MI) (env : Sg) (st : S) (ds : List D) (P : D → Bool) (hl : ds.length ≤ 1000000) (hit : it env st = some (ds, st))
    (h : ∀ d ∈ ds, c ((wipeE env vs).set i (.val d)) st = some (P d, st)) (hi : i < (wipeE env vs).length) :
    compM it (nameT i) c (rd i) vs env st = some (ds.filter P, st) := by
  have hc := compL_pure (t := nameT i) (c := c) (f := rd i) (env := wipeE env vs) (st := st) P id ds fun d hd => ⟨_, rfl, h d hd, fun _ => by
    rw [v_rd, List.getElem?_set_self hi]; rfl⟩
  rw [v_compM, hit, Option.bind_some, grd_of hl, hc, List.map_id]
theorem opN_of (vs : List Nat) (i : Nat) (c : MT) (it : MI) (env : Sg) (st : S) (ds : List D) (P : D → Bool) (hl : ds.length ≤ 1000000) (hit : it env st = some (ds, st))
    (h : ∀ d ∈ ds, c ((wipeE env vs).set i (.val d)) st = some (P d, st)) (hi : i < (wipeE env vs).length) :
    opM eqN (frz (compM it (nameT i) c (rd i) vs)) (frz (lstM aNil)) env st = some (.bl (ds.all fun x => !P x), st) ∧
    opM neN (frz (compM it (nameT i) c (rd i) vs)) (frz (lstM aNil)) env st = some (.bl (!ds.all fun x => !P x), st) := by
  have hc := none_of vs i c it env st ds P hl hit h hi
  have hn : frz (lstM aNil) env st = some (.lst [], st) := by simp [grd_of (show 0 ≤ 1000000 by decide)]
  have hc' : frz (compM it (nameT i) c (rd i) vs) env st = some (.lst (ds.filter P), st) := by rw [v_frz, hc]; rfl
  constructor
  · rw [v_opM, hc', Option.bind_some, hn, Option.bind_some, dr_lst, dr_lst, eqN_lst, emp_filter]; rfl
  · rw [v_opM, hc', Option.bind_some, hn, Option.bind_some, dr_lst, dr_lst, neN_lst, emp_filter]; rfl
theorem Gds.len {ds : List D} {n b : Nat} (h : Gds ds n b) : ds.length ≤ b := by
  refine Nat.le_trans ?_ h.k
  clear h
  induction ds with
  | nil => exact Nat.zero_le _
  | cons x r ih =>
    show r.length + 1 ≤ bk x + 1 + bks' r
    omega
def rowC (x : D) (m : Int) : Bool := !nonD x && !isIn x 0 (m - 1)
theorem rowC_ok {is : MF} (hi : ∀ {d : D} {n : Nat}, G0 d n → ∀ (lo hi : Int) (st : S), is [d, .int lo, .int hi] st = some (.bl (isIn d lo hi), st)) {x : D} {n : Nat} (g : G0 x n) (m : Int) {fx fm : ME} {env : Sg} {st : S} (h3 : fx env st = some (x, st)) (h2 : fm env st = some (.int (m - 1), st)) :
    (andM (tstM (opM isNotM fx (cst .non))) (notM (truM (callM is (aCons fx (aCons (cst (.int 0)) (aCons fm aNil))))))) env st = some (rowC x m, st) := by
  have c1 : callM is (aCons fx (aCons (cst (.int 0)) (aCons fm aNil))) env st = some (.bl (isIn x 0 (m - 1)), st) := call_of (ds := [x, .int 0, .int (m - 1)]) (s1 := st) (by simp [h3, h2]) (hi g 0 (m - 1) st)
  generalize callM is (aCons fx (aCons (cst (.int 0)) (aCons fm aNil))) = C at c1
  unfold rowC
  cases hn : nonD x <;> simp [h3, c1, hn]
theorem all_congr' {ds : List D} {P Q : D → Bool} (h : ∀ d ∈ ds, P d = Q d) : ds.all P = ds.all Q := by
  induction ds with
  | nil => rfl
  | cons x r ih => rw [List.all_cons, List.all_cons, h x List.mem_cons_self, ih fun y hy => h y (List.mem_cons_of_mem _ hy)]
theorem row_ok {v : D} {n b : Nat} (g : Gd v n b) (hb : b ≤ 100000) (l m : Int) (st : S) : m_is_row [v, .int l, .int m] st = some (.bl (isRow v l m), st) := by
  unfold m_is_row b_is_row
  have ht := ist_ok g.g (f := rd 0) (env := [.val v, .val (.int l), .val (.int m), .un]) (st := st) rfl
  cases hv : isTup v with
  | false =>
    have hr : isRow v l m = false := by
      cases v <;> first | rfl | cases hv
    rw [hv] at ht
    generalize isiM "tuple" (rd 0) = I at ht
    simp [ht, hr]
  | true =>
    cases v with
    | tup ds =>
      obtain ⟨n', rfl, gs⟩ := g.parts
      rw [hv] at ht
      have hc := (opN_of [3] 3 (andM (tstM (opM isNotM (rd 3) (cst .non))) (notM (truM (callM m_is_integer (aCons (rd 3) (aCons (cst (.int 0)) (aCons (opM subM (rd 2) (cst (.int 1))) aNil))))))) (seqI (rd 0)) [.val (.tup ds), .val (.int l), .val (.int m), .un] st ds (fun x => rowC x m) (Nat.le_trans gs.len (by omega)) (by simp) (fun d hd => rowC_ok int_ok (gs.g d hd) m (by simp) (by simp)) (by simp)).1
      generalize isiM "tuple" (rd 0) = I at ht
      generalize (opM eqN (frz (compM (seqI (rd 0)) (nameT 3) (andM (tstM (opM isNotM (rd 3) (cst .non))) (notM (truM (callM m_is_integer (aCons (rd 3) (aCons (cst (.int 0)) (aCons (opM subM (rd 2) (cst (.int 1))) aNil))))))) (rd 3) [3])) (frz (lstM aNil))) = C at hc
      by_cases hl : (ds.length : Int) = l
      · have e : isRow (.tup ds) l m = ds.all fun x => !rowC x m := by
          show (decide ((ds.length : Int) = l) && _) = _
          rw [decide_eq_true hl, Bool.true_and]
          refine all_congr' fun d _ => ?_
          unfold rowC
          simp
        rw [e]
        simp [ht, hl, hc]
      · have e : isRow (.tup ds) l m = false := by
          show (decide ((ds.length : Int) = l) && _) = _
          rw [decide_eq_false hl, Bool.false_and]
        rw [e]
        simp [ht, hl]
    | _ => cases hv
end Lw

set_option Elab.async false
set_option linter.all false
set_option maxRecDepth 100000
set_option maxHeartbeats 2000000
namespace Lw
open PySem MD L2
theorem bk_mem {ds : List D} {d : D} (h : d ∈ ds) : bk d + 1 ≤ bks' ds := by
  induction ds with
  | nil => cases h
  | cons x r ih =>
    show bk d + 1 ≤ bk x + 1 + bks' r
    rcases List.mem_cons.mp h with z | z
    · rw [z]; omega
    · have := ih z; omega
theorem Gds.gd {ds : List D} {n b : Nat} (h : Gds ds n b) {d : D} (hd : d ∈ ds) : Gd d n b := ⟨h.g d hd, by have := bk_mem hd; have := h.k; omega⟩
theorem all_not {ds : List D} {P : D → Bool} : (ds.all fun x => !!P x) = ds.all P := all_congr' fun d _ => Bool.not_not _
theorem rows_ok {v : D} {n b : Nat} (g : Gd v n b) (hb : b ≤ 100000) (l : Int) (st : S) : m_are_rows [v, .int l] st = some (.bl (areRows v l), st) := by
  unfold m_are_rows b_are_rows
  have ht := ist_ok g.g (f := rd 0) (env := [.val v, .val (.int l), .un]) (st := st) rfl
  cases hv : isTup v with
  | false =>
    have hr : areRows v l = false := by
      cases v <;> first | rfl | cases hv
    rw [hv] at ht
    generalize isiM "tuple" (rd 0) = I at ht
    simp [ht, hr]
  | true =>
    cases v with
    | tup ds =>
      obtain ⟨n', rfl, gs⟩ := g.parts
      rw [hv] at ht
      have hc := (opN_of [2] 2 (notM (truM (callM m_is_row (aCons (rd 2) (aCons (rd 1) (aCons (cbM lenA (aCons (rd 0) aNil)) aNil)))))) (seqI (rd 0)) [.val (.tup ds), .val (.int l), .un] st ds (fun x => !isRow x l ds.length) (Nat.le_trans gs.len (by omega)) (by simp) (fun d hd => by
        have c1 : callM m_is_row (aCons (rd 2) (aCons (rd 1) (aCons (cbM lenA (aCons (rd 0) aNil)) aNil))) ((wipeE [.val (.tup ds), .val (.int l), .un] [2]).set 2 (.val d)) st = some (.bl (isRow d l ds.length), st) :=
          call_of (ds := [d, .int l, .int ds.length]) (s1 := st) (by simp) (row_ok (gs.gd hd) hb l _ st)
        generalize callM m_is_row (aCons (rd 2) (aCons (rd 1) (aCons (cbM lenA (aCons (rd 0) aNil)) aNil))) = C at c1
        simp at c1
        simp [c1]) (by simp)).1
      rw [all_not] at hc
      generalize isiM "tuple" (rd 0) = I at ht
      generalize (opM eqN (frz (compM (seqI (rd 0)) (nameT 2) (notM (truM (callM m_is_row (aCons (rd 2) (aCons (rd 1) (aCons (cbM lenA (aCons (rd 0) aNil)) aNil)))))) (rd 2) [2])) (frz (lstM aNil))) = C at hc
      by_cases h1 : (1 : Int) ≤ ds.length
      · by_cases h8 : (ds.length : Int) ≤ 8
        · have e : areRows (.tup ds) l = ds.all fun x => isRow x l ds.length := by
            show ((decide _ && decide _) && _) = _
            rw [decide_eq_true h1, decide_eq_true h8]; rfl
          rw [e]
          simp [ht, h1, h8, hc]
        · have e : areRows (.tup ds) l = false := by
            show ((decide _ && decide _) && _) = _
            rw [decide_eq_true h1, decide_eq_false h8]; rfl
          rw [e]
          simp [ht, h1, h8]
      · have e : areRows (.tup ds) l = false := by
          show ((decide _ && decide _) && _) = _
          rw [decide_eq_false h1]; rfl
        rw [e]
        simp [ht, h1]
    | _ => cases hv
theorem ends_ok {v : D} {n b : Nat} (g : Gd v n b) (hb : b ≤ 100000) (l : Int) (st : S) : m_are_ends [v, .int l] st = some (.bl (areEnds v l), st) := by
  unfold m_are_ends b_are_ends
  have ht := ist_ok g.g (f := rd 0) (env := [.val v, .val (.int l), .un]) (st := st) rfl
  cases hv : isTup v with
  | false =>
    have hr : areEnds v l = false := by
      cases v <;> first | rfl | cases hv
    rw [hv] at ht
    generalize isiM "tuple" (rd 0) = I at ht
    simp [ht, hr]
  | true =>
    cases v with
    | tup ds =>
      obtain ⟨n', rfl, gs⟩ := g.parts
      rw [hv] at ht
      have hc := (opN_of [2] 2 (notM (truM (isiM "bool" (rd 2)))) (seqI (rd 0)) [.val (.tup ds), .val (.int l), .un] st ds (fun x => !isBl x) (Nat.le_trans gs.len (by omega)) (by simp) (fun d hd => by
        have c1 := isb_ok (gs.g d hd) (f := rd 2) (env := [.val (.tup ds), .val (.int l), .val d]) (st := st) rfl
        generalize isiM "bool" (rd 2) = C at c1
        simp [c1]) (by simp)).1
      rw [all_not] at hc
      generalize isiM "tuple" (rd 0) = I at ht
      generalize (opM eqN (frz (compM (seqI (rd 0)) (nameT 2) (notM (truM (isiM "bool" (rd 2)))) (rd 2) [2])) (frz (lstM aNil))) = C at hc
      by_cases hl : (ds.length : Int) = l
      · have e : areEnds (.tup ds) l = ds.all isBl := by
          show (decide ((ds.length : Int) = l) && _) = _
          rw [decide_eq_true hl, Bool.true_and]
        rw [e]
        simp [ht, hl, hc]
      · have e : areEnds (.tup ds) l = false := by
          show (decide ((ds.length : Int) = l) && _) = _
          rw [decide_eq_false hl, Bool.false_and]
        rw [e]
        simp [ht, hl]
    | _ => cases hv
theorem isIn_int {a : D} {lo hi : Int} (h : isIn a lo hi = true) : a = .int (toI a) := by
  cases a <;> first | rfl | cases h
theorem areRows_len {b : D} {l : Int} (h : areRows b l = true) : ∃ ds, b = .tup ds ∧ lenT b = ds.length := by
  cases b with
  | tup ds => exact ⟨ds, rfl, rfl⟩
  | _ => cases h
theorem kerr_other {v : D} (h : ∀ a b c, v ≠ .tup [a, b, c]) : kerr v = .str "kind" := by
  unfold kerr
  split
  · rename_i a b c
    exact absurd rfl (h a b c)
  · rfl
theorem three_of {ds : List D} (h : (ds.length : Int) = 3) : ∃ a b c, ds = [a, b, c] := by
  match ds, h with
  | [a, b, c], _ => exact ⟨a, b, c, rfl⟩
  | [], h => simp at h
  | [_], h => simp at h
  | [_, _], h => simp at h
  | _ :: _ :: _ :: _ :: r, h => exact absurd h (by simp; omega)
theorem kerr_ok {v : D} {n b : Nat} (g : Gd v n b) (hb : b ≤ 100000) (st : S) : m_kind_error [v] st = some (kerr v, st) := by
  unfold m_kind_error b_kind_error
  have ht := ist_ok g.g (f := rd 0) (env := [.val v]) (st := st) rfl
  generalize isiM "tuple" (rd 0) = I at ht
  cases hv : isTup v with
  | false =>
    rw [hv] at ht
    rw [kerr_other (fun a b c e => by rw [e] at hv; cases hv)]
    simp [ht]
  | true =>
    cases v with
    | tup ds =>
      obtain ⟨n', rfl, gs⟩ := g.parts
      rw [hv] at ht
      by_cases h3 : (ds.length : Int) = 3
      · obtain ⟨x, y, z, rfl⟩ := three_of h3
        have c1 : callM m_is_integer (aCons (opM subD (rd 0) (cst (.int 0))) (aCons (cst (.int 1)) (aCons (cst (.int 4)) aNil))) [.val (.tup [x, y, z])] st = some (.bl (isIn x 1 4), st) :=
          call_of (ds := [x, .int 1, .int 4]) (s1 := st) (by simp) (int_ok (gs.g x (by simp)) 1 4 st)
        generalize callM m_is_integer (aCons (opM subD (rd 0) (cst (.int 0))) (aCons (cst (.int 1)) (aCons (cst (.int 4)) aNil))) = C1 at c1
        cases h1 : isIn x 1 4 with
        | false =>
          rw [h1] at c1
          simp [ht, c1, kerr, h1]
        | true =>
          rw [h1] at c1
          have hx := isIn_int h1
          have c2 : callM m_are_rows (aCons (opM subD (rd 0) (cst (.int 1))) (aCons (opM subD (rd 0) (cst (.int 0))) aNil)) [.val (.tup [x, y, z])] st = some (.bl (areRows y (toI x)), st) :=
            call_of (ds := [y, .int (toI x)]) (s1 := st) (by rw [← hx]; simp) (rows_ok (gs.gd (by simp)) hb (toI x) st)
          generalize callM m_are_rows (aCons (opM subD (rd 0) (cst (.int 1))) (aCons (opM subD (rd 0) (cst (.int 0))) aNil)) = C2 at c2
          cases h2 : areRows y (toI x) with
          | false =>
            rw [h2] at c2
            simp [ht, c1, c2, kerr, h1, h2]
          | true =>
            rw [h2] at c2
            obtain ⟨es, rfl, hl⟩ := areRows_len h2
            have c3 : callM m_are_ends (aCons (opM subD (rd 0) (cst (.int 2))) (aCons (cbM lenA (aCons (opM subD (rd 0) (cst (.int 1))) aNil)) aNil)) [.val (.tup [x, .tup es, z])] st = some (.bl (areEnds z es.length), st) :=
              call_of (ds := [z, .int es.length]) (s1 := st) (by simp) (ends_ok (gs.gd (by simp)) hb _ st)
            generalize callM m_are_ends (aCons (opM subD (rd 0) (cst (.int 2))) (aCons (cbM lenA (aCons (opM subD (rd 0) (cst (.int 1))) aNil)) aNil)) = C3 at c3
            cases h4 : areEnds z es.length with
            | false =>
              rw [h4] at c3
              simp [ht, c1, c2, c3, kerr, h1, h2, lenT, h4]
            | true =>
              rw [h4] at c3
              simp [ht, c1, c2, c3, kerr, h1, h2, lenT, h4]
      · rw [kerr_other (fun a b c e => h3 (by cases e; rfl))]
        simp [ht, h3]
    | _ => cases hv
end Lw

set_option Elab.async false
set_option linter.all false
set_option maxRecDepth 100000
set_option maxHeartbeats 2000000
namespace Lw
open PySem MD L2
theorem whole_eq : m__law_whole = m_is_integer := rfl
theorem whole_ok {d : D} {n : Nat} (g : G0 d n) (lo hi : Int) (st : S) : m__law_whole [d, .int lo, .int hi] st = some (.bl (isIn d lo hi), st) := by
  rw [whole_eq]; exact int_ok g lo hi st
noncomputable def lrB : MS := (seqM (ifS (orM (notM (truM (isiM "tuple" (rd 2)))) (tstM (opM neM (cbM lenA (aCons (rd 2) aNil)) (rd 1))))
 (retM (cst (.bl false)))
 nxM)
 (ifS (tstM (opM neN (frz (compM (seqI (rd 2)) (nameT 3) (andM (tstM (opM isNotM (rd 3) (cst .non))) (notM (truM (callM m__law_whole (aCons (rd 3) (aCons (cst (.int 0)) (aCons (opM subM (cbM lenA (aCons (rd 0) aNil)) (cst (.int 1))) aNil))))))) (rd 3) [3])) (frz (lstM aNil))))
 (retM (cst (.bl false)))
 nxM))
theorem lrB_ok {v : D} {n b : Nat} (g : Gd v n b) (hb : b ≤ 100000) (l : Int) (ds : List D) (x3 : Sl) (st : S) :
    lrB [.val (.tup ds), .val (.int l), .val v, x3] st = if isRow v l ds.length then some (.nx [.val (.tup ds), .val (.int l), .val v, x3], st) else some (.rt (.bl false), st) := by
  unfold lrB
  have ht := ist_ok g.g (f := rd 2) (env := [.val (.tup ds), .val (.int l), .val v, x3]) (st := st) rfl
  cases hv : isTup v with
  | false =>
    have hr : isRow v l ds.length = false := by
      cases v <;> first | rfl | cases hv
    rw [hv] at ht
    generalize isiM "tuple" (rd 2) = I at ht
    simp [ht, hr]
  | true =>
    cases v with
    | tup es =>
      obtain ⟨n', rfl, gs⟩ := g.parts
      rw [hv] at ht
      have hc := (opN_of [3] 3 (andM (tstM (opM isNotM (rd 3) (cst .non))) (notM (truM (callM m__law_whole (aCons (rd 3) (aCons (cst (.int 0)) (aCons (opM subM (cbM lenA (aCons (rd 0) aNil)) (cst (.int 1))) aNil))))))) (seqI (rd 2)) [.val (.tup ds), .val (.int l), .val (.tup es), x3] st es (fun x => rowC x ds.length) (Nat.le_trans gs.len (by omega)) (by simp) (fun d hd => rowC_ok whole_ok (gs.g d hd) ds.length (by simp) (by simp)) (by simp)).2
      generalize isiM "tuple" (rd 2) = I at ht
      generalize (opM neN (frz (compM (seqI (rd 2)) (nameT 3) (andM (tstM (opM isNotM (rd 3) (cst .non))) (notM (truM (callM m__law_whole (aCons (rd 3) (aCons (cst (.int 0)) (aCons (opM subM (cbM lenA (aCons (rd 0) aNil)) (cst (.int 1))) aNil))))))) (rd 3) [3])) (frz (lstM aNil))) = C at hc
      by_cases hl : (es.length : Int) = l
      · have e : isRow (.tup es) l ds.length = es.all fun x => !rowC x ds.length := by
          show (decide ((es.length : Int) = l) && _) = _
          rw [decide_eq_true hl, Bool.true_and]
          refine all_congr' fun d _ => ?_
          unfold rowC
          simp
        rw [e]
        cases ha : es.all fun x => !rowC x ds.length with
        | true => rw [ha] at hc; simp [ht, hl, hc]
        | false => rw [ha] at hc; simp [ht, hl, hc]
      · have e : isRow (.tup es) l ds.length = false := by
          show (decide ((es.length : Int) = l) && _) = _
          rw [decide_eq_false hl, Bool.false_and]
        rw [e]
        simp [ht, hl]
    | _ => cases hv
theorem lr_loop {n b : Nat} (hb : b ≤ 100000) (l : Int) (ds : List D) (x3 : Sl) (st : S) : ∀ (es : List D) (x2 : Sl), (∀ d ∈ es, Gd d n b) →
    ∃ y2, forL (nameT 2) lrB es [.val (.tup ds), .val (.int l), x2, x3] st = if es.all fun x => isRow x l ds.length then some (.nx [.val (.tup ds), .val (.int l), y2, x3], st) else some (.rt (.bl false), st)
  | [], x2, _ => ⟨x2, rfl⟩
  | e :: es, x2, h => by
    obtain ⟨y2, ih⟩ := lr_loop hb l ds x3 st es (.val e) fun d hd => h d (List.mem_cons_of_mem _ hd)
    refine ⟨y2, ?_⟩
    have e1 := lrB_ok (h e List.mem_cons_self) hb l ds x3 st
    generalize lrB = B at *
    rw [v_forL]
    show (B [.val (.tup ds), .val (.int l), .val e, x3] st).bind _ = _
    rw [e1, List.all_cons]
    cases isRow e l ds.length with
    | true => exact ih
    | false => rfl
theorem lrows_ok {v : D} {n b : Nat} (g : Gd v n b) (hb : b ≤ 100000) (l : Int) (st : S) : m__law_are_rows [v, .int l] st = some (.bl (areRows v l), st) := by
  have hbd : b__law_are_rows = (seqM (ifS (orM (notM (truM (isiM "tuple" (rd 0)))) (notM (tstM (chM leM leM (cst (.int 1)) (cbM lenA (aCons (rd 0) aNil)) (cst (.int 8))))))
    (retM (cst (.bl false))) nxM) (seqM (forM (seqI (rd 0)) (nameT 2) lrB) (retM (cst (.bl true))))) := rfl
  unfold m__law_are_rows
  rw [hbd]
  have ht := ist_ok g.g (f := rd 0) (env := [.val v, .val (.int l), .un, .un]) (st := st) rfl
  generalize isiM "tuple" (rd 0) = I at ht
  cases hv : isTup v with
  | false =>
    have hr : areRows v l = false := by
      cases v <;> first | rfl | cases hv
    rw [hv] at ht
    simp [ht, hr]
  | true =>
    cases v with
    | tup ds =>
      obtain ⟨n', rfl, gs⟩ := g.parts
      rw [hv] at ht
      obtain ⟨y2, e2⟩ := lr_loop (n := n') hb l ds .un st ds .un fun d hd => gs.gd hd
      generalize lrB = B at e2
      by_cases h1 : (1 : Int) ≤ ds.length
      · by_cases h8 : (ds.length : Int) ≤ 8
        · have e : areRows (.tup ds) l = ds.all fun x => isRow x l ds.length := by
            show ((decide _ && decide _) && _) = _
            rw [decide_eq_true h1, decide_eq_true h8]; rfl
          rw [e]
          cases ha : ds.all fun x => isRow x l ds.length with
          | true => rw [ha] at e2; simp at e2; simp [ht, h1, h8, e2]
          | false => rw [ha] at e2; simp at e2; simp [ht, h1, h8, e2]
        · have e : areRows (.tup ds) l = false := by
            show ((decide _ && decide _) && _) = _
            rw [decide_eq_true h1, decide_eq_false h8]; rfl
          rw [e]
          simp [ht, h1, h8]
      · have e : areRows (.tup ds) l = false := by
          show ((decide _ && decide _) && _) = _
          rw [decide_eq_false h1]; rfl
        rw [e]
        simp [ht, h1]
    | _ => cases hv
theorem lerr_ok {v : D} {n b : Nat} (g : Gd v n b) (hb : b ≤ 100000) (st : S) : m__law_error [v] st = some (kerr v, st) := by
  unfold m__law_error b__law_error
  have ht := ist_ok g.g (f := rd 0) (env := [.val v, .un]) (st := st) rfl
  generalize isiM "tuple" (rd 0) = I at ht
  cases hv : isTup v with
  | false =>
    rw [hv] at ht
    rw [kerr_other (fun a b c e => by rw [e] at hv; cases hv)]
    simp [ht]
  | true =>
    cases v with
    | tup ds =>
      obtain ⟨n', rfl, gs⟩ := g.parts
      rw [hv] at ht
      by_cases h3 : (ds.length : Int) = 3
      · obtain ⟨x, y, z, rfl⟩ := three_of h3
        have c1 : callM m__law_whole (aCons (opM subD (rd 0) (cst (.int 0))) (aCons (cst (.int 1)) (aCons (cst (.int 4)) aNil))) [.val (.tup [x, y, z]), .un] st = some (.bl (isIn x 1 4), st) :=
          call_of (ds := [x, .int 1, .int 4]) (s1 := st) (by simp) (whole_ok (gs.g x (by simp)) 1 4 st)
        generalize callM m__law_whole (aCons (opM subD (rd 0) (cst (.int 0))) (aCons (cst (.int 1)) (aCons (cst (.int 4)) aNil))) = C1 at c1
        cases h1 : isIn x 1 4 with
        | false =>
          rw [h1] at c1
          simp [ht, c1, kerr, h1]
        | true =>
          rw [h1] at c1
          have hx := isIn_int h1
          have c2 : callM m__law_are_rows (aCons (opM subD (rd 0) (cst (.int 1))) (aCons (opM subD (rd 0) (cst (.int 0))) aNil)) [.val (.tup [x, y, z]), .un] st = some (.bl (areRows y (toI x)), st) :=
            call_of (ds := [y, .int (toI x)]) (s1 := st) (by rw [← hx]; simp) (lrows_ok (gs.gd (by simp)) hb (toI x) st)
          generalize callM m__law_are_rows (aCons (opM subD (rd 0) (cst (.int 1))) (aCons (opM subD (rd 0) (cst (.int 0))) aNil)) = C2 at c2
          cases h2 : areRows y (toI x) with
          | false =>
            rw [h2] at c2
            simp [ht, c1, c2, kerr, h1, h2]
          | true =>
            rw [h2] at c2
            obtain ⟨es, rfl, hl⟩ := areRows_len h2
            have gz := gs.gd (d := z) (by simp)
            have ht2 := ist_ok gz.g (f := opM subD (rd 0) (cst (.int 2))) (env := [.val (.tup [x, .tup es, z]), .un]) (st := st) (by simp)
            generalize isiM "tuple" (opM subD (rd 0) (cst (.int 2))) = I2 at ht2
            cases hz : isTup z with
            | false =>
              rw [hz] at ht2
              have h4 : areEnds z es.length = false := by cases z <;> first | rfl | cases hz
              simp [ht, c1, c2, ht2, kerr, h1, h2, lenT, h4]
            | true =>
              rw [hz] at ht2
              cases z with
              | tup fs =>
                obtain ⟨n'', rfl, gf⟩ := gz.parts
                have hc := (opN_of [1] 1 (notM (truM (isiM "bool" (rd 1)))) (seqI (opM subD (rd 0) (cst (.int 2)))) [.val (.tup [x, .tup es, .tup fs]), .un] st fs (fun x => !isBl x) (Nat.le_trans gf.len (by omega)) (by simp) (fun d hd => by
                  have c1 := isb_ok (gf.g d hd) (f := rd 1) (env := [.val (.tup [x, .tup es, .tup fs]), .val d]) (st := st) rfl
                  generalize isiM "bool" (rd 1) = C at c1
                  simp [c1]) (by simp)).2
                rw [all_not] at hc
                generalize (opM neN (frz (compM (seqI (opM subD (rd 0) (cst (.int 2)))) (nameT 1) (notM (truM (isiM "bool" (rd 1)))) (rd 1) [1])) (frz (lstM aNil))) = C3 at hc
                by_cases hlen : (fs.length : Int) = es.length
                · have h4 : areEnds (.tup fs) es.length = fs.all isBl := by
                    show (decide ((fs.length : Int) = es.length) && _) = _
                    rw [decide_eq_true hlen, Bool.true_and]
                  cases ha : fs.all isBl with
                  | true => rw [ha] at hc h4; simp [ht, c1, c2, ht2, kerr, h1, h2, lenT, h4, hlen, hc]
                  | false => rw [ha] at hc h4; simp [ht, c1, c2, ht2, kerr, h1, h2, lenT, h4, hlen, hc]
                · have h4 : areEnds (.tup fs) es.length = false := by
                    show (decide ((fs.length : Int) = es.length) && _) = _
                    rw [decide_eq_false hlen, Bool.false_and]
                  simp [ht, c1, c2, ht2, kerr, h1, h2, lenT, h4, hlen]
              | _ => cases hz
      · rw [kerr_other (fun a b c e => h3 (by cases e; rfl))]
        simp [ht, h3]
    | _ => cases hv
theorem kerr_gd (v : D) : Gd (kerr v) 0 10 := by
  unfold kerr
  split
  · split
    · exact Gd.str (by decide +kernel) (by decide +kernel)
    · split
      · exact Gd.str (by decide +kernel) (by decide +kernel)
      · split
        · exact Gd.str (by decide +kernel) (by decide +kernel)
        · exact Gd.non.mono (Nat.le_refl _) (by decide)
  · exact Gd.str (by decide +kernel) (by decide +kernel)
theorem right_ok {v : D} {n b : Nat} (g : Gd v n b) (hn : n ≤ 60) (hb : b ≤ 15000) (st : S) : m__law_right [v] st = some (.bl true, st) := by
  have e1 := reprQ_gd g hn hb
  have e2 := reprQ_gd (kerr_gd v) (by decide) (by decide)
  have c1 : ∀ x, callM m_kind_error (aCons (rd 0) aNil) [.val v, x] st = some (kerr v, st) := fun x => call_of (ds := [v]) (s1 := st) (by simp) (kerr_ok g (by omega) st)
  have c2 : ∀ x, callM m__law_error (aCons (rd 0) aNil) [.val v, x] st = some (kerr v, st) := fun x => call_of (ds := [v]) (s1 := st) (by simp) (lerr_ok g (by omega) st)
  have d1 := g.g.dr st
  have d2 := (kerr_gd v).g.dr st
  unfold m__law_right b__law_right
  generalize callM m_kind_error (aCons (rd 0) aNil) = C1 at c1
  generalize callM m__law_error (aCons (rd 0) aNil) = C2 at c2
  simp [c1, c2, d1, d2, e1, e2]
end Lw

set_option Elab.async false
set_option linter.all false
set_option maxRecDepth 100000
set_option maxHeartbeats 2000000
namespace Lw
open PySem MD L2
theorem dcD : IsDraw m__law_draw := isDraw dc
/-! ### odd values -/
def odds1 (m : Nat) : List D := [.non, .bl true, .bl false, .int 0, .int 1, .int 4, .int 5, .int (-1), nD m, .int ((m : Int) - 1), .int (10 ^ 40), .str "", .str "a", .str "0", .tup [], .lst [], .dic [] [], .tup [.int 0], .lst [.int 0], .tup [.non]]
def odds2 : List D := [.tup [.bl true], .tup [.tup []], .tup [.int 0, .int 0], .tup [.int 0, .non], .str "ends", .tup [.bl false, .bl true], .int 2, .int 3, .int 8, .int 9]
theorem gi {i : Int} (h : i.natAbs < 10 ^ 44) : Gd (.int i) 2 5 := (Gd.int h).mono (by decide) (by decide)
theorem odds_gd {m : Nat} (hm : m ≤ 100) {d : D} (h : d ∈ odds1 m ++ odds2) : Gd d 2 5 := by
  have g0 : Gd (.int 0) 0 0 := Gd.int (by decide)
  simp only [odds1, odds2, List.cons_append, List.nil_append, List.mem_cons, List.mem_nil_iff, or_false] at h
  rcases h with rfl | rfl | rfl | rfl | rfl | rfl | rfl | rfl | rfl | rfl | rfl | rfl | rfl | rfl | rfl | rfl | rfl | rfl | rfl | rfl | rfl | rfl | rfl | rfl | rfl | rfl | rfl | rfl | rfl | rfl
  · exact Gd.non.mono (by decide) (by decide)
  · exact (Gd.bl _).mono (by decide) (by decide)
  · exact (Gd.bl _).mono (by decide) (by decide)
  · exact gi (by decide)
  · exact gi (by decide)
  · exact gi (by decide)
  · exact gi (by decide)
  · exact gi (by decide)
  · exact (Gd.nat (by omega)).mono (by decide) (by decide)
  · exact gi (Nat.lt_of_le_of_lt (show ((m : Int) - 1).natAbs ≤ 100 by omega) (by decide))
  · exact gi (by decide)
  · exact (Gd.str (b := 5) (by decide +kernel) (by decide +kernel)).mono (by decide) (by decide)
  · exact (Gd.str (b := 5) (by decide +kernel) (by decide +kernel)).mono (by decide) (by decide)
  · exact (Gd.str (b := 5) (by decide +kernel) (by decide +kernel)).mono (by decide) (by decide)
  · exact (Gd.tup (n := 0) (b := 0) .nil).mono (by decide) (by decide)
  · exact (Gd.lst (n := 0) (b := 0) .nil).mono (by decide) (by decide)
  · exact Gd.dic.mono (by decide) (by decide)
  · exact (Gd.tup (.cons g0 (.nil (b := 0)))).mono (by decide) (by decide)
  · exact (Gd.lst (.cons g0 (.nil (b := 0)))).mono (by decide) (by decide)
  · exact (Gd.tup (.cons Gd.non (.nil (b := 0)))).mono (by decide) (by decide)
  · exact (Gd.tup (.cons (Gd.bl _) (.nil (b := 0)))).mono (by decide) (by decide)
  · exact (Gd.tup (.cons (Gd.tup (n := 0) (b := 0) .nil) (.nil (b := 0)))).mono (by decide) (by decide)
  · exact (Gd.tup (.cons g0 (.cons g0 (.nil (b := 0))))).mono (by decide) (by decide)
  · exact (Gd.tup (.cons g0 (.cons Gd.non (.nil (b := 0))))).mono (by decide) (by decide)
  · exact (Gd.str (b := 5) (by decide +kernel) (by decide +kernel)).mono (by decide) (by decide)
  · exact (Gd.tup (.cons (Gd.bl _) (.cons (Gd.bl _) (.nil (b := 0))))).mono (by decide) (by decide)
  · exact gi (by decide)
  · exact gi (by decide)
  · exact gi (by decide)
  · exact gi (by decide)
theorem pow_10 : powM (.int 10) (.int 40) = some (.int (10 ^ 40)) := v_iIC0 (by decide)
theorem odd_yes {m : Nat} (hm : m ≤ 100) : Yes 1 (m__law_odd [.deck, nD m]) fun d => Gd d 2 5 := by
  intro st h0 hn
  obtain ⟨d, s1, e1, hd, l1, l2⟩ := one_lst dcD (ds := odds1 m ++ odds2) (by simp [odds1]) (by simp [odds1, odds2]) st h0 hn
  refine ⟨d, s1, ?_, odds_gd hm hd, l1, l2⟩
  have hb : b__law_odd = (seqM (asgM (nameT 2) (frz (lstM (aCons (cst .non) (aCons (cst (.bl true)) (aCons (cst (.bl false)) (aCons (cst (.int 0)) (aCons (cst (.int 1)) (aCons (cst (.int 4)) (aCons (cst (.int 5)) (aCons (unM (unI fun i => .int (-i)) (cst (.int 1))) (aCons (rd 1) (aCons (opM subM (rd 1) (cst (.int 1))) (aCons (opM powM (cst (.int 10)) (cst (.int 40))) (aCons (cst (.str "")) (aCons (cst (.str "a")) (aCons (cst (.str "0")) (aCons (tupM aNil) (aCons (frz (lstM aNil)) (aCons (frzK newK) (aCons (tupM (aCons (cst (.int 0)) aNil)) (aCons (frz (lstM (aCons (cst (.int 0)) aNil))) (aCons (tupM (aCons (cst .non) aNil)) aNil)))))))))))))))))))))))
   (retM (callM (oneM m__law_draw) (aCons (rd 0) (aCons (opM addM (rd 2) (frz (lstM (aCons (tupM (aCons (cst (.bl true)) aNil)) (aCons (tupM (aCons (tupM aNil) aNil)) (aCons (tupM (aCons (cst (.int 0)) (aCons (cst (.int 0)) aNil))) (aCons (tupM (aCons (cst (.int 0)) (aCons (cst .non) aNil))) (aCons (cst (.str "ends")) (aCons (tupM (aCons (cst (.bl false)) (aCons (cst (.bl true)) aNil))) (aCons (cst (.int 2)) (aCons (cst (.int 3)) (aCons (cst (.int 8)) (aCons (cst (.int 9)) aNil))))))))))))) aNil))))) := rfl
  unfold m__law_odd
  rw [hb]
  generalize oneM m__law_draw = O at e1
  have g0 := @grd_of
  simp [grd_of (show 0 ≤ 1000000 by decide), grd_of (show 1 ≤ 1000000 by decide), grd_of (show 2 ≤ 1000000 by decide), grd_of (show 10 ≤ 1000000 by decide), grd_of (show 20 ≤ 1000000 by decide), grd_of (show 30 ≤ 1000000 by decide), pow_10]
  simp [odds1, odds2] at e1
  rw [e1]
  rfl
end Lw

set_option Elab.async false
set_option linter.all false
set_option maxRecDepth 100000
set_option maxHeartbeats 2000000
namespace Lw
open PySem MD L2
theorem seq_nx {f h : MS} {env e : Sg} {st s1 : S} (hf : f env st = some (.nx e, s1)) : seqM f h env st = h e s1 := by rw [v_seqM, hf]; rfl
theorem seq_rt {f h : MS} {env : Sg} {st s1 : S} {d : D} (hf : f env st = some (.rt d, s1)) : seqM f h env st = some (.rt d, s1) := by rw [v_seqM, hf]; rfl
theorem par_nx {a : MA} {i j : Nat} {env : Sg} {st s1 : S} {d e : D} (hf : a env st = some ([d, e], s1)) : parM i j a env st = some (.nx ((env.set i (.val d)).set j (.val e)), s1) := by rw [v_parM, hf]; rfl
theorem cons_of {f : ME} {r : MA} {env : Sg} {st s1 s2 : S} {d : D} {ds : List D} (h1 : f env st = some (d, s1)) (h2 : r env s1 = some (ds, s2)) : aCons f r env st = some (d :: ds, s2) := by rw [v_aCons, h1, Option.bind_some, h2]; rfl
theorem ret_of {f : ME} {env : Sg} {st s1 : S} {d : D} (h : f env st = some (d, s1)) : retM f env st = some (.rt d, s1) := by rw [v_retM, h]; rfl
theorem run_of {n : Nat} {b : MS} {ds : List D} {st s1 : S} {d : D} (h : b (ds.map Sl.val ++ List.replicate (n - ds.length) Sl.un) st = some (.rt d, s1)) : runM n b ds st = some (d, s1) := by rw [v_runM, h]; rfl
theorem ifs_t {c : MT} {p q : MS} {env : Sg} {st s1 : S} {r : Option (Fl × S)} (hc : c env st = some (true, s1)) (hp : p env s1 = r) : ifS c p q env st = r := by rw [v_ifS, hc, Option.bind_some]; exact hp
theorem ifs_f {c : MT} {p q : MS} {env : Sg} {st s1 : S} {r : Option (Fl × S)} (hc : c env st = some (false, s1)) (hp : q env s1 = r) : ifS c p q env st = r := by rw [v_ifS, hc, Option.bind_some]; exact hp
theorem add_tup {f h : ME} {env : Sg} {st s1 s2 : S} {xs ys : List D} (h1 : f env st = some (.tup xs, s1)) (h2 : h env s1 = some (.tup ys, s2)) (hl : xs.length + ys.length ≤ 1000000) : opM addM f h env st = some (.tup (xs ++ ys), s2) := by
  rw [v_opM, h1, Option.bind_some, h2, Option.bind_some, dr_tup, dr_tup, v_addT, grd_of hl]; rfl
theorem tup1 {f : ME} {env : Sg} {st s1 : S} {d : D} (h : f env st = some (d, s1)) : tupM (aCons f aNil) env st = some (.tup [d], s1) := by
  rw [v_tupM, cons_of h v_aNil, Option.bind_some]
  exact grd_of (show 1 ≤ 1000000 by decide)
theorem cutD_one {ds : List D} {i : Nat} (h : i < ds.length) : cutD ds (some ((i : Nat) : Int)) (some ((i : Nat) + 1 : Int)) = (ds.drop i).take 1 := by
  unfold cutD
  rw [sIx_some (by omega) (by omega), sIx_some (by omega) (by omega)]
  have h1 : ((i : Nat) : Int).toNat = i := by omega
  have h2 : ((i : Nat) + 1 : Int).toNat = i + 1 := by omega
  rw [h1, h2]
  have : i + 1 - i = 1 := by omega
  rw [this]
section
variable {ds : List D} {i : Nat} {m k : Nat} {x0 x5 : Sl}
theorem sl_to (h : i < ds.length) (s : S) : slM slAny (rd 1) noP (prt (rd 4)) [x0, .val (.tup ds), .val (nD m), .val (nD k), .val (nD i), x5] s = some (.tup (ds.take i), s) := by
  have := cutD_to (ds := ds) (n := ((i : Nat) : Int)) (by omega) (by omega)
  simp [this]
theorem sl_from1 (h : i < ds.length) (s : S) : slM slAny (rd 1) (prt (opM addM (rd 4) (cst (.int 1)))) noP [x0, .val (.tup ds), .val (nD m), .val (nD k), .val (nD i), x5] s = some (.tup (ds.drop (i + 1)), s) := by
  have := cutD_from (ds := ds) (n := ((i : Nat) : Int) + 1) (by omega) (by omega)
  have h2 : ((i : Nat) + 1 : Int).toNat = i + 1 := by omega
  rw [h2] at this
  simp [this]
theorem sl_from (h : i < ds.length) (s : S) : slM slAny (rd 1) (prt (rd 4)) noP [x0, .val (.tup ds), .val (nD m), .val (nD k), .val (nD i), x5] s = some (.tup (ds.drop i), s) := by
  have := cutD_from (ds := ds) (n := ((i : Nat) : Int)) (by omega) (by omega)
  simp [this]
theorem sl_one (h : i < ds.length) (s : S) : slM slAny (rd 1) (prt (rd 4)) (prt (opM addM (rd 4) (cst (.int 1)))) [x0, .val (.tup ds), .val (nD m), .val (nD k), .val (nD i), x5] s = some (.tup ((ds.drop i).take 1), s) := by
  have := cutD_one h
  simp [this]
end
theorem split3 {ds : List D} {i : Nat} {x : D} (h : ds[i]? = some x) : ds.drop i = x :: ds.drop (i + 1) ∧ bks' ds = bks' (ds.take i) + (bk x + 1) + bks' (ds.drop (i + 1)) := by
  obtain ⟨hi, e⟩ := List.getElem?_eq_some_iff.mp h
  have h1 : ds.drop i = x :: ds.drop (i + 1) := by rw [List.drop_eq_getElem_cons hi, e]
  refine ⟨h1, ?_⟩
  have h2 := bks_split ds i
  rw [h1] at h2
  have h3 : bks' (x :: ds.drop (i + 1)) = bk x + 1 + bks' (ds.drop (i + 1)) := rfl
  omega
theorem bent_tail {rec : MF} {m k : Nat} (hm : m ≤ 100) {ds : List D} {n b : Nat} (gs : Gds ds n b) (hb : b ≤ 1000) {i : Nat} {x : D} (hx : ds[i]? = some x) {w : Nat} {c : Nat} (x0 : Sl) (hx0 : x0 = .val .deck)
    (hr : Yes c (rec [.deck, x, nD m, nD k]) fun d => Gd d (n + 3) (2 * bk x + 10)) :
    Yes (c + 1) ((seqM (ifS (tstM (opM eqM (rd 5) (cst (.int 0))))
     (retM (opM addM (slM slAny (rd 1) noP (prt (rd 4))) (slM slAny (rd 1) (prt (opM addM (rd 4) (cst (.int 1)))) noP)))
     nxM)
     (seqM (ifS (tstM (opM eqM (rd 5) (cst (.int 1))))
     (retM (opM addM (opM addM (slM slAny (rd 1) noP (prt (rd 4))) (slM slAny (rd 1) (prt (rd 4)) (prt (opM addM (rd 4) (cst (.int 1)))))) (slM slAny (rd 1) (prt (rd 4)) noP)))
     nxM)
     (seqM (ifS (tstM (opM eqM (rd 5) (cst (.int 2))))
     (retM (frz (listM (aCons (rd 1) aNil))))
     nxM)
     (seqM (ifS (tstM (opM eqM (rd 5) (cst (.int 3))))
     (retM (opM addM (opM addM (slM slAny (rd 1) noP (prt (rd 4))) (tupM (aCons (callM m__law_odd (aCons (rd 0) (aCons (rd 2) aNil))) aNil))) (slM slAny (rd 1) (prt (opM addM (rd 4) (cst (.int 1)))) noP)))
     nxM)
     (retM (opM addM (opM addM (slM slAny (rd 1) noP (prt (rd 4))) (tupM (aCons (callM rec (aCons (rd 0) (aCons (opM subD (rd 1) (rd 4)) (aCons (rd 2) (aCons (opM subM (rd 3) (cst (.int 1))) aNil))))) aNil))) (slM slAny (rd 1) (prt (opM addM (rd 4) (cst (.int 1)))) noP))))))) [x0, .val (.tup ds), .val (nD m), .val (nD (k + 1)), .val (nD i), .val (nD w)])
    fun fl => ∃ d, fl = .rt d ∧ Gd d (n + 4) (2 * b + 10) := by
  subst hx0
  obtain ⟨hi, _⟩ := List.getElem?_eq_some_iff.mp hx
  obtain ⟨hd, hs⟩ := split3 hx
  have hbk := gs.k
  have hlen := gs.len
  have gx : G0 x n := gs.g x (List.mem_of_getElem? hx)
  have gt : Gds (ds.take i) n (bks' (ds.take i)) := ⟨fun d hd => gs.g d (List.mem_of_mem_take hd), Nat.le_refl _⟩
  have gd : Gds (ds.drop (i + 1)) n (bks' (ds.drop (i + 1))) := ⟨fun d hd => gs.g d (List.mem_of_mem_drop hd), Nat.le_refl _⟩
  have hlt : (ds.take i).length ≤ 1000 := by rw [List.length_take]; omega
  have hld : (ds.drop (i + 1)).length ≤ 1000 := by rw [List.length_drop]; omega
  have tst : ∀ (j : Nat) (s : S), (tstM (opM eqM (rd 5) (cst (.int ((j : Nat) : Int))))) [.val .deck, .val (.tup ds), .val (nD m), .val (nD (k + 1)), .val (nD i), .val (nD w)] s = some (decide (w = j), s) := fun j s => by
    simp
    omega
  intro st h0 hn
  by_cases w0 : w = 0
  · refine ⟨.rt (.tup (ds.take i ++ ds.drop (i + 1))), st, ?_, ⟨_, rfl, (Gd.tup (gt.app gd)).mono (by omega) (by omega)⟩, by omega, by omega⟩
    refine seq_rt (ifs_t ((tst 0 st).trans (by rw [decide_eq_true w0])) (ret_of ?_))
    exact add_tup (sl_to hi st) (sl_from1 hi st) (by omega)
  have t0 : (tstM (opM eqM (rd 5) (cst (.int 0)))) [.val .deck, .val (.tup ds), .val (nD m), .val (nD (k + 1)), .val (nD i), .val (nD w)] st = some (false, st) := (tst 0 st).trans (by rw [decide_eq_false w0])
  by_cases w1 : w = 1
  · refine ⟨.rt (.tup (ds.take i ++ (ds.drop i).take 1 ++ ds.drop i)), st, ?_, ⟨_, rfl, ?_⟩, by omega, by omega⟩
    · rw [seq_nx (ifs_f t0 v_nxM)]
      refine seq_rt (ifs_t ((tst 1 st).trans (by rw [decide_eq_true w1])) (ret_of ?_))
      refine add_tup (add_tup (sl_to hi st) (sl_one hi st) ?_) (sl_from hi st) ?_
      · rw [List.length_take (l := ds.drop i)]; omega
      · rw [List.length_append, List.length_take (l := ds.drop i), List.length_drop]; omega
    · rw [hd]
      have gx1 : Gds [x] n (bk x + 1) := Gds.cons (c := 0) ⟨gx, Nat.le_refl _⟩ .nil
      have gx2 : Gds (x :: ds.drop (i + 1)) n (bk x + 1 + bks' (ds.drop (i + 1))) := Gds.cons ⟨gx, Nat.le_refl _⟩ gd
      exact (Gd.tup ((gt.app gx1).app gx2)).mono (by omega) (by omega)
  have t1 : (tstM (opM eqM (rd 5) (cst (.int 1)))) [.val .deck, .val (.tup ds), .val (nD m), .val (nD (k + 1)), .val (nD i), .val (nD w)] st = some (false, st) := (tst 1 st).trans (by rw [decide_eq_false w1])
  by_cases w2 : w = 2
  · refine ⟨.rt (.lst ds), st, ?_, ⟨_, rfl, (Gd.lst gs).mono (by omega) (by omega)⟩, by omega, by omega⟩
    rw [seq_nx (ifs_f t0 v_nxM), seq_nx (ifs_f t1 v_nxM)]
    refine seq_rt (ifs_t ((tst 2 st).trans (by rw [decide_eq_true w2])) (ret_of ?_))
    simp
  have t2 : (tstM (opM eqM (rd 5) (cst (.int 2)))) [.val .deck, .val (.tup ds), .val (nD m), .val (nD (k + 1)), .val (nD i), .val (nD w)] st = some (false, st) := (tst 2 st).trans (by rw [decide_eq_false w2])
  by_cases w3 : w = 3
  · obtain ⟨o, s1, e1, go, l1, l2⟩ := odd_yes hm st h0 (by omega)
    have c1 : callM m__law_odd (aCons (rd 0) (aCons (rd 2) aNil)) [.val .deck, .val (.tup ds), .val (nD m), .val (nD (k + 1)), .val (nD i), .val (nD w)] st = some (o, s1) := call_of (ds := [.deck, nD m]) (s1 := st) (by simp) e1
    refine ⟨.rt (.tup (ds.take i ++ [o] ++ ds.drop (i + 1))), s1, ?_, ⟨_, rfl, ?_⟩, by omega, by omega⟩
    · rw [seq_nx (ifs_f t0 v_nxM), seq_nx (ifs_f t1 v_nxM), seq_nx (ifs_f t2 v_nxM)]
      refine seq_rt (ifs_t ((tst 3 st).trans (by rw [decide_eq_true w3])) (ret_of ?_))
      refine add_tup (add_tup (sl_to hi st) (tup1 c1) ?_) (sl_from1 hi s1) ?_
      · simp only [List.length_cons, List.length_nil]; omega
      · rw [List.length_append]; simp only [List.length_cons, List.length_nil]; omega
    · have gx1 : Gds [o] (n + 2) (5 + 1) := Gds.cons (c := 0) (go.mono (by omega) (Nat.le_refl _)) .nil
      exact (Gd.tup (((gt.mono (by omega) (Nat.le_refl _)).app gx1).app (gd.mono (by omega) (Nat.le_refl _)))).mono (by omega) (by omega)
  have t3 : (tstM (opM eqM (rd 5) (cst (.int 3)))) [.val .deck, .val (.tup ds), .val (nD m), .val (nD (k + 1)), .val (nD i), .val (nD w)] st = some (false, st) := (tst 3 st).trans (by rw [decide_eq_false w3])
  obtain ⟨o, s1, e1, go, l1, l2⟩ := hr st h0 (by omega)
  have ek : ((k + 1 : Nat) : Int) - 1 = ((k : Nat) : Int) := by omega
  have hxi : L2.atI ds ((i : Nat) : Int) = some x := atI_of hx
  have c1 : callM rec (aCons (rd 0) (aCons (opM subD (rd 1) (rd 4)) (aCons (rd 2) (aCons (opM subM (rd 3) (cst (.int 1))) aNil)))) [.val .deck, .val (.tup ds), .val (nD m), .val (nD (k + 1)), .val (nD i), .val (nD w)] st = some (o, s1) := call_of (ds := [.deck, x, nD m, nD k]) (s1 := st) (by
    simp only [v_aCons, v_rd, v_aNil, v_opM, v_cst, Option.bind_some, Option.map_some, dr_tup, dr_int, v_subT, v_ixT, hxi, List.getElem?_cons_succ, List.getElem?_cons_zero, v_iI, ek]) e1
  refine ⟨.rt (.tup (ds.take i ++ [o] ++ ds.drop (i + 1))), s1, ?_, ⟨_, rfl, ?_⟩, by omega, by omega⟩
  · rw [seq_nx (ifs_f t0 v_nxM), seq_nx (ifs_f t1 v_nxM), seq_nx (ifs_f t2 v_nxM), seq_nx (ifs_f t3 v_nxM)]
    refine ret_of ?_
    refine add_tup (add_tup (sl_to hi st) (tup1 c1) ?_) (sl_from1 hi s1) ?_
    · simp only [List.length_cons, List.length_nil]; omega
    · rw [List.length_append]; simp only [List.length_cons, List.length_nil]; omega
  · have gx1 : Gds [o] (n + 3) (2 * bk x + 10 + 1) := Gds.cons (c := 0) go .nil
    exact (Gd.tup (((gt.mono (by omega) (Nat.le_refl _)).app gx1).app (gd.mono (by omega) (Nat.le_refl _)))).mono (by omega) (by omega)
end Lw

set_option Elab.async false
set_option linter.all false
set_option maxRecDepth 100000
set_option maxHeartbeats 2000000
namespace Lw
open PySem MD L2
def leaf : D → Bool
  | .tup ds => ds.isEmpty
  | _ => true
theorem bt_cond {v : D} {n : Nat} (g : G0 v n) {m k : Nat} {x4 x5 : Sl} {st : S} :
    (orM (tstM (opM eqM (rd 3) (cst (.int 0)))) (orM (notM (truM (isiM "tuple" (rd 1)))) (tstM (opM eqN (rd 1) (tupM aNil))))) [.val .deck, .val v, .val (nD m), .val (nD k), x4, x5] st
      = some (decide (k = 0) || leaf v, st) := by
  have ht := ist_ok g (f := rd 1) (env := [.val .deck, .val v, .val (nD m), .val (nD k), x4, x5]) (st := st) rfl
  generalize isiM "tuple" (rd 1) = I at ht
  by_cases hk : k = 0
  · simp [hk]
  · have hk' : ¬ ((k : Nat) : Int) = 0 := by omega
    cases v with
    | tup ds =>
      have e : isTup (.tup ds) = true := rfl
      rw [e] at ht
      simp [hk, hk', ht, grd_of (show 0 ≤ 1000000 by decide), eqN_tup, leaf]
    | _ =>
      simp only [isTup] at ht
      simp [hk, hk', ht, leaf]
theorem bent_yes {m : Nat} (hm : m ≤ 100) : ∀ (k : Nat) {v : D} {n b : Nat}, Gd v n b → b ≤ 1000 → Yes (3 * k + 1) (mr__law_bent (k + 1) [.deck, v, nD m, nD k]) fun d => Gd d (n + 3) (2 * b + 10) := by
  intro k
  induction k with
  | zero =>
    intro v n b g hb st h0 hn
    obtain ⟨o, s1, e1, go, l1, l2⟩ := odd_yes hm st h0 (by omega)
    refine ⟨o, s1, ?_, go.mono (by omega) (by omega), by omega, by omega⟩
    have c1 : callM m__law_odd (aCons (rd 0) (aCons (rd 2) aNil)) [.val .deck, .val v, .val (nD m), .val (nD 0), .un, .un] st = some (o, s1) := call_of (ds := [.deck, nD m]) (s1 := st) (by simp) e1
    have hc := bt_cond g.g (m := m) (k := 0) (x4 := .un) (x5 := .un) (st := st)
    have hz : (decide ((0 : Nat) = 0) || leaf v) = true := by simp
    rw [hz] at hc
    show runM 6 (b__law_bent (mr__law_bent 0)) _ st = _
    refine run_of ?_
    unfold b__law_bent
    exact seq_rt (ifs_t hc (ret_of c1))
  | succ k ih =>
    intro v n b g hb st h0 hn
    have hc := bt_cond g.g (m := m) (k := k + 1) (x4 := .un) (x5 := .un) (st := st)
    have hz : decide (k + 1 = 0) = false := by simp
    rw [hz, Bool.false_or] at hc
    show ∃ a st', runM 6 (b__law_bent (mr__law_bent (k + 1))) _ st = _ ∧ _
    cases he : leaf v with
    | true =>
      rw [he] at hc
      obtain ⟨o, s1, e1, go, l1, l2⟩ := odd_yes hm st h0 (by omega)
      have c1 : callM m__law_odd (aCons (rd 0) (aCons (rd 2) aNil)) [.val .deck, .val v, .val (nD m), .val (nD (k + 1)), .un, .un] st = some (o, s1) := call_of (ds := [.deck, nD m]) (s1 := st) (by simp) e1
      refine ⟨o, s1, ?_, go.mono (by omega) (by omega), by omega, by omega⟩
      refine run_of ?_
      unfold b__law_bent
      exact seq_rt (ifs_t hc (ret_of c1))
    | false =>
      rw [he] at hc
      cases v with
      | tup ds =>
        have hne : ds ≠ [] := fun z => by rw [z] at he; cases he
        have hpos : 0 < ds.length := List.length_pos_iff.mpr hne
        obtain ⟨n', rfl, gs⟩ := g.parts
        have hlen := gs.len
        obtain ⟨_, s1, e1, ⟨i, rfl, hi⟩, l1, l2⟩ := dcD.yes (m := ds.length) hpos (by omega) st h0 (by omega)
        obtain ⟨_, s2, e2, ⟨w, rfl, hw⟩, l3, l4⟩ := dcD.yes (m := 10) (by decide) (by decide) s1 (by omega) (by omega)
        have c1 : callM m__law_draw (aCons (rd 0) (aCons (cbM lenA (aCons (rd 1) aNil)) aNil)) [.val .deck, .val (.tup ds), .val (nD m), .val (nD (k + 1)), .un, .un] st = some (nD i, s1) := call_of (ds := [.deck, .int ds.length]) (s1 := st) (by simp) e1
        have c2 : callM m__law_draw (aCons (rd 0) (aCons (cst (.int 10)) aNil)) [.val .deck, .val (.tup ds), .val (nD m), .val (nD (k + 1)), .un, .un] s1 = some (nD w, s2) := call_of (ds := [.deck, .int 10]) (s1 := s1) (by simp) e2
        obtain ⟨x, hx⟩ : ∃ x, ds[i]? = some x := ⟨ds[i], List.getElem?_eq_getElem hi⟩
        have gx : Gd x n' (bk x) := ⟨gs.g x (List.mem_of_getElem? hx), Nat.le_refl _⟩
        have hbx := bk_mem (List.mem_of_getElem? hx)
        have hk := gs.k
        obtain ⟨_, s3, e3, ⟨d, rfl, gd⟩, l5, l6⟩ := bent_tail hm gs hb hx (w := w) (.val .deck) rfl (ih gx (by omega)) s2 (by omega) (by omega)
        refine ⟨d, s3, ?_, gd.mono (by omega) (Nat.le_refl _), by omega, by omega⟩
        refine run_of ?_
        unfold b__law_bent
        rw [show ([D.deck, .tup ds, nD m, nD (k + 1)].map Sl.val ++ List.replicate (6 - [D.deck, .tup ds, nD m, nD (k + 1)].length) Sl.un) = [.val .deck, .val (.tup ds), .val (nD m), .val (nD (k + 1)), .un, .un] from rfl]
        rw [seq_nx (ifs_f hc v_nxM)]
        rw [seq_nx (e := [.val .deck, .val (.tup ds), .val (nD m), .val (nD (k + 1)), .val (nD i), .val (nD w)]) (par_nx (cons_of c1 (cons_of c2 v_aNil)))]
        exact e3
      | _ => cases he
end Lw

set_option Elab.async false
set_option linter.all false
set_option maxRecDepth 100000
set_option maxHeartbeats 2000000
namespace Lw
open PySem MD L2
section
variable {α : Type} (a b c : D)
theorem cut12 : cutD [a, b, c] (some 1) (some 2) = [b] := rfl
theorem cut_2 : cutD [a, b, c] none (some 2) = [a, b] := rfl
theorem cut_1 : cutD [a, b, c] none (some 1) = [a] := rfl
theorem cut1_ : cutD [a, b, c] (some 1) none = [b, c] := rfl
theorem cut2_ : cutD [a, b, c] (some 2) none = [c] := rfl
end
def enI (b : Bool) : D := .int (if b then 1 else 0)
theorem int1_bl (b : Bool) : int1M [.bl b] = some (enI b) := rfl
/-- the values grow -/
structure Vs (vs : List D) : Prop where
  g : ∀ d ∈ vs, Gd d 20 5000
  l : vs.length ≤ 100
theorem add_lst {f h : ME} {env : Sg} {st s1 s2 : S} {xs ys : List D} (h1 : f env st = some (.lst xs, s1)) (h2 : h env s1 = some (.lst ys, s2)) (hl : xs.length + ys.length ≤ 1000000) : opM addM f h env st = some (.lst (xs ++ ys), s2) := by
  rw [v_opM, h1, Option.bind_some, h2, Option.bind_some, dr_lst, dr_lst, v_addL, grd_of hl]; rfl
theorem lst_of {a : MA} {env : Sg} {st s1 : S} {ds : List D} (h : a env st = some (ds, s1)) (hl : ds.length ≤ 1000000) : frz (lstM a) env st = some (.lst ds, s1) := by
  rw [v_frz, v_lstM, h, Option.bind_some, grd_of hl]; rfl
noncomputable def v2E : ME := (frz (lstM (aCons (opM addM (opM addM (tupM (aCons (rd 3) aNil)) (slM slAny (rd 5) (prt (cst (.int 1))) (prt (cst (.int 2))))) (tupM (aCons (cbM tupleM (aCons (frz (compM (seqI (opM subD (rd 5) (cst (.int 2)))) (nameT 10) yesM (cbM int1M (aCons (rd 10) aNil)) [10])) aNil)) aNil))) (aCons (slM slAny (rd 5) noP (prt (cst (.int 2)))) aNil))))
theorem en_comp (env : Sg) (st : S) (hl : 10 < env.length) : ∀ bs : List Bool, compL (nameT 10) yesM (cbM int1M (aCons (rd 10) aNil)) env (bs.map D.bl) st = some (bs.map enI, st) := by
  intro bs
  have h := compL_map (t := nameT 10) (f := cbM int1M (aCons (rd 10) aNil)) (env := env) (st := st) (fun d => match d with | .bl b => enI b | _ => .non) (bs.map D.bl) fun d hd => by
    obtain ⟨b, _, rfl⟩ := List.mem_map.mp hd
    refine ⟨_, rfl, ?_⟩
    simp [List.getElem?_set_self hl, int1_bl]
  rw [h, List.map_map]
  rfl
theorem v2_ok {kd : Kd} (ok : kd.Ok) (x0 x1 x2 x4 x6 x7 x8 x9 x10 x11 : Sl) (st : S) :
    v2E [x0, x1, x2, .val (nD kd.k), x4, .val (tK kd), x6, x7, x8, x9, x10, x11] st = some (.lst [.tup [nD kd.k, .tup (kd.rows.map rowD), .tup (kd.ends.map enI)], .tup [nD kd.k, .tup (kd.rows.map rowD)]], st) := by
  have m8 := ok.m8
  have me := ok.me
  have hc := en_comp [x0, x1, x2, .val (nD kd.k), x4, .val (tK kd), x6, x7, x8, x9, .un, x11] st (by simp) kd.ends
  have hl : kd.ends.length ≤ 1000000 := by omega
  unfold v2E
  generalize (cbM int1M (aCons (rd 10) aNil)) = C at hc
  simp [cut12, cut_2, grd_of (show 1 ≤ 1000000 by decide), grd_of (show 2 ≤ 1000000 by decide), grd_of (show 3 ≤ 1000000 by decide), grd_of hl, hc]
noncomputable def v3E : ME := (frz (compM (seqI (frz (lstM (aCons (cst (.int 0)) (aCons (cst (.int 5)) (aCons (cst (.bl true)) (aCons (cst .non) (aCons (cst (.str "2")) (aCons (cst (.int 4)) (aCons (unM (unI fun i => .int (-i)) (cst (.int 1))) aNil)))))))))) (nameT 11) yesM (opM addM (tupM (aCons (rd 11) aNil)) (slM slAny (rd 5) (prt (cst (.int 1))) noP)) [11]))
def lets7 : List D := [.int 0, .int 5, .bl true, .non, .str "2", .int 4, .int (-1)]
theorem v3_ok {a b c : D} (x0 x1 x2 x3 x4 x6 x7 x8 x9 x10 x11 : Sl) (st : S) :
    v3E [x0, x1, x2, x3, x4, .val (.tup [a, b, c]), x6, x7, x8, x9, x10, x11] st = some (.lst (lets7.map fun d => .tup [d, b, c]), st) := by
  have h := compL_map (t := nameT 11) (f := (opM addM (tupM (aCons (rd 11) aNil)) (slM slAny (rd 5) (prt (cst (.int 1))) noP))) (env := [x0, x1, x2, x3, x4, .val (.tup [a, b, c]), x6, x7, x8, x9, x10, .un]) (st := st) (fun d => .tup [d, b, c]) lets7 fun d hd => by
    refine ⟨_, rfl, ?_⟩
    simp [cut1_, grd_of (show 1 ≤ 1000000 by decide), grd_of (show 3 ≤ 1000000 by decide)]
  unfold v3E
  generalize (opM addM (tupM (aCons (rd 11) aNil)) (slM slAny (rd 5) (prt (cst (.int 1))) noP)) = C at h
  simp [grd_of (show 7 ≤ 1000000 by decide)]
  rw [show [D.int 0, .int 5, .bl true, .non, .str "2", .int 4, .int (-1)] = lets7 from rfl, h]
  all_goals rfl
noncomputable def v4E : ME := (frz (lstM (aCons (opM addM (tupM (aCons (opM addM (cst (.int 1)) (opM modM (rd 3) (cst (.int 4)))) aNil)) (slM slAny (rd 5) (prt (cst (.int 1))) noP)) (aCons (opM addM (opM addM (slM slAny (rd 5) noP (prt (cst (.int 1)))) (tupM (aCons (tupM aNil) aNil))) (slM slAny (rd 5) (prt (cst (.int 2))) noP)) (aCons (tupM (aCons (rd 3) (aCons (tupM aNil) (aCons (tupM aNil) aNil)))) aNil)))))
theorem v4_ok {a b c : D} (k : Nat) (x0 x1 x2 x4 x6 x7 x8 x9 x10 x11 : Sl) (st : S) :
    v4E [x0, x1, x2, .val (nD k), x4, .val (.tup [a, b, c]), x6, x7, x8, x9, x10, x11] st = some (.lst [.tup [.int (1 + (k : Int) % 4), b, c], .tup [a, .tup [], c], .tup [nD k, .tup [], .tup []]], st) := by
  have h1 : modM (.int ((k : Nat) : Int)) (.int 4) = some (.int ((k : Int) % 4)) := v_iIC0 (by decide)
  unfold v4E
  simp [h1, cut1_, cut_1, cut2_, grd_of (show 0 ≤ 1000000 by decide), grd_of (show 1 ≤ 1000000 by decide), grd_of (show 2 ≤ 1000000 by decide), grd_of (show 3 ≤ 1000000 by decide)]
/-! the loop -/
noncomputable def rtB : MS := (ifS (notM (truM (callM m__law_right (aCons (rd 8) aNil)))) (retM (cst (.bl false))) nxM)
theorem rt_loop (x0 x1 x2 x3 x4 x5 x6 x7 x9 x10 x11 : Sl) (st : S) : ∀ (vs : List D) (x8 : Sl), (∀ d ∈ vs, Gd d 20 5000) →
    ∃ y8, forL (nameT 8) rtB vs [x0, x1, x2, x3, x4, x5, x6, x7, x8, x9, x10, x11] st = some (.nx [x0, x1, x2, x3, x4, x5, x6, x7, y8, x9, x10, x11], st)
  | [], x8, _ => ⟨x8, rfl⟩
  | v :: vs, x8, h => by
    obtain ⟨y8, ih⟩ := rt_loop x0 x1 x2 x3 x4 x5 x6 x7 x9 x10 x11 st vs (.val v) fun d hd => h d (List.mem_cons_of_mem _ hd)
    refine ⟨y8, ?_⟩
    have c1 : callM m__law_right (aCons (rd 8) aNil) [x0, x1, x2, x3, x4, x5, x6, x7, .val v, x9, x10, x11] st = some (.bl true, st) := call_of (ds := [v]) (s1 := st) (by simp) (right_ok (h v List.mem_cons_self) (by decide) (by decide) st)
    have e1 : rtB [x0, x1, x2, x3, x4, x5, x6, x7, .val v, x9, x10, x11] st = some (.nx [x0, x1, x2, x3, x4, x5, x6, x7, .val v, x9, x10, x11], st) := by
      unfold rtB
      generalize callM m__law_right (aCons (rd 8) aNil) = C at c1
      simp [c1]
    generalize rtB = B at *
    rw [v_forL]
    show (B [x0, x1, x2, x3, x4, x5, x6, x7, .val v, x9, x10, x11] st).bind _ = _
    rw [e1]
    exact ih
theorem gd_tK {kd : Kd} (ok : kd.Ok) : Gd (tK kd) 3 63 := by
  have k4 := ok.k4
  exact Gd.tup (.cons ((Gd.nat (n := kd.k) (by omega)).mono (Nat.zero_le _) (Nat.le_refl _)) (.cons (Gd.tup (gd_rows ok)) (.cons ((Gd.tup (gd_ends ok)).mono (by decide) (Nat.le_refl _)) (.nil (b := 0)))))
theorem gd3 {a b c : D} {n x y z : Nat} (ha : Gd a n x) (hb : Gd b n y) (hc : Gd c n z) (hn : n ≤ 10) (hx : x + y + z ≤ 4000) : Gd (.tup [a, b, c]) 20 5000 := (Gd.tup (.cons ha (.cons hb (.cons hc (.nil (b := 0)))))).mono (by omega) (by omega)
theorem gr {kd : Kd} (ok : kd.Ok) : Gd (.tup (kd.rows.map rowD)) 2 50 := Gd.tup (gd_rows ok)
theorem ge {kd : Kd} (ok : kd.Ok) : Gd (.tup (kd.ends.map D.bl)) 2 50 := (Gd.tup (gd_ends ok)).mono (by decide) (by decide)
theorem gk {kd : Kd} (ok : kd.Ok) : Gd (nD kd.k) 2 50 := (Gd.nat (n := kd.k) (by have := ok.k4; omega)).mono (by decide) (by decide)
theorem gz : Gd (.tup []) 2 50 := (Gd.tup (n := 0) (b := 0) .nil).mono (by decide) (by decide)
theorem gI {kd : Kd} (ok : kd.Ok) : Gd (.tup (kd.ends.map enI)) 2 50 := by
  have m8 := ok.m8
  have := Gds.all (ds := kd.ends.map enI) (n := 0) (b := 0) fun d hd => by
    obtain ⟨c, _, rfl⟩ := List.mem_map.mp hd
    cases c <;> exact Gd.int (by decide)
  rw [List.length_map, ok.me] at this
  exact (Gd.tup this).mono (by decide) (by omega)
theorem lets_gd {d : D} (h : d ∈ lets7) : Gd d 2 50 := by
  simp only [lets7, List.mem_cons, List.mem_nil_iff, or_false] at h
  rcases h with rfl | rfl | rfl | rfl | rfl | rfl | rfl
  · exact (Gd.int (by decide)).mono (by decide) (by decide)
  · exact (Gd.int (by decide)).mono (by decide) (by decide)
  · exact (Gd.bl _).mono (by decide) (by decide)
  · exact Gd.non.mono (by decide) (by decide)
  · exact (Gd.str (b := 5) (by decide +kernel) (by decide +kernel)).mono (by decide) (by decide)
  · exact (Gd.int (by decide)).mono (by decide) (by decide)
  · exact (Gd.int (by decide)).mono (by decide) (by decide)
end Lw

set_option Elab.async false
set_option linter.all false
set_option maxRecDepth 100000
set_option maxHeartbeats 2000000
namespace Lw
open PySem MD L2
theorem asg_nx {f : ME} {i : Nat} {env : Sg} {st s1 : S} {d : D} (hf : f env st = some (d, s1)) : asgM (nameT i) f env st = some (.nx (env.set i (.val d)), s1) := by rw [v_asgM, hf]; rfl
theorem for_of {f : ME} {i : Nat} {b : MS} {env : Sg} {st s1 : S} {ds : List D} {r : Option (Fl × S)} (h1 : f env st = some (.lst ds, s1)) (h2 : forL (nameT i) b ds env s1 = r) : forM (seqI f) (nameT i) b env st = r := by
  rw [v_forM, v_seqI, h1]; exact h2
noncomputable def qN (n : Int) : ME := opM addM (cst (.int 1)) (callM m__law_draw (aCons (rd 1) (aCons (cst (.int n)) aNil)))
theorem qN_yes {n : Nat} (h0 : 0 < n) (h1 : n ≤ 1000) (e : Sg) (h : e[1]? = some (.val .deck)) : Yes 1 (qN ((n : Nat) : Int) e) fun d => ∃ k : Nat, d = nD k ∧ 1 ≤ k ∧ k ≤ n := by
  intro st z0 hn
  obtain ⟨_, s1, e1, ⟨r, rfl, hr⟩, l1, l2⟩ := dcD.yes (m := n) h0 (by omega) st z0 hn
  refine ⟨nD (1 + r), s1, ?_, ⟨_, rfl, by omega, by omega⟩, l1, l2⟩
  have c1 : callM m__law_draw (aCons (rd 1) (aCons (cst (.int ((n : Nat) : Int))) aNil)) e st = some (.int ((r : Nat) : Int), s1) := call_of (ds := [.deck, .int ((n : Nat) : Int)]) (s1 := st) (by simp [h]) e1
  unfold qN
  generalize callM m__law_draw (aCons (rd 1) (aCons (cst (.int ((n : Nat) : Int))) aNil)) = C at c1
  simp [c1]
noncomputable def v1A : MA := (aCons (rd 5) (aCons (rd 6) (aCons (callM m__law_bent (aCons (rd 1) (aCons (rd 6) (aCons (rd 4) (aCons (cst (.int 3)) aNil))))) (aCons (callM m__law_odd (aCons (rd 1) (aCons (rd 4) aNil))) (aCons (frz (listM (aCons (rd 5) aNil))) (aCons (opM addM (rd 5) (tupM (aCons (cst (.int 1)) aNil))) aNil))))))
noncomputable def lT : MS := (seqM (parM 3 4 (aCons (qN 4) (aCons (qN 9) aNil)))
 (seqM (asgM (nameT 5) (callM m__law_kind (aCons (rd 1) (aCons (rd 3) (aCons (rd 4) aNil)))))
 (seqM (asgM (nameT 6) (callM m__law_bent (aCons (rd 1) (aCons (rd 5) (aCons (rd 4) (aCons (cst (.int 3)) aNil))))))
 (seqM (asgM (nameT 7) (frz (lstM v1A)))
 (seqM (asgM (nameT 7) (opM addM (rd 7) v2E))
 (seqM (asgM (nameT 7) (opM addM (rd 7) v3E))
 (seqM (asgM (nameT 7) (opM addM (rd 7) v4E))
 (forM (seqI (rd 7)) (nameT 8) rtB))))))))
structure LI (env : Sg) : Prop where
  ex : ∃ x0 x2 x3 x4 x5 x6 x7 x8 x9 x10 x11, env = [x0, .val .deck, x2, x3, x4, x5, x6, x7, x8, x9, x10, x11]
theorem lT_yes (env : Sg) (hI : LI env) (d : D) : ∃ e, nameT 2 d env = some e ∧ Yes 200 (lT e) fun fl => ∃ e', fl = .nx e' ∧ LI e' := by
  obtain ⟨x0, x2, x3, x4, x5, x6, x7, x8, x9, x10, x11, rfl⟩ := hI.ex
  refine ⟨_, rfl, ?_⟩
  rw [show ([x0, Sl.val .deck, x2, x3, x4, x5, x6, x7, x8, x9, x10, x11].set 2 (.val d)) = [x0, .val .deck, .val d, x3, x4, x5, x6, x7, x8, x9, x10, x11] from rfl]
  intro st h0 hn
  obtain ⟨_, s1, e1, ⟨k, rfl, k0, k4⟩, l1, l2⟩ := qN_yes (n := 4) (by decide) (by decide) [x0, .val .deck, .val d, x3, x4, x5, x6, x7, x8, x9, x10, x11] rfl st h0 (by omega)
  obtain ⟨_, s2, e2, ⟨m, rfl, m0, m9⟩, l3, l4⟩ := qN_yes (n := 9) (by decide) (by decide) [x0, .val .deck, .val d, x3, x4, x5, x6, x7, x8, x9, x10, x11] rfl s1 (by omega) (by omega)
  obtain ⟨_, s3, e3, ⟨kd, rfl, ok, rfl, rfl⟩, l5, l6⟩ := kd_yes dcD k0 k4 m0 m9 s2 (by omega) (by omega)
  have c3 : callM m__law_kind (aCons (rd 1) (aCons (rd 3) (aCons (rd 4) aNil))) [x0, .val .deck, .val d, .val (nD kd.k), .val (nD kd.rows.length), x5, x6, x7, x8, x9, x10, x11] s2 = some (tK kd, s3) := call_of (ds := [.deck, nD kd.k, nD kd.rows.length]) (s1 := s2) (by simp) e3
  have m8 := ok.m8
  have gK := gd_tK ok
  obtain ⟨b1, s4, e4, g1, l7, l8⟩ := bent_yes (m := kd.rows.length) (by omega) 3 gK (by decide) s3 (by omega) (by omega)
  have c4 : callM m__law_bent (aCons (rd 1) (aCons (rd 5) (aCons (rd 4) (aCons (cst (.int 3)) aNil)))) [x0, .val .deck, .val d, .val (nD kd.k), .val (nD kd.rows.length), .val (tK kd), x6, x7, x8, x9, x10, x11] s3 = some (b1, s4) := call_of (ds := [.deck, tK kd, nD kd.rows.length, nD 3]) (s1 := s3) (by simp) e4
  obtain ⟨b2, s5, e5, g2, l9, l10⟩ := bent_yes (m := kd.rows.length) (by omega) 3 g1 (by decide) s4 (by omega) (by omega)
  have c5 : callM m__law_bent (aCons (rd 1) (aCons (rd 6) (aCons (rd 4) (aCons (cst (.int 3)) aNil)))) [x0, .val .deck, .val d, .val (nD kd.k), .val (nD kd.rows.length), .val (tK kd), .val b1, x7, x8, x9, x10, x11] s4 = some (b2, s5) := call_of (ds := [.deck, b1, nD kd.rows.length, nD 3]) (s1 := s4) (by simp) e5
  obtain ⟨o, s6, e6, g3, l11, l12⟩ := odd_yes (m := kd.rows.length) (by omega) s5 (by omega) (by omega)
  have c6 : callM m__law_odd (aCons (rd 1) (aCons (rd 4) aNil)) [x0, .val .deck, .val d, .val (nD kd.k), .val (nD kd.rows.length), .val (tK kd), .val b1, x7, x8, x9, x10, x11] s5 = some (o, s6) := call_of (ds := [.deck, nD kd.rows.length]) (s1 := s5) (by simp) e6
  obtain ⟨vs1, hvs1⟩ : ∃ vs1 : List D, vs1 = [tK kd, b1, b2, o, .lst [nD kd.k, .tup (kd.rows.map rowD), .tup (kd.ends.map D.bl)], .tup [nD kd.k, .tup (kd.rows.map rowD), .tup (kd.ends.map D.bl), .int 1]] := ⟨_, rfl⟩
  have h1 : frz (lstM v1A) [x0, .val .deck, .val d, .val (nD kd.k), .val (nD kd.rows.length), .val (tK kd), .val b1, x7, x8, x9, x10, x11] s4 = some (.lst vs1, s6) := by
    rw [hvs1]
    refine lst_of (cons_of (s1 := s4) (by simp) (cons_of (s1 := s4) (by simp) (cons_of c5 (cons_of c6 (cons_of (s1 := s6) ?_ (cons_of (s1 := s6) ?_ v_aNil)))))) (by simp)
    · simp
    · simp [grd_of (show 1 ≤ 1000000 by decide), grd_of (show 4 ≤ 1000000 by decide)]
  have V1 : ∀ v ∈ vs1, Gd v 20 5000 := by
    rw [hvs1]
    intro v hv
    simp only [List.mem_cons, List.mem_nil_iff, or_false] at hv
    rcases hv with rfl | rfl | rfl | rfl | rfl | rfl
    · exact gK.mono (by decide) (by decide)
    · exact g1.mono (by decide) (by decide)
    · exact g2.mono (by decide) (by decide)
    · exact g3.mono (by decide) (by decide)
    · exact (Gd.lst (.cons (gk ok) (.cons (gr ok) (.cons (ge ok) (.nil (b := 0)))))).mono (by decide) (by decide)
    · exact (Gd.tup (.cons (gk ok) (.cons (gr ok) (.cons (ge ok) (.cons ((Gd.int (i := 1) (by decide)).mono (by decide) (Nat.le_refl _)) (.nil (b := 0))))))).mono (by decide) (by decide)
  have L1 : vs1.length = 6 := by rw [hvs1]; rfl
  have h2 := add_lst (xs := vs1) (s1 := s6) (f := rd 7) (h := v2E) (env := [x0, .val .deck, .val d, .val (nD kd.k), .val (nD kd.rows.length), .val (tK kd), .val b1, .val (.lst vs1), x8, x9, x10, x11]) (st := s6) (by simp) (v2_ok ok x0 (.val .deck) (.val d) (.val (nD kd.rows.length)) (.val b1) (.val (.lst vs1)) x8 x9 x10 x11 s6) (by rw [L1]; simp)
  generalize hvs2 : vs1 ++ [D.tup [nD kd.k, .tup (kd.rows.map rowD), .tup (kd.ends.map enI)], .tup [nD kd.k, .tup (kd.rows.map rowD)]] = vs2 at h2
  have V2 : ∀ v ∈ vs2, Gd v 20 5000 := by
    rw [← hvs2]
    intro v hv
    rcases List.mem_append.mp hv with z | z
    · exact V1 v z
    · simp only [List.mem_cons, List.mem_nil_iff, or_false] at z
      rcases z with rfl | rfl
      · exact gd3 (gk ok) (gr ok) (gI ok) (by decide) (by decide)
      · exact (Gd.tup (.cons (gk ok) (.cons (gr ok) (.nil (b := 0))))).mono (by decide) (by decide)
  have L2 : vs2.length = 8 := by rw [← hvs2, List.length_append, L1]; rfl
  have h3 := add_lst (xs := vs2) (s1 := s6) (f := rd 7) (h := v3E) (env := [x0, .val .deck, .val d, .val (nD kd.k), .val (nD kd.rows.length), .val (tK kd), .val b1, .val (.lst vs2), x8, x9, x10, x11]) (st := s6) (by simp) (v3_ok x0 (.val .deck) (.val d) (.val (nD kd.k)) (.val (nD kd.rows.length)) (.val b1) (.val (.lst vs2)) x8 x9 x10 x11 s6) (by rw [L2]; simp [lets7])
  generalize hvs3 : vs2 ++ (lets7.map fun d => D.tup [d, .tup (kd.rows.map rowD), .tup (kd.ends.map D.bl)]) = vs3 at h3
  have V3 : ∀ v ∈ vs3, Gd v 20 5000 := by
    rw [← hvs3]
    intro v hv
    rcases List.mem_append.mp hv with z | z
    · exact V2 v z
    · obtain ⟨d, hd, rfl⟩ := List.mem_map.mp z
      exact gd3 (lets_gd hd) (gr ok) (ge ok) (by decide) (by decide)
  have L3 : vs3.length = 15 := by rw [← hvs3, List.length_append, L2]; rfl
  have h4 := add_lst (xs := vs3) (s1 := s6) (f := rd 7) (h := v4E) (env := [x0, .val .deck, .val d, .val (nD kd.k), .val (nD kd.rows.length), .val (tK kd), .val b1, .val (.lst vs3), x8, x9, x10, x11]) (st := s6) (by simp) (v4_ok kd.k x0 (.val .deck) (.val d) (.val (nD kd.rows.length)) (.val b1) (.val (.lst vs3)) x8 x9 x10 x11 s6) (by rw [L3]; simp)
  generalize hvs4 : vs3 ++ [D.tup [.int (1 + (kd.k : Int) % 4), .tup (kd.rows.map rowD), .tup (kd.ends.map D.bl)], .tup [D.int (kd.k : Nat), .tup [], .tup (kd.ends.map D.bl)], .tup [nD kd.k, .tup [], .tup []]] = vs4 at h4
  have V4 : ∀ v ∈ vs4, Gd v 20 5000 := by
    rw [← hvs4]
    intro v hv
    rcases List.mem_append.mp hv with z | z
    · exact V3 v z
    · simp only [List.mem_cons, List.mem_nil_iff, or_false] at z
      rcases z with rfl | rfl | rfl
      · exact gd3 ((Gd.int (Nat.lt_of_le_of_lt (show (1 + (kd.k : Int) % 4).natAbs ≤ 10 by omega) (by decide))).mono (by decide) (Nat.le_refl _)) (gr ok) (ge ok) (by decide) (by decide)
      · exact gd3 (gk ok) gz (ge ok) (by decide) (by decide)
      · exact gd3 (gk ok) gz gz (by decide) (by decide)
  obtain ⟨y8, h5⟩ := rt_loop x0 (.val .deck) (.val d) (.val (nD kd.k)) (.val (nD kd.rows.length)) (.val (tK kd)) (.val b1) (.val (.lst vs4)) x9 x10 x11 s6 vs4 x8 V4
  refine ⟨_, s6, ?_, ⟨_, rfl, ⟨x0, .val d, .val (nD kd.k), .val (nD kd.rows.length), .val (tK kd), .val b1, .val (.lst vs4), y8, x9, x10, x11, rfl⟩⟩, by omega, by omega⟩
  unfold lT
  rw [seq_nx (e := [x0, .val .deck, .val d, .val (nD kd.k), .val (nD kd.rows.length), x5, x6, x7, x8, x9, x10, x11]) (par_nx (cons_of e1 (cons_of e2 v_aNil)))]
  rw [seq_nx (e := [x0, .val .deck, .val d, .val (nD kd.k), .val (nD kd.rows.length), .val (tK kd), x6, x7, x8, x9, x10, x11]) (asg_nx c3)]
  rw [seq_nx (e := [x0, .val .deck, .val d, .val (nD kd.k), .val (nD kd.rows.length), .val (tK kd), .val b1, x7, x8, x9, x10, x11]) (asg_nx c4)]
  rw [seq_nx (e := [x0, .val .deck, .val d, .val (nD kd.k), .val (nD kd.rows.length), .val (tK kd), .val b1, .val (.lst vs1), x8, x9, x10, x11]) (asg_nx h1)]
  rw [seq_nx (e := [x0, .val .deck, .val d, .val (nD kd.k), .val (nD kd.rows.length), .val (tK kd), .val b1, .val (.lst vs2), x8, x9, x10, x11]) (asg_nx h2)]
  rw [seq_nx (e := [x0, .val .deck, .val d, .val (nD kd.k), .val (nD kd.rows.length), .val (tK kd), .val b1, .val (.lst vs3), x8, x9, x10, x11]) (asg_nx h3)]
  rw [seq_nx (e := [x0, .val .deck, .val d, .val (nD kd.k), .val (nD kd.rows.length), .val (tK kd), .val b1, .val (.lst vs4), x8, x9, x10, x11]) (asg_nx h4)]
  exact for_of (s1 := s6) (by simp) h5
/-! ### the last lines -/
def nine (m : Nat) : D := .tup [.int 1, .tup (List.replicate m (.tup [.int 0])), .tup (List.replicate m (.bl true))]
theorem nine_gd {m : Nat} (hm : m ≤ 9) : Gd (nine m) 20 5000 := by
  have h1 : Gd (.tup (List.replicate m (.tup [.int 0]))) 2 50 := by
    have := Gds.all (ds := List.replicate m (D.tup [.int 0])) (n := 1) (b := 1) fun d hd => by
      rw [(List.mem_replicate.mp hd).2]
      exact Gd.tup (.cons (Gd.int (by decide)) (.nil (b := 0)))
    rw [List.length_replicate] at this
    exact (Gd.tup this).mono (by decide) (by omega)
  have h2 : Gd (.tup (List.replicate m (.bl true))) 2 50 := by
    have := Gds.all (ds := List.replicate m (D.bl true)) (n := 0) (b := 0) fun d hd => by
      rw [(List.mem_replicate.mp hd).2]
      exact Gd.bl _
    rw [List.length_replicate] at this
    exact (Gd.tup this).mono (by decide) (by omega)
  exact gd3 ((Gd.int (i := 1) (by decide)).mono (by decide) (Nat.le_refl _)) h1 h2 (by decide) (by decide)
theorem mul_one (x : D) (m : Nat) (h : m ≤ 1000) : mulA (.tup [x]) (.int ((m : Nat) : Int)) = some (.tup (List.replicate m x)) := by
  have h1 : [x].length ≤ 1000 ∧ -1000 ≤ ((m : Nat) : Int) ∧ ((m : Nat) : Int) ≤ 1000 := ⟨by simp, by omega, by omega⟩
  show (if _ then _ else _) = _
  rw [if_pos h1]
  simp
noncomputable def lE1 : ME := (frz (compM (seqI (frz (lstM (aCons (cst (.int 8)) (aCons (cst (.int 9)) aNil))))) (nameT 4) yesM (tupM (aCons (cst (.int 1)) (aCons (opM mulA (tupM (aCons (tupM (aCons (cst (.int 0)) aNil)) aNil)) (rd 4)) (aCons (opM mulA (tupM (aCons (cst (.bl true)) aNil)) (rd 4)) aNil)))) [4]))
theorem lE1_ok (x0 x1 x2 x3 x4 x5 x6 x7 x8 x9 x10 x11 : Sl) (st : S) : lE1 [x0, x1, x2, x3, x4, x5, x6, x7, x8, x9, x10, x11] st = some (.lst [nine 8, nine 9], st) := by
  have a1 := mul_one (.tup [.int 0]) 8 (by decide)
  have a2 := mul_one (.bl true) 8 (by decide)
  have a3 := mul_one (.tup [.int 0]) 9 (by decide)
  have a4 := mul_one (.bl true) 9 (by decide)
  have n8 : ((8 : Nat) : Int) = 8 := rfl
  have n9 : ((9 : Nat) : Int) = 9 := rfl
  rw [n8] at a1 a2
  rw [n9] at a3 a4
  unfold lE1
  simp [grd_of (show 1 ≤ 1000000 by decide), grd_of (show 2 ≤ 1000000 by decide), grd_of (show 3 ≤ 1000000 by decide), v_compL, a1, a2, a3, a4, nine]
noncomputable def lE2 : ME := (opM eqM (cbM reprQ (aCons (frz (compM (seqI (rd 9)) (nameT 8) yesM (callM m_kind_error (aCons (rd 8) aNil)) [8])) aNil)) (cbM reprQ (aCons (frz (lstM (aCons (cst .non) (aCons (cst (.str "rows")) aNil)))) aNil)))
theorem lE2_ok (x0 x1 x2 x3 x4 x5 x6 x7 x8 x10 x11 : Sl) (st : S) : lE2 [x0, x1, x2, x3, x4, x5, x6, x7, x8, .val (.lst [nine 8, nine 9]), x10, x11] st = some (.bl true, st) := by
  have c1 : callM m_kind_error (aCons (rd 8) aNil) [x0, x1, x2, x3, x4, x5, x6, x7, .val (nine 8), .val (.lst [nine 8, nine 9]), x10, x11] st = some (kerr (nine 8), st) := call_of (ds := [nine 8]) (s1 := st) (by simp) (kerr_ok (nine_gd (by decide)) (by decide) st)
  have c2 : callM m_kind_error (aCons (rd 8) aNil) [x0, x1, x2, x3, x4, x5, x6, x7, .val (nine 9), .val (.lst [nine 8, nine 9]), x10, x11] st = some (kerr (nine 9), st) := call_of (ds := [nine 9]) (s1 := st) (by simp) (kerr_ok (nine_gd (by decide)) (by decide) st)
  have k8 : kerr (nine 8) = .non := rfl
  have k9 : kerr (nine 9) = .str "rows" := rfl
  rw [k8] at c1
  rw [k9] at c2
  have hr := reprQ_gd (d := .lst [.non, .str "rows"]) (Gd.lst (.cons Gd.non (.cons (Gd.str (b := 5) (by decide +kernel) (by decide +kernel)) (.nil (b := 0))))) (by decide) (by decide)
  generalize (D.lst [.non, .str "rows"]).qy.shown = T at hr
  unfold lE2
  generalize callM m_kind_error (aCons (rd 8) aNil) = C at c1 c2
  simp [grd_of (show 2 ≤ 1000000 by decide), v_compL, c1, c2, hr]
theorem law_holds : ∀ ns : List Int, ns.length ≤ 63 → ∃ s1, b_law (env0 12) ⟨ns.map absI, 0, []⟩ = some (.rt (.bl true), s1) := by
  intro ns _
  have hF := forL_yes (t := nameT 2) (b := lT) (k := 200) (I := LI) (rngD 0 12) (env0 12) ⟨.un, .un, .un, .un, .un, .un, .un, .un, .un, .un, .un, rfl⟩ fun d hd e hI => lT_yes e hI d
  obtain ⟨fl, s1, e1, ⟨ee, rfl, hI⟩, _, _⟩ := hF ⟨ns.map absI, 0, []⟩ (Int.le_refl _) (by rw [rngD_len]; show (0 : Int) + _ ≤ nMax; unfold nMax; omega)
  obtain ⟨x0, x2, x3, x4, x5, x6, x7, x8, x9, x10, x11, rfl⟩ := hI.ex
  refine ⟨s1, ?_⟩
  have hb : b_law = seqM (forM (r1M (aCons (cst (.int 12)) aNil)) (nameT 2) lT) (seqM (asgM (nameT 9) lE1) (retM lE2)) := rfl
  have hr : rng1 [.int 12] = some (rngD 0 12) := rng_of (k := 12) (by decide)
  rw [hb]
  generalize lT = B at e1
  have e2 : forM (r1M (aCons (cst (.int 12)) aNil)) (nameT 2) B (env0 12) ⟨ns.map absI, 0, []⟩ = some (.nx [x0, .val .deck, x2, x3, x4, x5, x6, x7, x8, x9, x10, x11], s1) := by
    rw [v_forM, v_r1M, v_aCons]
    simp only [v_cst, v_aNil, Option.bind_some, Option.map_some, hr]
    exact e1
  rw [seq_nx e2]
  rw [seq_nx (e := [x0, .val .deck, x2, x3, x4, x5, x6, x7, x8, .val (.lst [nine 8, nine 9]), x10, x11]) (asg_nx (lE1_ok x0 (.val .deck) x2 x3 x4 x5 x6 x7 x8 x9 x10 x11 s1))]
  exact ret_of (lE2_ok x0 (.val .deck) x2 x3 x4 x5 x6 x7 x8 x10 x11 s1)
end Lw

open PySem PySem.W PyProof.Rows
set_option maxHeartbeats 0 in
theorem PySem.Challenge.cw_unitlimits_k21_kinds_with_errors_holds : PySem.Challenge.rw_unitlimits_k21_kinds_with_errors.Holds := by
  w_on; o_law; k_head; (case hw => w_witness2)
  k_fill
  refine MD.walkG (l := PySem.Challenge.rw_unitlimits_k21_kinds_with_errors) (n := 63) (k := 9) (x := "_law_script") rfl (by decide) rfl ⟨rfl, by decide, by decide⟩ (fun w h Y => PySem.W.kIn_of Y) ?F
  case F =>
    intro w mg fa h KX G hmg
    refine' Lw.all_mk Lw.law_holds KX G hmg ?ax0 ?lx0 ?ccx0 ?kx0 ?ax1 ?lx1 ?ccx1 ?kx1 ?ax2 ?lx2 ?ccx2 ?kx2 ?ax3 ?lx3 ?ccx3 ?kx3 ?ax4 ?lx4 ?ccx4 ?kx4 ?ax5 ?lx5 ?ccx5 ?kx5 ?ax6 ?lx6 ?ccx6 ?kx6 ?ax7 ?lx7 ?ccx7 ?kx7 ?ax8 ?lx8 ?ccx8 ?kx8 ?ax9 ?lx9 ?ccx9 ?kx9 ?ax10 ?lx10 ?ccx10 ?kx10 ?ax11 ?lx11 ?ccx11 ?kx11 ?ax12 ?lx12 ?ccx12 ?kx12 ?ax13 ?lx13 ?ccx13 ?kx13 ?ax14 ?lx14 ?ccx14 ?kx14 ?ax15 ?lx15 ?ccx15 ?kx15 ?z_n_len ?z_n_range ?z_n_tuple ?z_n_isinstance ?z_n_list ?z_n_int ?z_n_bool ?z_c_MAX_STATES ?z_c_MAX_LETTERS ?z_n_repr ?z_n_abs
    (case ax0 => k_is); (case lx0 => k_is); (case ccx0 => k_is); (case kx0 => k_is); (case ax1 => k_is); (case lx1 => k_is); (case ccx1 => k_is); (case kx1 => k_is); (case ax2 => k_is); (case lx2 => k_is); (case ccx2 => k_is); (case kx2 => k_is); (case ax3 => k_is); (case lx3 => k_is); (case ccx3 => k_is); (case kx3 => k_is); (case ax4 => k_is); (case lx4 => k_is); (case ccx4 => k_is); (case kx4 => k_is); (case ax5 => k_is); (case lx5 => k_is); (case ccx5 => k_is); (case kx5 => k_is); (case ax6 => k_is); (case lx6 => k_is); (case ccx6 => k_is); (case kx6 => k_is); (case ax7 => k_is); (case lx7 => k_is); (case ccx7 => k_is); (case kx7 => k_is); (case ax8 => k_is); (case lx8 => k_is); (case ccx8 => k_is); (case kx8 => k_is); (case ax9 => k_is); (case lx9 => k_is); (case ccx9 => k_is); (case kx9 => k_is); (case ax10 => k_is); (case lx10 => k_is); (case ccx10 => k_is); (case kx10 => k_is); (case ax11 => k_is); (case lx11 => k_is); (case ccx11 => k_is); (case kx11 => k_is); (case ax12 => k_is); (case lx12 => k_is); (case ccx12 => k_is); (case kx12 => k_is); (case ax13 => k_is); (case lx13 => k_is); (case ccx13 => k_is); (case kx13 => k_is); (case ax14 => k_is); (case lx14 => k_is); (case ccx14 => k_is); (case kx14 => k_is); (case ax15 => k_is); (case lx15 => k_is); (case ccx15 => k_is); (case kx15 => k_is); (case z_n_len => k_is); (case z_n_range => k_is); (case z_n_tuple => k_is); (case z_n_isinstance => k_is); (case z_n_list => k_is); (case z_n_int => k_is); (case z_n_bool => k_is); (case z_c_MAX_STATES => k_is); (case z_c_MAX_LETTERS => k_is); (case z_n_repr => k_is); (case z_n_abs => k_is)

