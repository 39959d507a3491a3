import PyProof.Rows.All
import Wide.All
import OpenK.AllK
import Wide.FinOn
import HandS.ForMost
import HandS.Replace
import HandS.TupAny
import HandS.RaiseMore
import PyProof.TupleOfStr
import KE.GoesMore
import KE.KDictKeyed
import HandS.ForDict
import HandS.More
import HandS.DictComp
import HandS.TupMul
import HandS.IsInst
import HandS.Style
import KE.LtData
import HandS.Conv
import PyProof.ReprRoads
import PySem.Challenge.RW_unitlimits_k40_words_that_cannot_be_part
set_option Elab.async false
set_option linter.all false
set_option maxRecDepth 100000
set_option maxHeartbeats 1000000
namespace MD
open PySem L2

/-! plain data, slots, the deck's state, the store -/
inductive D where
  | non | bl (b : Bool) | int (i : Int) | str (s : Str) | lst (xs : List D) | tup (xs : List D) | deck
  | dic (ks : List Key) (xs : List D) | ref (n : Nat)
/-! keys without texts, nested -/
mutual
def nkOf : D → Option NestedKey
  | .non => some .none
  | .bl b => some (.num (if b = true then 1 else 0))
  | .int i => some (.num i)
  | .tup ds => (nksOf ds).map .tup
  | .str _ => none
  | .lst _ => none
  | .deck => none
  | .dic _ _ => none
  | .ref _ => none
def nksOf : List D → Option (List NestedKey)
  | [] => some []
  | d :: ds => (nkOf d).bind fun k => (nksOf ds).map (k :: ·)
end
def nent (w : World) (z : NestedKey × Addr × Value) : DictEntry := ⟨z.1.hash w, .ref z.2.1, z.2.2⟩
/-- at a stands a dict with these keys, tuples at these addresses, and values -/
def NkAt (a : Addr) (zs : List (NestedKey × Addr × Value)) (h : Heap) : Prop :=
  (a == sysModules) = false ∧ zs.length ≤ sizeLine ∧ ∃ o es ep, h.get? a = some o ∧ o.ExactDict ∧ o.data = .dict es ep ∧ ∀ w : World, es.toList = zs.map (nent w)
/-- things that change and are known to many: by their number -/
inductive Ob where
  | lst (xs : List D) | dic (lk : Bool) (ks : List Key) (xs : List D) | ins (c : Str) (fs : List Str) (xs : List D) | nkd (ks : List D) (xs : List D)
structure S where
  cells : List Int
  n : Int
  ob : List Ob
/-- what a name alone holds and may change: a list, a dict with these keys -/
inductive Ow where
  | lst | dic (ks : List Key)
def Ow.At (H : Hp) (p : Addr) : Ow → List V → Prop
  | .lst, vs => H p = some (.lst vs)
  | .dic ks, vs => H p = some (.dK (ks.zip vs)) ∧ ks.length = vs.length
theorem Ow.At.some {H : Hp} {p : Addr} : ∀ {w : Ow} {vs : List V}, w.At H p vs → ∃ o, H p = some o
  | .lst, _, h => ⟨_, h⟩
  | .dic _, _, h => ⟨_, h.1⟩
/-- an own thing is not locked -/
theorem Ow.At.keep {H H' : Hp} {p : Addr} (e : ∀ o, H p = Option.some o → H' p = Option.some o) : ∀ {w : Ow} {vs : List V}, w.At H p vs → w.At H' p vs
  | .lst, _, h => e _ h
  | .dic _, _, h => ⟨e _ h.1, h.2⟩
abbrev Own := Ow × List D
inductive Sl where
  | un | val (d : D) | own (xs : Own)
abbrev Sg := List Sl
abbrev Dk := Addr × Addr
abbrev Fg := PySem.W.Frag
/-- the frozen things, and where the store's things stand -/
structure Fz where
  hp : Hp
  mu : List Addr
instance : CoeFun Fz fun _ => Hp := ⟨Fz.hp⟩
def Fz.up (F : Fz) (p : Addr) (o : HO) : Fz := ⟨upd F.hp p o, F.mu⟩
def Fz.out (F : Fz) (p : Addr) : Prop := F.hp p = none ∧ p ∉ F.mu
theorem Fz.up_same {F : Fz} {p : Addr} {o : HO} : F.up p o p = some o := upd_same
theorem Fz.up_ne {F : Fz} {p q : Addr} {o : HO} (h : q ≠ p) : F.up p o q = F q := upd_ne h

mutual
inductive Rp (K : Fg) (dk : Dk) (F : Fz) : V → D → Prop
  | non : Rp K dk F .non .non
  | bl (b : Bool) : Rp K dk F (.bl b) (.bl b)
  | int (i : Int) : Rp K dk F (.int i) (.int i)
  | str (x : Str) : Rp K dk F (.str x) (.str x)
  | lst {a : Addr} {vs : List V} {ds : List D} : F a = some (.lst vs) → Rps K dk F vs ds → Rp K dk F (.ref a) (.lst ds)
  | tup {a : Addr} {vs : List V} {ds : List D} : SqT K F.hp a vs → Rps K dk F vs ds → Rp K dk F (.ref a) (.tup ds)
  | deck : Rp K dk F (.ref dk.1) .deck
  | dic {a : Addr} {ks : List Key} {vs : List V} {ds : List D} : F a = some (.dK (ks.zip vs)) → ks.length = vs.length → Rps K dk F vs ds → Rp K dk F (.ref a) (.dic ks ds)
  | ref {a : Addr} {n : Nat} : F.mu[n]? = some a → Rp K dk F (.ref a) (.ref n)
inductive Rps (K : Fg) (dk : Dk) (F : Fz) : List V → List D → Prop
  | nil : Rps K dk F [] []
  | cons {v : V} {vs : List V} {d : D} {ds : List D} : Rp K dk F v d → Rps K dk F vs ds → Rps K dk F (v :: vs) (d :: ds)
end

/-- a heap that keeps another's things -/
def Lh (F F' : Hp) : Prop := ∀ a o, F a = some o → F' a = some o
theorem Lh.refl (F : Hp) : Lh F F := fun _ _ h => h
theorem Lh.trans {A B C : Hp} (x : Lh A B) (y : Lh B C) : Lh A C := fun a o h => y a o (x a o h)
theorem Lh.rd {F F' : Hp} {a : Addr} {u : HO} (e : Lh F F') (h : Rd F a u) : Rd F' a u := by
  rcases h with h | ⟨o, h⟩
  · exact .inl (e _ _ h)
  · exact .inr ⟨o, e _ _ h⟩
theorem Lh.sqT {K : Fg} {F F' : Hp} {a : Addr} {xs : List V} (e : Lh F F') (h : SqT K F a xs) : SqT K F' a xs := by
  rcases h with h | h
  · exact .inl (e.rd h)
  · exact .inr h
theorem Lh.free {F F' : Hp} {a : Addr} (e : Lh F F') (h : F' a = none) : F a = none := by
  cases q : F a with
  | none => rfl
  | some o => rw [e _ _ q] at h; cases h
theorem Lh.new {F : Hp} {p : Addr} {o : HO} (h : F p = none) : Lh F (upd F p o) := fun a u e => by
  rw [upd_ne (ne_of_none e h)]; exact e
/-- more is frozen, more stands in the store -/
structure Le (F F' : Fz) : Prop where
  h : Lh F.hp F'.hp
  m : ∃ l, F'.mu = F.mu ++ l
theorem Le.refl (F : Fz) : Le F F := ⟨Lh.refl _, [], by simp⟩
theorem Le.trans {A B C : Fz} (x : Le A B) (y : Le B C) : Le A C := ⟨x.h.trans y.h, by
  obtain ⟨l, e⟩ := x.m
  obtain ⟨l', e'⟩ := y.m
  exact ⟨l ++ l', by rw [e', e, List.append_assoc]⟩⟩
theorem Le.sqT {K : Fg} {F F' : Fz} {a : Addr} {xs : List V} (e : Le F F') (h : SqT K F.hp a xs) : SqT K F'.hp a xs := e.h.sqT h
theorem Le.new {F : Fz} {p : Addr} {o : HO} (h : F p = none) : Le F (F.up p o) := ⟨Lh.new h, [], by simp [Fz.up]⟩
theorem Le.at {F F' : Fz} (e : Le F F') {n : Nat} {a : Addr} (h : F.mu[n]? = some a) : F'.mu[n]? = some a := by
  obtain ⟨l, e⟩ := e.m
  rw [e, List.getElem?_append_left (by
    by_cases hl : n < F.mu.length
    · exact hl
    · rw [List.getElem?_eq_none (by omega)] at h; cases h)]
  exact h
theorem Le.mem {F F' : Fz} (e : Le F F') {a : Addr} (h : a ∈ F.mu) : a ∈ F'.mu := by
  obtain ⟨l, e⟩ := e.m
  rw [e]; exact List.mem_append_left _ h
/-- what is frozen stands in the heap; a dict may be locked -/
def Sb (F : Fz) (H : Hp) : Prop := ∀ a o, F a = some o → H a = some o ∨ ∃ od kvs, o = .dK kvs ∧ H a = some (.frz od o)
section
variable {F F' : Fz} {H H' : Hp} {K : Fg} {a : Addr}
theorem Sb.lst {vs : List V} (s : Sb F H) (h : F a = some (.lst vs)) : H a = some (.lst vs) := by
  rcases s a _ h with z | ⟨od, kvs, z, _⟩
  · exact z
  · cases z
theorem Sb.dK {kvs : List (Key × V)} (s : Sb F H) (h : F a = some (.dK kvs)) : Rd H a (.dK kvs) := by
  rcases s a _ h with z | ⟨od, _, _, z⟩
  · exact .inl z
  · exact .inr ⟨od, z⟩
theorem Sb.sqT {xs : List V} (s : Sb F H) (h : SqT K F.hp a xs) : SqT K H a xs := by
  rcases h with h | h
  · rcases h with h | ⟨o, h⟩
    · rcases s a _ h with z | ⟨_, _, z, _⟩
      · exact .inl (.inl z)
      · cases z
    · rcases s a _ h with z | ⟨_, _, z, _⟩
      · exact .inl (.inr ⟨o, z⟩)
      · cases z
  · exact .inr h
theorem Sb.free (s : Sb F H) (h : H a = none) : F a = none := by
  cases q : F a with
  | none => rfl
  | some o =>
    rcases s a _ q with z | ⟨_, _, _, z⟩ <;> rw [z] at h <;> cases h
theorem Sb.some (s : Sb F H) {o : HO} (h : F a = some o) : H a ≠ none := fun z => by rw [s.free z] at h; cases h
theorem Le.sb (e : Le F F') (s : Sb F' H) : Sb F H := fun a o h => s a o (e.h a o h)
theorem Sb.lh (s : Sb F H) (e : Lh H H') : Sb F H' := fun a o h => by
  rcases s a o h with z | ⟨od, kvs, z1, z⟩
  · exact .inl (e _ _ z)
  · exact .inr ⟨od, kvs, z1, e _ _ z⟩
end

mutual
theorem Rp.mono {K : Fg} {dk : Dk} {F F' : Fz} (e : Le F F') : ∀ {v : V} {d : D}, Rp K dk F v d → Rp K dk F' v d
  | _, _, .non => .non
  | _, _, .bl b => .bl b
  | _, _, .int i => .int i
  | _, _, .str x => .str x
  | _, _, .lst h r => .lst (e.h _ _ h) (Rps.mono e r)
  | _, _, .tup h r => .tup (e.sqT h) (Rps.mono e r)
  | _, _, .deck => .deck
  | _, _, .dic h l r => .dic (e.h _ _ h) l (Rps.mono e r)
  | _, _, .ref h => .ref (e.at h)
theorem Rps.mono {K : Fg} {dk : Dk} {F F' : Fz} (e : Le F F') : ∀ {vs : List V} {ds : List D}, Rps K dk F vs ds → Rps K dk F' vs ds
  | _, _, .nil => .nil
  | _, _, .cons a b => .cons (Rp.mono e a) (Rps.mono e b)
end

section
variable {K : Fg} {dk : Dk} {F F' : Fz} {H H' : Hp}
theorem Rps.length : ∀ {vs : List V} {ds : List D}, Rps K dk F vs ds → vs.length = ds.length
  | _, _, .nil => rfl
  | _, _, .cons _ r => by simp [Rps.length r]
theorem Rps.get : ∀ {vs : List V} {ds : List D} {i : Nat} {d : D}, Rps K dk F vs ds → ds[i]? = some d → ∃ v, vs[i]? = some v ∧ Rp K dk F v d
  | _, _, _, _, .nil, e => by simp at e
  | _, _, 0, _, .cons a _, e => by simp at e; subst e; exact ⟨_, rfl, a⟩
  | _, _, i + 1, _, .cons _ r, e => by
    obtain ⟨v, h1, h2⟩ := Rps.get (i := i) r (by simpa using e)
    exact ⟨v, by simpa using h1, h2⟩
theorem Rps.getV : ∀ {vs : List V} {ds : List D} {i : Nat} {v : V}, Rps K dk F vs ds → vs[i]? = some v → ∃ d, ds[i]? = some d ∧ Rp K dk F v d
  | _, _, _, _, .nil, e => by simp at e
  | _, _, 0, _, .cons a _, e => by simp at e; subst e; exact ⟨_, rfl, a⟩
  | _, _, i + 1, _, .cons _ r, e => by
    obtain ⟨v, h1, h2⟩ := Rps.getV (i := i) r (by simpa using e)
    exact ⟨v, by simpa using h1, h2⟩
theorem Rps.append : ∀ {vs us : List V} {ds es : List D}, Rps K dk F vs ds → Rps K dk F us es → Rps K dk F (vs ++ us) (ds ++ es)
  | _, _, _, _, .nil, s => s
  | _, _, _, _, .cons a r, s => .cons a (Rps.append r s)
theorem Rps.take : ∀ {vs : List V} {ds : List D} (n : Nat), Rps K dk F vs ds → Rps K dk F (vs.take n) (ds.take n)
  | _, _, 0, _ => .nil
  | _, _, _ + 1, .nil => .nil
  | _, _, n + 1, .cons a r => .cons a (Rps.take n r)
theorem Rps.drop : ∀ {vs : List V} {ds : List D} (n : Nat), Rps K dk F vs ds → Rps K dk F (vs.drop n) (ds.drop n)
  | _, _, 0, r => r
  | _, _, _ + 1, .nil => .nil
  | _, _, n + 1, .cons _ r => Rps.drop n r
theorem Rps.set {v : V} {d : D} (r : Rp K dk F v d) : ∀ {vs : List V} {ds : List D} (n : Nat), Rps K dk F vs ds → Rps K dk F (vs.set n v) (ds.set n d)
  | _, _, _, .nil => .nil
  | _, _, 0, .cons _ t => .cons r t
  | _, _, n + 1, .cons a t => .cons a (Rps.set r n t)
theorem Rps.one {v : V} {d : D} (r : Rp K dk F v d) : Rps K dk F [v] [d] := .cons r .nil

/-! the store's things -/
def clsOf (K : Fg) (c : Str) : Option Addr := match PySem.W.nsIn K mainGlobals c with
  | some (some (.ref C)) => some C
  | _ => none
inductive ObAt (K : Fg) (dk : Dk) (F : Fz) (H : Hp) (a : Addr) : Ob → Prop
  | lst {vs : List V} {ds : List D} : H a = some (.lst vs) → Rps K dk F vs ds → ObAt K dk F H a (.lst ds)
  | dic {ks : List Key} {vs : List V} {ds : List D} : H a = some (.dK (ks.zip vs)) → ks.length = vs.length → Rps K dk F vs ds → ObAt K dk F H a (.dic false ks ds)
  | lck {od : Obj} {ks : List Key} {vs : List V} {ds : List D} : H a = some (.frz od (.dK (ks.zip vs))) → ks.length = vs.length → Rps K dk F vs ds → ObAt K dk F H a (.dic true ks ds)
  | ins {c : Str} {C dx : Addr} {fs : List Str} {vs : List V} {ds : List D} : clsOf K c = some C → H a = some (.ins C dx (fs.zip vs)) → fs.length = vs.length → Rps K dk F vs ds → ObAt K dk F H a (.ins c fs ds)
  | nkd {zs : List (NestedKey × Addr × Value)} {vs : List V} {ks ds : List D} : H a = some (.ext (NkAt a zs)) → Rps K dk F (zs.map fun z => V.ref z.2.1) ks → ks.map nkOf = zs.map (fun z => some z.1) →
      Vals vs (zs.map fun z => z.2.2) → Rps K dk F vs ds → (zs.map fun z => z.1).Nodup → (∀ z ∈ zs, z.1.depth ≤ 8) → ObAt K dk F H a (.nkd ks ds)
theorem ObAt.some {a : Addr} {o : Ob} (h : ObAt K dk F H a o) : H a ≠ none := by
  intro z
  cases h with
  | lst h _ => rw [h] at z; cases z
  | dic h _ _ => rw [h] at z; cases z
  | lck h _ _ => rw [h] at z; cases z
  | ins _ h _ _ => rw [h] at z; cases z
  | nkd h _ _ _ _ _ _ => rw [h] at z; cases z
theorem ObAt.keep {a : Addr} {o : Ob} (h : ObAt K dk F H a o) (e : ∀ o, H a = Option.some o → H' a = Option.some o) (le : Le F F') : ObAt K dk F' H' a o := by
  cases h with
  | lst h r => exact .lst (e _ h) (r.mono le)
  | dic h l r => exact .dic (e _ h) l (r.mono le)
  | lck h l r => exact .lck (e _ h) l (r.mono le)
  | ins c h l r => exact .ins c (e _ h) l (r.mono le)
  | nkd h k q v r n d => exact .nkd (e _ h) (k.mono le) q v (r.mono le) n d

structure Wd (K : Fg) (dk : Dk) (F : Fz) (H : Hp) (st : S) : Prop where
  sub : Sb F H
  d1 : H dk.1 = some (.lst [.ref dk.2, .int st.n])
  d2 : H dk.2 = some (.lst (st.cells.map V.int))
  f1 : F.out dk.1
  f2 : F.out dk.2
  ne : dk.1 ≠ dk.2
  ml : F.mu.length = st.ob.length
  nd : F.mu.Nodup
  ob : ∀ (n : Nat) (a : Addr) (o : Ob), F.mu[n]? = some a → st.ob[n]? = some o → F a = none ∧ ObAt K dk F H a o
theorem Wd.mu {st : S} (w : Wd K dk F H st) {a : Addr} (h : a ∈ F.mu) : ∃ (n : Nat) (o : Ob), F.mu[n]? = some a ∧ st.ob[n]? = some o ∧ F a = none ∧ ObAt K dk F H a o := by
  obtain ⟨n, hn, e⟩ := List.getElem_of_mem h
  have hn' : n < st.ob.length := by rw [← w.ml]; exact hn
  have e1 : F.mu[n]? = some a := by rw [List.getElem?_eq_getElem hn, e]
  have e2 := List.getElem?_eq_getElem hn'
  exact ⟨n, _, e1, e2, w.ob n a _ e1 e2⟩
theorem Wd.nomu {st : S} (w : Wd K dk F H st) {a : Addr} (h : H a = none) : a ∉ F.mu := fun z => by
  obtain ⟨n, o, _, _, _, q⟩ := w.mu z
  exact q.some h
theorem Wd.out {st : S} (w : Wd K dk F H st) {a : Addr} (h : H a = none) : F.out a := ⟨w.sub.free h, w.nomu h⟩

/-- locked -/
def Fro (o : HO) : Prop := ∃ od u, o = .frz od u
structure Ext (dk : Dk) (F : Fz) (H : Hp) (F' : Fz) (H' : Hp) : Prop where
  h : ∀ a o, H a = some o → a ≠ dk.1 → a ≠ dk.2 → a ∉ F.mu ∨ Fro o → H' a = some o
  f : Le F F'
  n : ∀ a, F a = none → H a ≠ none → F' a = none
  m : ∀ a, H a ≠ none → H' a ≠ none
  u : ∀ a, a ∈ F'.mu → a ∈ F.mu ∨ H a = none
  k : ∀ a o, H' a = some o → Fro o → H a = some o
theorem Ext.refl (F : Fz) (H : Hp) : Ext dk F H F H := ⟨fun _ _ h _ _ _ => h, Le.refl F, fun _ h _ => h, fun _ h => h, fun _ h => .inl h, fun _ _ h _ => h⟩
theorem Ext.trans {A : Fz} {B : Hp} {F1 : Fz} {H1 : Hp} {F2 : Fz} {H2 : Hp} (x : Ext dk A B F1 H1) (y : Ext dk F1 H1 F2 H2) : Ext dk A B F2 H2 :=
  ⟨fun a o h n1 n2 n3 => y.h a o (x.h a o h n1 n2 n3) n1 n2 (n3.imp (fun n3 z => by
      rcases x.u a z with q | q
      · exact n3 q
      · rw [q] at h; cases h) id),
    x.f.trans y.f, fun a h1 h2 => y.n a (x.n a h1 h2) (x.m a h2), fun a h => y.m a (x.m a h), fun a h => by
      rcases y.u a h with q | q
      · exact x.u a q
      · refine .inr ?_
        cases w : B a with
        | none => rfl
        | some o => exact absurd q (x.m a (by rw [w]; exact fun z => nomatch z)), fun a o h f => x.k a o (y.k a o h f) f⟩
theorem Ext.out (x : Ext dk F H F' H') {a : Addr} (h : F.out a) (h2 : H a ≠ none) : F'.out a := ⟨x.n a h.1 h2, fun z => by
  rcases x.u a z with q | q
  · exact h.2 q
  · exact h2 q⟩
theorem Ext.back (x : Ext dk F H F' H') {a : Addr} (h : H' a = none) : H a = none := by
  cases w : H a with
  | none => rfl
  | some o => exact absurd h (x.m a (by rw [w]; exact fun z => nomatch z))

/-- an operation that keeps all and only lays new things -/
structure Px (F : Fz) (H : Hp) (F' : Fz) (H' : Hp) : Prop where
  h : Lh H H'
  f : Le F F'
  n : ∀ a, F a = none → H a ≠ none → F' a = none
  s : Sb F' H'
  m : F'.mu = F.mu
  k : ∀ a o, H' a = some o → Fro o → H a = some o
theorem Px.refl (s : Sb F H) : Px F H F H := ⟨Lh.refl H, Le.refl F, fun _ h _ => h, s, rfl, fun _ _ h _ => h⟩
theorem Px.ext (x : Px F H F' H') : Ext dk F H F' H' := ⟨fun a o e _ _ _ => x.h a o e, x.f, x.n, fun a h z => h (x.h.free z), fun a h => .inl (by rw [x.m] at h; exact h), x.k⟩
theorem nn {o : Option HO} {u : HO} (h : o = some u) : o ≠ none := by rw [h]; exact fun z => nomatch z
theorem Px.wd {st : S} (x : Px F H F' H') (w : Wd K dk F H st) : Wd K dk F' H' st :=
  ⟨x.s, x.h _ _ w.d1, x.h _ _ w.d2, ⟨x.n _ w.f1.1 (nn w.d1), by rw [x.m]; exact w.f1.2⟩, ⟨x.n _ w.f2.1 (nn w.d2), by rw [x.m]; exact w.f2.2⟩, w.ne, by rw [x.m]; exact w.ml, by rw [x.m]; exact w.nd,
    fun n a o h1 h2 => by
      rw [x.m] at h1
      obtain ⟨q1, q2⟩ := w.ob n a o h1 h2
      exact ⟨x.n _ q1 q2.some, q2.keep (fun o e => x.h _ _ e) x.f⟩⟩
theorem Px.trans {F2 : Fz} {H2 : Hp} (x : Px F H F' H') (y : Px F' H' F2 H2) : Px F H F2 H2 :=
  ⟨x.h.trans y.h, x.f.trans y.f, fun a h1 h2 => y.n a (x.n a h1 h2) (fun z => h2 (x.h.free z)), y.s, y.m.trans x.m, fun a o h f => x.k a o (y.k a o h f) f⟩
theorem updK {p : Addr} {o : HO} (nf : ¬ Fro o) (a : Addr) (u : HO) (h : upd H p o a = some u) (f : Fro u) : H a = some u := by
  by_cases na : a = p
  · subst na; rw [upd_same] at h; cases h; exact absurd f nf
  · rw [upd_ne na] at h; exact h
/-- a new frozen thing -/
theorem Px.new {p : Addr} {o : HO} (s : Sb F H) (hp : H p = none) (nf : ¬ Fro o := by rintro ⟨_, _, z⟩; cases z) : Px F H (F.up p o) (upd H p o) := by
  have fp : F p = none := s.free hp
  refine ⟨Lh.new hp, Le.new fp, fun a h1 h2 => ?_, fun a u e => ?_, rfl, updK nf⟩
  · have na : a ≠ p := fun z => h2 (z ▸ hp)
    rw [Fz.up_ne na]; exact h1
  · by_cases na : a = p
    · subst na
      rw [Fz.up_same] at e
      rw [upd_same]; exact .inl e
    · rw [Fz.up_ne na] at e; rw [upd_ne na]; exact s a u e
/-- a new thing that is not frozen -/
theorem Px.lay {p : Addr} {o : HO} (s : Sb F H) (hp : H p = none) (nf : ¬ Fro o := by rintro ⟨_, _, z⟩; cases z) : Px F H F (upd H p o) :=
  ⟨Lh.new hp, Le.refl F, fun _ h _ => h, s.lh (Lh.new hp), rfl, updK nf⟩

/-- data as it stands in this heap, whoever holds it -/
inductive Rw (K : Fg) (dk : Dk) (F : Fz) (H : Hp) : V → D → Prop
  | rp {v : V} {d : D} : Rp K dk F v d → Rw K dk F H v d
  | lst {p : Addr} {vs : List V} {ds : List D} : H p = some (.lst vs) → Rps K dk F vs ds → Rw K dk F H (.ref p) (.lst ds)
  | dic {p : Addr} {ks : List Key} {vs : List V} {ds : List D} : Rd H p (.dK (ks.zip vs)) → ks.length = vs.length → Rps K dk F vs ds → Rw K dk F H (.ref p) (.dic ks ds)
/-- data that stays while other things are worked out: frozen, or a name's own -/
inductive Ry (K : Fg) (dk : Dk) (F : Fz) (H : Hp) : V → D → Prop
  | rp {v : V} {d : D} : Rp K dk F v d → Ry K dk F H v d
  | lst {p : Addr} {vs : List V} {ds : List D} : H p = some (.lst vs) → p ≠ dk.1 → p ≠ dk.2 → p ∉ F.mu → Rps K dk F vs ds → Ry K dk F H (.ref p) (.lst ds)
  | dic {p : Addr} {ks : List Key} {vs : List V} {ds : List D} : Rd H p (.dK (ks.zip vs)) → p ≠ dk.1 → p ≠ dk.2 → p ∉ F.mu → ks.length = vs.length → Rps K dk F vs ds → Ry K dk F H (.ref p) (.dic ks ds)
theorem Ext.nmu (x : Ext dk F H F' H') {a : Addr} (h : a ∉ F.mu) (h2 : H a ≠ none) : a ∉ F'.mu := fun z => by
  rcases x.u a z with q | q
  · exact h q
  · exact h2 q
theorem rdn {a : Addr} {u : HO} (h : Rd H a u) : H a ≠ none := by
  rcases h with h | ⟨o, h⟩ <;> exact nn h
theorem Ext.rd (x : Ext dk F H F' H') {a : Addr} {u : HO} (h : Rd H a u) (n1 : a ≠ dk.1) (n2 : a ≠ dk.2) (n3 : a ∉ F.mu) : Rd H' a u := by
  rcases h with h | ⟨o, h⟩
  · exact .inl (x.h _ _ h n1 n2 (.inl n3))
  · exact .inr ⟨o, x.h _ _ h n1 n2 (.inl n3)⟩
theorem Ry.ext {v : V} {d : D} (r : Ry K dk F H v d) (x : Ext dk F H F' H') : Ry K dk F' H' v d := by
  cases r with
  | rp r => exact .rp (r.mono x.f)
  | lst h n1 n2 n3 r => exact .lst (x.h _ _ h n1 n2 (.inl n3)) n1 n2 (x.nmu n3 (nn h)) (r.mono x.f)
  | dic h n1 n2 n3 l r => exact .dic (x.rd h n1 n2 n3) n1 n2 (x.nmu n3 (rdn h)) l (r.mono x.f)
theorem Ry.w {v : V} {d : D} (r : Ry K dk F H v d) : Rw K dk F H v d := by
  cases r with
  | rp r => exact .rp r
  | lst h n1 n2 n3 r => exact .lst h r
  | dic h n1 n2 n3 l r => exact .dic h l r
inductive Rws (K : Fg) (dk : Dk) (F : Fz) (H : Hp) : List V → List D → Prop
  | nil : Rws K dk F H [] []
  | cons {v : V} {vs : List V} {d : D} {ds : List D} : Rw K dk F H v d → Rws K dk F H vs ds → Rws K dk F H (v :: vs) (d :: ds)
inductive Rys (K : Fg) (dk : Dk) (F : Fz) (H : Hp) : List V → List D → Prop
  | nil : Rys K dk F H [] []
  | cons {v : V} {vs : List V} {d : D} {ds : List D} : Ry K dk F H v d → Rys K dk F H vs ds → Rys K dk F H (v :: vs) (d :: ds)
theorem Rys.ext (x : Ext dk F H F' H') : ∀ {vs : List V} {ds : List D}, Rys K dk F H vs ds → Rys K dk F' H' vs ds
  | _, _, .nil => .nil
  | _, _, .cons a b => .cons (a.ext x) (Rys.ext x b)
/-- what a thing of the store is at this time -/
def dr (st : S) : D → D
  | .ref n => match st.ob[n]? with
    | some (.lst ds) => .lst ds
    | some (.dic _ ks ds) => .dic ks ds
    | _ => .ref n
  | d => d
theorem Ry.dr {v : V} {d : D} {st : S} (r : Ry K dk F H v d) (w : Wd K dk F H st) : Rw K dk F H v (dr st d) := by
  cases d with
  | ref n =>
    cases r with
    | rp r =>
      cases r with
      | ref h =>
        unfold MD.dr
        dsimp only
        split
        · rename_i ho
          obtain ⟨_, q⟩ := w.ob n _ _ h ho
          cases q with
          | lst h r => exact .lst h r
        · rename_i ho
          obtain ⟨_, q⟩ := w.ob n _ _ h ho
          cases q with
          | dic h l r => exact .dic (.inl h) l r
          | lck h l r => exact .dic (.inr ⟨_, h⟩) l r
        · exact .rp (.ref h)
  | _ => exact r.w
theorem Rys.dr {st : S} (w : Wd K dk F H st) : ∀ {vs : List V} {ds : List D}, Rys K dk F H vs ds → Rws K dk F H vs (ds.map (dr st))
  | _, _, .nil => .nil
  | _, _, .cons a b => .cons (a.dr w) (Rys.dr w b)
/-- a list in H, whoever owns it -/
theorem Rw.l {v : V} {ds : List D} (s : Sb F H) (r : Rw K dk F H v (.lst ds)) : ∃ p vs, v = .ref p ∧ H p = some (.lst vs) ∧ Rps K dk F vs ds := by
  cases r with
  | rp r => cases r with
    | lst h r => exact ⟨_, _, rfl, s.lst h, r⟩
  | lst h r => exact ⟨_, _, rfl, h, r⟩
theorem Rw.d {v : V} {ks : List Key} {ds : List D} (s : Sb F H) (r : Rw K dk F H v (.dic ks ds)) : ∃ p vs, v = .ref p ∧ Rd H p (.dK (ks.zip vs)) ∧ ks.length = vs.length ∧ Rps K dk F vs ds := by
  cases r with
  | rp r => cases r with
    | dic h l r => exact ⟨_, _, rfl, s.dK h, l, r⟩
  | dic h l r => exact ⟨_, _, rfl, h, l, r⟩
theorem Rw.tp {v : V} {ds : List D} (r : Rw K dk F H v (.tup ds)) : Rp K dk F v (.tup ds) := by
  cases r with
  | rp r => exact r
theorem Rw.tup {v : V} {ds : List D} (s : Sb F H) (r : Rw K dk F H v (.tup ds)) : ∃ p vs, v = .ref p ∧ SqT K H p vs ∧ Rps K dk F vs ds := by
  cases r.tp with
  | tup h r => exact ⟨_, _, rfl, s.sqT h, r⟩
theorem Rw.int {v : V} {i : Int} (r : Rw K dk F H v (.int i)) : v = .int i := by
  cases r with
  | rp r => cases r; rfl
theorem Rw.str {v : V} {x : Str} (r : Rw K dk F H v (.str x)) : v = .str x := by
  cases r with
  | rp r => cases r; rfl
theorem Rw.bl {v : V} {b : Bool} (r : Rw K dk F H v (.bl b)) : v = .bl b := by
  cases r with
  | rp r => cases r; rfl
theorem Rw.non {v : V} (r : Rw K dk F H v .non) : v = .non := by
  cases r with
  | rp r => cases r; rfl
theorem Rw.isNon {v : V} {d : D} (r : Rw K dk F H v d) : decide (v = .non) = (match d with | .non => true | _ => false) := by
  cases r with
  | rp r => cases r <;> rfl
  | lst _ _ => rfl
  | dic _ _ _ => rfl

/-! slots -/
def SlOk (K : Fg) (dk : Dk) (F : Fz) (H H0 : Hp) (v : Option V) : Sl → Prop
  | .un => True
  | .val d => ∃ x, v = some x ∧ Rp K dk F x d
  | .own w => ∃ p vs, v = some (.ref p) ∧ w.1.At H p vs ∧ F.out p ∧ H0 p = none ∧ p ≠ dk.1 ∧ p ≠ dk.2 ∧ Rps K dk F vs w.2
structure Good (K : Fg) (dk : Dk) (H0 : Hp) (F0 F : Fz) (σ : L2.St) (H : Hp) (env : Sg) (st : S) : Prop where
  wd : Wd K dk F H st
  ext : Ext dk F0 H0 F H
  len : σ.length = env.length
  sl : ∀ (i : Nat) (s : Sl), env[i]? = some s → SlOk K dk F H H0 (σ[i]?).join s
  dis : ∀ (i j : Nat) (ds es : Own) (p : Addr), i ≠ j → env[i]? = some (.own ds) → env[j]? = some (.own es) → σ[i]? = some (some (.ref p)) → σ[j]? ≠ some (some (.ref p))
theorem Good.step {H0 : Hp} {F0 : Fz} {σ : L2.St} {env : Sg} {st st' : S} (g : Good K dk H0 F0 F σ H env st) (x : Ext dk F H F' H') (w : Wd K dk F' H' st') : Good K dk H0 F0 F' σ H' env st' := by
  refine ⟨w, g.ext.trans x, g.len, fun i s e => ?_, g.dis⟩
  have q := g.sl i s e
  cases s with
  | un => trivial
  | val d => obtain ⟨v, h1, h2⟩ := q; exact ⟨v, h1, h2.mono x.f⟩
  | own ds =>
    obtain ⟨p, vs, h1, h2, h3, h4, h5, h6, h7⟩ := q
    exact ⟨p, vs, h1, h2.keep fun o e => x.h _ _ e h5 h6 (.inl h3.2), x.out h3 (by obtain ⟨o, ho⟩ := h2.some; exact nn ho), h4, h5, h6, h7.mono x.f⟩
theorem Good.px {H0 : Hp} {F0 : Fz} {σ : L2.St} {env : Sg} {st : S} (g : Good K dk H0 F0 F σ H env st) (x : Px F H F' H') : Good K dk H0 F0 F' σ H' env st := g.step x.ext (x.wd g.wd)
end
end MD

set_option Elab.async false
set_option linter.all false
set_option maxRecDepth 100000
set_option maxHeartbeats 1000000
namespace MD
open PySem L2

abbrev ME := Sg → S → Option (D × S)
abbrev MT := Sg → S → Option (Bool × S)
abbrev MA := Sg → S → Option (List D × S)

section
variable (K : Fg)
def Im (te : TE) (f : ME) : Prop := ∀ (dk : Dk) (H0 : Hp) (F0 F : Fz) (σ : L2.St) (H : Hp) (env : Sg) (st : S) (d : D) (st' : S), Good K dk H0 F0 F σ H env st → f env st = some (d, st') →
  ∀ Q : VK, (∀ v F' H', Ext dk F H F' H' → Good K dk H0 F0 F' σ H' env st' → Rp K dk F' v d → Q v H') → te σ H Q
def ImW (te : TE) (f : ME) : Prop := ∀ (dk : Dk) (H0 : Hp) (F0 F : Fz) (σ : L2.St) (H : Hp) (env : Sg) (st : S) (d : D) (st' : S), Good K dk H0 F0 F σ H env st → f env st = some (d, st') →
  ∀ Q : VK, (∀ v F' H', Ext dk F H F' H' → Good K dk H0 F0 F' σ H' env st' → Ry K dk F' H' v d → Q v H') → te σ H Q
def ImF (te : TE) (f : MA) : Prop := ∀ (dk : Dk) (H0 : Hp) (F0 F : Fz) (σ : L2.St) (H : Hp) (env : Sg) (st : S) (ds : List D) (st' : S), Good K dk H0 F0 F σ H env st → f env st = some (ds, st') →
  ∀ Q : VK, (∀ p vs F' H', Ext dk F H F' H' → Good K dk H0 F0 F' σ H' env st' → H p = none → F'.out p → H' p = some (.lst vs) → Rps K dk F' vs ds → Q (.ref p) H') → te σ H Q
def ImT (tt : TT) (f : MT) : Prop := ∀ (dk : Dk) (H0 : Hp) (F0 F : Fz) (σ : L2.St) (H : Hp) (env : Sg) (st : S) (b : Bool) (st' : S), Good K dk H0 F0 F σ H env st → f env st = some (b, st') →
  ∀ Q : Bool → Hp → Prop, (∀ F' H', Ext dk F H F' H' → Good K dk H0 F0 F' σ H' env st' → Q b H') → tt σ H Q
def ImA (ta : TA) (f : MA) : Prop := ∀ (dk : Dk) (H0 : Hp) (F0 F : Fz) (σ : L2.St) (H : Hp) (env : Sg) (st : S) (ds : List D) (st' : S), Good K dk H0 F0 F σ H env st → f env st = some (ds, st') →
  ∀ Q : List V → Hp → Prop, (∀ vs F' H', Ext dk F H F' H' → Good K dk H0 F0 F' σ H' env st' → Rps K dk F' vs ds → Q vs H') → ta σ H Q
def ImAW (ta : TA) (f : MA) : Prop := ∀ (dk : Dk) (H0 : Hp) (F0 F : Fz) (σ : L2.St) (H : Hp) (env : Sg) (st : S) (ds : List D) (st' : S), Good K dk H0 F0 F σ H env st → f env st = some (ds, st') →
  ∀ Q : List V → Hp → Prop, (∀ vs F' H', Ext dk F H F' H' → Good K dk H0 F0 F' σ H' env st' → Rys K dk F' H' vs ds → Q vs H') → ta σ H Q
end

theorem bnd {α β : Type} {o : Option α} {f : α → Option β} {b : β} (h : o.bind f = some b) : ∃ a, o = some a ∧ f a = some b := by
  cases o with
  | none => cases h
  | some a => exact ⟨a, rfl, h⟩
theorem mpd {α β : Type} {o : Option α} {f : α → β} {b : β} (h : o.map f = some b) : ∃ a, o = some a ∧ f a = b := by
  cases o with
  | none => cases h
  | some a => exact ⟨a, rfl, Option.some.inj h⟩

section
variable {K : Fg} {dk : Dk} {F F' F0 : Fz} {H H' H0 : Hp} {σ : L2.St} {env : Sg} {st : S}
theorem Good.fresh0 (g : Good K dk H0 F0 F σ H env st) {p : Addr} (hp : H p = none) : H0 p = none := by
  cases q : H0 p with
  | none => rfl
  | some o => exact absurd hp (g.ext.m p (by rw [q]; exact fun z => nomatch z))
theorem Good.nedk (g : Good K dk H0 F0 F σ H env st) {p : Addr} (hp : H p = none) : p ≠ dk.1 ∧ p ≠ dk.2 :=
  ⟨fun z => (by rw [z, g.wd.d1] at hp; cases hp), fun z => (by rw [z, g.wd.d2] at hp; cases hp)⟩
theorem join_eq {x : Option (Option V)} {v : V} (h : x.join = some v) : x = some (some v) := by
  cases x with
  | none => cases h
  | some y => cases y with
    | none => cases h
    | some z => rw [show z = v from Option.some.inj h]
theorem Good.noown (g : Good K dk H0 F0 F σ H env st) {p : Addr} (hp : H p = none) : ∀ (i : Nat) (ds : Own), env[i]? = some (.own ds) → σ[i]? ≠ some (some (.ref p)) := fun i ds e z => by
  obtain ⟨q, vs, h1, h2, _⟩ := g.sl i _ e
  have h3 := join_eq h1
  rw [z] at h3
  cases h3
  obtain ⟨o, ho⟩ := h2.some
  rw [hp] at ho; cases ho
/-- what is nobody's own may be frozen -/
theorem Wd.freeze {p : Addr} {o : HO} (w : Wd K dk F H st) (hp : H p = some o) (fp : F.out p) (n1 : p ≠ dk.1) (n2 : p ≠ dk.2) : Wd K dk (F.up p o) H st := by
  have le : Le F (F.up p o) := Le.new fp.1
  refine ⟨fun a u e => ?_, w.d1, w.d2, ⟨by rw [Fz.up_ne n1.symm]; exact w.f1.1, w.f1.2⟩, ⟨by rw [Fz.up_ne n2.symm]; exact w.f2.1, w.f2.2⟩, w.ne, w.ml, w.nd, fun n a u h1 h2 => ?_⟩
  · by_cases na : a = p
    · subst na; rw [Fz.up_same] at e; rw [← e]; exact .inl hp
    · rw [Fz.up_ne na] at e; exact w.sub a u e
  · obtain ⟨q1, q2⟩ := w.ob n a u h1 h2
    have na : a ≠ p := fun z => fp.2 (z ▸ List.mem_of_getElem? h1)
    exact ⟨by rw [Fz.up_ne na]; exact q1, q2.keep (fun _ e => e) le⟩
theorem Good.freeze {p : Addr} {o : HO} (g : Good K dk H0 F0 F σ H env st) (hp : H p = some o) (fp : F.out p) (h0 : H0 p = none) (n1 : p ≠ dk.1) (n2 : p ≠ dk.2)
    (no : ∀ (i : Nat) (ds : Own), env[i]? = some (.own ds) → σ[i]? ≠ some (some (.ref p))) : Good K dk H0 F0 (F.up p o) σ H env st := by
  have le : Le F (F.up p o) := Le.new fp.1
  refine ⟨g.wd.freeze hp fp n1 n2, ⟨g.ext.h, g.ext.f.trans le, fun a h1 h2 => ?_, g.ext.m, g.ext.u, g.ext.k⟩, g.len, fun i s e => ?_, g.dis⟩
  · have na : a ≠ p := fun z => h2 (z ▸ h0)
    rw [Fz.up_ne na]; exact g.ext.n a h1 h2
  · have q := g.sl i s e
    cases s with
    | un => trivial
    | val d => obtain ⟨v, h1, h2⟩ := q; exact ⟨v, h1, h2.mono le⟩
    | own ds =>
      obtain ⟨r, vs, h1, h2, h3, h4, h5, h6, h7⟩ := q
      have nr : r ≠ p := fun z => no i ds e (by rw [← z]; exact join_eq h1)
      exact ⟨r, vs, h1, h2, ⟨by rw [Fz.up_ne nr]; exact h3.1, h3.2⟩, h4, h5, h6, h7.mono le⟩
theorem Ext.freeze {p : Addr} {o : HO} (x : Ext dk F H F' H') (hp : H p = none) (fp : F'.out p) : Ext dk F H (F'.up p o) H' :=
  ⟨x.h, x.f.trans (Le.new fp.1), fun a h1 h2 => by
    have na : a ≠ p := fun z => h2 (z ▸ hp)
    rw [Fz.up_ne na]; exact x.n a h1 h2, x.m, x.u, x.k⟩

theorem Im.w {te : TE} {f : ME} (h : Im K te f) : ImW K te f := fun dk H0 F0 F σ H env st d st' g e Q q =>
  h dk H0 F0 F σ H env st d st' g e Q fun v F' H' x g' r => q v F' H' x g' (.rp r)
def frz (f : MA) : ME := fun env st => (f env st).map fun p => (.lst p.1, p.2)
theorem ImF.im {te : TE} {f : MA} (h : ImF K te f) : Im K te (frz f) := fun dk H0 F0 F σ H env st d st' g e Q q => by
  obtain ⟨⟨ds, s1⟩, h1, h2⟩ := mpd e
  cases h2
  refine h dk H0 F0 F σ H env st ds s1 g h1 Q fun p vs F' H' x g' hp fp hl r => ?_
  have nd := g.nedk hp
  have le : Le F' (Fz.up F' p (.lst vs)) := Le.new fp.1
  exact q (.ref p) (Fz.up F' p (.lst vs)) H' (x.freeze hp fp) (g'.freeze hl fp (g.fresh0 hp) nd.1 nd.2 (g.noown hp)) (.lst Fz.up_same (r.mono le))
theorem ImF.w {te : TE} {f : MA} (h : ImF K te f) : ImW K te (frz f) := h.im.w

/-! names, constants -/
def rd (i : Nat) : ME := fun env st => match env[i]? with
  | some (.val d) => some (d, st)
  | _ => none
def rdW (i : Nat) : ME := fun env st => match env[i]? with
  | some (.val d) => some (d, st)
  | some (.own (.lst, ds)) => some (.lst ds, st)
  | some (.own (.dic ks, ds)) => some (.dic ks ds, st)
  | _ => none
theorem im_var (i : Nat) : Im K (tVar i) (rd i) := fun dk H0 F0 F σ H env st d st' g e Q q => by
  unfold rd at e
  split at e
  · rename_i d' he
    cases e
    obtain ⟨v, h1, h2⟩ := g.sl i _ he
    exact ⟨v, join_eq h1, q v F H (Ext.refl F H) g h2⟩
  · cases e
theorem im_own (i : Nat) : ImW K (tVar i) (rdW i) := fun dk H0 F0 F σ H env st d st' g e Q q => by
  unfold rdW at e
  split at e
  · rename_i d' he
    cases e
    obtain ⟨v, h1, h2⟩ := g.sl i _ he
    exact ⟨v, join_eq h1, q v F H (Ext.refl F H) g (.rp h2)⟩
  · rename_i ds he
    cases e
    obtain ⟨p, vs, h1, h2, h3, h4, h5, h6, h7⟩ := g.sl i _ he
    exact ⟨.ref p, join_eq h1, q (.ref p) F H (Ext.refl F H) g (.lst h2 h5 h6 h3.2 h7)⟩
  · rename_i ks ds he
    cases e
    obtain ⟨p, vs, h1, h2, h3, h4, h5, h6, h7⟩ := g.sl i _ he
    exact ⟨.ref p, join_eq h1, q (.ref p) F H (Ext.refl F H) g (.dic (.inl h2.1) h5 h6 h3.2 h2.2 h7)⟩
  · cases e
def cst (d : D) : ME := fun _ st => some (d, st)
/-- a value that stands for itself in every heap -/
def Rc (K : Fg) (v : V) (d : D) : Prop := ∀ dk F, Rp K dk F v d
theorem im_c {v : V} {d : D} (h : Rc K v d) : Im K (tC v) (cst d) := fun dk H0 F0 F σ H env st d' st' g e Q q => by
  cases e
  exact q v F H (Ext.refl F H) g (h dk F)
theorem im_int {i : Int} : Im K (tC (.int i)) (cst (.int i)) := im_c fun _ _ => .int i
theorem im_str {i : Str} : Im K (tC (.str i)) (cst (.str i)) := im_c fun _ _ => .str i
theorem im_bl {i : Bool} : Im K (tC (.bl i)) (cst (.bl i)) := im_c fun _ _ => .bl i
theorem im_non : Im K (tC .non) (cst .non) := im_c fun _ _ => .non

/-! two-place operations on values -/
def RO (K : Fg) (r : R2) (f : D → D → Option D) : Prop := ∀ (dk : Dk) (F : Fz) (H : Hp) (st : S) (x y : V) (d e z : D), Wd K dk F H st → Rw K dk F H x d → Rw K dk F H y e → f d e = some z →
  ∀ Q : VK, (∀ v F' H', Px F H F' H' → Rp K dk F' v z → Q v H') → r x y H Q
def ROF (K : Fg) (r : R2) (f : D → D → Option (List D)) : Prop := ∀ (dk : Dk) (F : Fz) (H : Hp) (st : S) (x y : V) (d e : D) (z : List D), Wd K dk F H st → Rw K dk F H x d → Rw K dk F H y e → f d e = some z →
  ∀ Q : VK, (∀ p vs, H p = none → Rps K dk F vs z → Q (.ref p) (upd H p (.lst vs))) → r x y H Q
def opM (f : D → D → Option D) (fa fb : ME) : ME := fun env st => (fa env st).bind fun p => (fb env p.2).bind fun q => (f (dr q.2 p.1) (dr q.2 q.1)).map fun z => (z, q.2)
def opF (f : D → D → Option (List D)) (fa fb : ME) : MA := fun env st => (fa env st).bind fun p => (fb env p.2).bind fun q => (f (dr q.2 p.1) (dr q.2 q.1)).map fun z => (z, q.2)
theorem im_op {r : R2} {f : D → D → Option D} {ta tb : TE} {fa fb : ME} (hr : RO K r f) (ha : ImW K ta fa) (hb : ImW K tb fb) : Im K (tOp r ta tb) (opM f fa fb) := fun dk H0 F0 F σ H env st d st' g e Q q => by
  obtain ⟨⟨x, s1⟩, h1, e⟩ := bnd e
  obtain ⟨⟨y, s2⟩, h2, e⟩ := bnd e
  obtain ⟨z, h3, e⟩ := mpd e
  cases e
  refine ha dk H0 F0 F σ H env st x s1 g h1 _ fun v F1 H1 x1 g1 r1 => ?_
  refine hb dk H0 F0 F1 σ H1 env s1 y s2 g1 h2 _ fun u F2 H2 x2 g2 r2 => ?_
  exact hr dk F2 H2 s2 v u _ _ d g2.wd ((r1.ext x2).dr g2.wd) (r2.dr g2.wd) h3 Q fun w F3 H3 px r3 => q w F3 H3 ((x1.trans x2).trans px.ext) (g2.px px) r3
theorem im_opF {r : R2} {f : D → D → Option (List D)} {ta tb : TE} {fa fb : ME} (hr : ROF K r f) (ha : ImW K ta fa) (hb : ImW K tb fb) : ImF K (tOp r ta tb) (opF f fa fb) := fun dk H0 F0 F σ H env st d st' g e Q q => by
  obtain ⟨⟨x, s1⟩, h1, e⟩ := bnd e
  obtain ⟨⟨y, s2⟩, h2, e⟩ := bnd e
  obtain ⟨z, h3, e⟩ := mpd e
  cases e
  refine ha dk H0 F0 F σ H env st x s1 g h1 _ fun v F1 H1 x1 g1 r1 => ?_
  refine hb dk H0 F0 F1 σ H1 env s1 y s2 g1 h2 _ fun u F2 H2 x2 g2 r2 => ?_
  refine hr dk F2 H2 s2 v u _ _ d g2.wd ((r1.ext x2).dr g2.wd) (r2.dr g2.wd) h3 Q fun p vs hp r3 => ?_
  have x12 := x1.trans x2
  have h0 : H p = none := by
    cases w : H p with
    | none => rfl
    | some o => exact absurd hp (x12.m p (by rw [w]; exact fun z => nomatch z))
  have px : Px F2 H2 F2 (upd H2 p (.lst vs)) := Px.lay g2.wd.sub hp
  exact q p vs F2 _ (x12.trans px.ext) (g2.px px) h0 (g2.wd.out hp) upd_same r3
theorem RO.or {r r' : R2} {f f' : D → D → Option D} (h : RO K r f) (h' : RO K r' f') : RO K (fun x y H Q => r x y H Q ∨ r' x y H Q) (fun d e => (f d e).orElse fun _ => f' d e) := by
  intro dk F H st x y d e z w rx ry hz Q q
  replace hz : ((f d e).orElse fun _ => f' d e) = some z := hz
  cases hf : f d e with
  | some y' =>
    rw [hf] at hz
    have : some y' = some z := hz
    cases this
    exact .inl (h dk F H st x y d e z w rx ry hf Q q)
  | none =>
    rw [hf] at hz
    exact .inr (h' dk F H st x y d e z w rx ry hz Q q)
theorem ROF.ro {r : R2} {f : D → D → Option (List D)} (h : ROF K r f) : RO K r (fun d e => (f d e).map D.lst) := by
  intro dk F H st x y d e z w rx ry hz Q q
  obtain ⟨ds, h1, h2⟩ := mpd hz
  subst h2
  refine h dk F H st x y d e ds w rx ry h1 Q fun p vs hp r => ?_
  have px : Px F H (Fz.up F p (.lst vs)) (upd H p (.lst vs)) := Px.new w.sub hp
  exact q (.ref p) _ _ px (.lst Fz.up_same (r.mono px.f))

/-! ints -/
def iI (g : Int → Int → D) : D → D → Option D
  | .int i, .int j => some (g i j)
  | _, _ => none
def iIC (C : Int → Int → Prop) [∀ i j, Decidable (C i j)] (g : Int → Int → D) : D → D → Option D
  | .int i, .int j => if C i j then some (g i j) else none
  | _, _ => none
theorem ro_I0 {g : Int → Int → V} {g' : Int → Int → D} (h : ∀ i j, Rc K (g i j) (g' i j)) : RO K (rI0 g) (iI g') := by
  intro dk F H st x y d e z w rx ry hz Q q
  unfold iI at hz
  split at hz
  · rename_i i j
    cases hz
    cases rx.int
    cases ry.int
    exact ⟨i, j, rfl, rfl, q _ F H (Px.refl w.sub) (h i j dk F)⟩
  · cases hz
theorem ro_I {C : Int → Int → Prop} [∀ i j, Decidable (C i j)] {g : Int → Int → V} {g' : Int → Int → D} (h : ∀ i j, Rc K (g i j) (g' i j)) : RO K (rI C g) (iIC C g') := by
  intro dk F H st x y d e z w rx ry hz Q q
  unfold iIC at hz
  split at hz
  · rename_i i j
    split at hz
    · rename_i hc
      cases hz
      cases rx.int
      cases ry.int
      exact ⟨i, j, rfl, rfl, hc, q _ F H (Px.refl w.sub) (h i j dk F)⟩
    · cases hz
  · cases hz
theorem rc_int (i : Int) : Rc K (.int i) (.int i) := fun _ _ => .int i
theorem rc_bl (i : Bool) : Rc K (.bl i) (.bl i) := fun _ _ => .bl i
theorem rc_str (i : Str) : Rc K (.str i) (.str i) := fun _ _ => .str i
instance : ∀ i j, Decidable (CMul i j) := fun i j => by unfold CMul; exact inferInstance
instance : ∀ i j, Decidable (CDiv i j) := fun i j => by unfold CDiv; exact inferInstance
instance : ∀ i j, Decidable (CPow i j) := fun i j => by unfold CPow; exact inferInstance

/-! + -/
def strCat : D → D → Option D
  | .str i, .str j => if i.length + j.length ≤ sizeLine then some (.str (i ++ j)) else none
  | _, _ => none
def tupCat : D → D → Option D
  | .tup i, .tup j => if i.length + j.length ≤ sizeLine then some (.tup (i ++ j)) else none
  | _, _ => none
def lstCat : D → D → Option (List D)
  | .lst i, .lst j => if i.length + j.length ≤ sizeLine then some (i ++ j) else none
  | _, _ => none
theorem ro_strCat : RO K (fun x y H Q => ∃ i j, x = .str i ∧ y = .str j ∧ i.length + j.length ≤ sizeLine ∧ Q (.str (i ++ j)) H) strCat := by
  intro dk F H st x y d e z w rx ry hz Q q
  unfold strCat at hz
  split at hz
  · rename_i i j
    split at hz
    · rename_i hc
      cases hz
      exact ⟨i, j, rx.str, ry.str, hc, q _ F H (Px.refl w.sub) (.str _)⟩
    · cases hz
  · cases hz
theorem ro_tupCat : RO K (rCatA K) tupCat := by
  intro dk F H st x y d e z w rx ry hz Q q
  unfold tupCat at hz
  split at hz
  · rename_i i j
    split at hz
    · rename_i hc
      cases hz
      obtain ⟨p, vs, e1, h1, r1⟩ := rx.tup w.sub
      obtain ⟨p2, vs2, e2, h2, r2⟩ := ry.tup w.sub
      refine ⟨p, p2, vs, vs2, e1, e2, h1, h2, by rw [r1.length, r2.length]; exact hc, fun z => ?_, fun _ z => ?_, fun _ _ a ha => ?_⟩
      · subst z
        cases r1
        subst e2
        exact q _ F H (Px.refl w.sub) ry.tp
      · subst z
        cases r2
        subst e1
        rw [List.append_nil] at q
        exact q _ F H (Px.refl w.sub) rx.tp
      · have px : Px F H (Fz.up F a (.tup (vs ++ vs2))) (upd H a (.tup (vs ++ vs2))) := Px.new w.sub ha
        exact q _ _ _ px (.tup (SqT.of Fz.up_same) ((r1.append r2).mono px.f))
    · cases hz
  · cases hz
theorem rof_lstCat : ROF K rCat lstCat := by
  intro dk F H st x y d e z w rx ry hz Q q
  unfold lstCat at hz
  split at hz
  · rename_i i j
    split at hz
    · rename_i hc
      cases hz
      obtain ⟨p, vs, e1, h1, r1⟩ := rx.l w.sub
      obtain ⟨p2, vs2, e2, h2, r2⟩ := ry.l w.sub
      exact ⟨p, p2, vs, vs2, e1, e2, h1, h2, by rw [r1.length, r2.length]; exact hc, fun a ha => q a _ ha (r1.append r2)⟩
    · cases hz
  · cases hz
end
end MD

set_option Elab.async false
set_option linter.all false
set_option maxRecDepth 100000
set_option maxHeartbeats 1000000
namespace MD
open PySem L2

/-! ### data as the library's -/
mutual
def D.py : D → PyData
  | .non => .none
  | .bl b => .bool b
  | .int i => .int i
  | .str s => .str s
  | .lst xs => .list (pyAll xs)
  | .tup xs => .tuple (pyAll xs)
  | .deck => .none
  | .dic _ _ => .none
  | .ref _ => .none
def pyAll : List D → List PyData
  | [] => []
  | x :: xs => D.py x :: pyAll xs
end
mutual
def D.pl : D → Bool
  | .lst xs => plAll xs
  | .tup xs => plAll xs
  | .deck => false
  | .dic _ _ => false
  | .ref _ => false
  | _ => true
def plAll : List D → Bool
  | [] => true
  | x :: xs => D.pl x && plAll xs
end
mutual
theorem Rp.dp {K : Fg} {dk : Dk} {F : Fz} {H : Hp} (le : Sb F H) : ∀ {v : V} {d : D}, Rp K dk F v d → d.pl = true → Dp K H v d.py
  | _, _, .non, _ => .non
  | _, _, .bl b, _ => .bl b
  | _, _, .int i, _ => .int i
  | _, _, .str x, _ => .str x
  | _, _, .lst h r, p => .lst (SqL.of (le.lst h)) (Rps.dp le r (by simpa [D.pl] using p))
  | _, _, .tup h r, p => .tup (le.sqT h) (Rps.dp le r (by simpa [D.pl] using p))
  | _, _, .deck, p => by simp [D.pl] at p
  | _, _, .dic _ _ _, p => by simp [D.pl] at p
  | _, _, .ref _, p => by simp [D.pl] at p
theorem Rps.dp {K : Fg} {dk : Dk} {F : Fz} {H : Hp} (le : Sb F H) : ∀ {vs : List V} {ds : List D}, Rps K dk F vs ds → plAll ds = true → DpAll K H vs (pyAll ds)
  | _, _, .nil, _ => .nil
  | _, _, .cons a b, p => by
    rw [plAll, Bool.and_eq_true] at p
    exact .cons (Rp.dp le a p.1) (Rps.dp le b p.2)
end
section
variable {K : Fg} {dk : Dk} {F F' F0 : Fz} {H H' H0 : Hp} {σ : L2.St} {env : Sg} {st : S}
theorem Rw.dp (le : Sb F H) {v : V} {d : D} (r : Rw K dk F H v d) (p : d.pl = true) : Dp K H v d.py := by
  cases r with
  | rp r => exact r.dp le p
  | lst h r => exact .lst (SqL.of h) (r.dp le (by simpa [D.pl] using p))
  | dic _ _ _ => simp [D.pl] at p

/-! ### == -/
def sEq : D → D → Option Bool
  | .non, .non => some true
  | .non, .int _ => some false | .int _, .non => some false
  | .non, .str _ => some false | .str _, .non => some false
  | .int i, .int j => some (decide (i = j))
  | .bl i, .bl j => some (decide (i = j))
  | .str i, .str j => some (decide (i = j))
  | _, _ => none
def okD (d : D) : Bool := d.pl && SeqAt.shaped d.py
def eqB (d e : D) : Option Bool := match sEq d e with
  | some b => some b
  | none => if okD d && okD e then some (PyData.eqv d.py e.py) else none
def eqM (d e : D) : Option D := (eqB d e).map D.bl
def neM (d e : D) : Option D := (eqB d e).map fun b => D.bl (!b)
theorem dec_congr {p q : Prop} [Decidable p] [Decidable q] (h : p ↔ q) : decide p = decide q := by
  by_cases hp : p
  · rw [decide_eq_true hp, decide_eq_true (h.mp hp)]
  · rw [decide_eq_false hp, decide_eq_false fun z => hp (h.mpr z)]
theorem sEq_ok {x y : V} {d e : D} {b : Bool} (rx : Rw K dk F H x d) (ry : Rw K dk F H y e) (h : sEq d e = some b) : scal x y = true ∧ decide (x = y) = b := by
  unfold sEq at h
  split at h <;> cases h
  · cases rx.non; cases ry.non; exact ⟨rfl, rfl⟩
  · cases rx.non; cases ry.int; exact ⟨rfl, rfl⟩
  · cases rx.int; cases ry.non; exact ⟨rfl, rfl⟩
  · cases rx.non; cases ry.str; exact ⟨rfl, rfl⟩
  · cases rx.str; cases ry.non; exact ⟨rfl, rfl⟩
  · cases rx.int; cases ry.int; exact ⟨rfl, dec_congr ⟨fun z => V.int.inj z, fun z => by rw [z]⟩⟩
  · cases rx.bl; cases ry.bl; exact ⟨rfl, dec_congr ⟨fun z => V.bl.inj z, fun z => by rw [z]⟩⟩
  · cases rx.str; cases ry.str; exact ⟨rfl, dec_congr ⟨fun z => V.str.inj z, fun z => by rw [z]⟩⟩
def rEqA (K : Fg) : R2 := fun x y H Q => rEq x y H Q ∨ rEqD K x y H Q
def rNeA (K : Fg) : R2 := fun x y H Q => rNe x y H Q ∨ rNeD K x y H Q
theorem OpR.or {X : Cx} {f : Value → Value → Sem Value} {r r' : R2} (h : OpR X f r) (h' : OpR X f r') : OpR X f (fun x y H Q => r x y H Q ∨ r' x y H Q) := by
  intro pins s σ H x y v u Q I rx ry q
  rcases q with q | q
  · exact h pins s σ H x y v u Q I rx ry q
  · exact h' pins s σ H x y v u Q I rx ry q
theorem eqB_ok {x y : V} {d e : D} {b : Bool} (le : Sb F H) (rx : Rw K dk F H x d) (ry : Rw K dk F H y e) (h : eqB d e = some b) :
    (scal x y = true ∧ decide (x = y) = b) ∨ ∃ d e, Dp K H x d ∧ Dp K H y e ∧ SeqAt.shaped d = true ∧ SeqAt.shaped e = true ∧ PyData.eqv d e = b := by
  unfold eqB at h
  split at h
  · rename_i b' hb
    cases h
    exact .inl (sEq_ok rx ry hb)
  · split at h
    · rename_i ho
      cases h
      rw [Bool.and_eq_true, okD, okD, Bool.and_eq_true, Bool.and_eq_true] at ho
      exact .inr ⟨d.py, e.py, rx.dp le ho.1.1, ry.dp le ho.2.1, ho.1.2, ho.2.2, rfl⟩
    · cases h
theorem ro_eq : RO K (rEqA K) eqM := by
  intro dk F H st x y d e z w rx ry hz Q q
  obtain ⟨b, hb, rfl⟩ := mpd hz
  have q0 := q (.bl b) F H (Px.refl w.sub) (.bl b)
  rcases eqB_ok w.sub rx ry hb with ⟨h1, h2⟩ | ⟨d', e', h1, h2, h3, h4, h5⟩
  · exact .inl ⟨h1, by rw [h2]; exact q0⟩
  · exact .inr ⟨d', e', h1, h2, h3, h4, by rw [h5]; exact q0⟩
theorem ro_ne : RO K (rNeA K) neM := by
  intro dk F H st x y d e z w rx ry hz Q q
  obtain ⟨b, hb, rfl⟩ := mpd hz
  have q0 := q (.bl (!b)) F H (Px.refl w.sub) (.bl (!b))
  rcases eqB_ok w.sub rx ry hb with ⟨h1, h2⟩ | ⟨d', e', h1, h2, h3, h4, h5⟩
  · exact .inl ⟨h1, by rw [h2]; exact q0⟩
  · exact .inr ⟨d', e', h1, h2, h3, h4, by rw [h5]; exact q0⟩
theorem op_eqA {X : Cx} (hu : X.A.units + 64 < cLine) : OpR X (compareOp .Eq) (rEqA X.K) := OpR.or op_eq (op_eqD hu)
theorem op_neA {X : Cx} (hu : X.A.units + 64 < cLine) : OpR X (compareOp .NotEq) (rNeA X.K) := OpR.or op_ne (op_neD hu)

/-! ### is None -/
def nonD : D → Bool
  | .non => true
  | _ => false
def isM : D → D → Option D
  | d, .non => some (.bl (nonD d))
  | _, _ => none
def isNotM : D → D → Option D
  | d, .non => some (.bl (!nonD d))
  | _, _ => none
theorem Rw.isN {v : V} {d : D} (r : Rw K dk F H v d) : decide (v = .non) = nonD d := by
  rw [r.isNon]; cases d <;> rfl
theorem ro_is : RO K (fun x y H Q => y = .non ∧ Q (.bl (decide (x = .non))) H) isM := by
  intro dk F H st x y d e z w rx ry hz Q q
  unfold isM at hz
  split at hz
  · cases hz
    exact ⟨ry.non, by rw [rx.isN]; exact q _ F H (Px.refl w.sub) (.bl _)⟩
  · cases hz
theorem ro_isNot : RO K (fun x y H Q => y = .non ∧ Q (.bl (!decide (x = .non))) H) isNotM := by
  intro dk F H st x y d e z w rx ry hz Q q
  unfold isNotM at hz
  split at hz
  · cases hz
    exact ⟨ry.non, by rw [rx.isN]; exact q _ F H (Px.refl w.sub) (.bl _)⟩
  · cases hz

/-! ### in -/
def signOf (a : Str) : Option Nat := match a.cps.toList with
  | [c] => some c
  | _ => none
theorem signOf_eq {a : Str} {c : Nat} (h : signOf a = some c) : a = ⟨#[c]⟩ := by
  unfold signOf at h
  split at h
  · rename_i c' hc
    cases h
    obtain ⟨⟨l⟩⟩ := a
    have : l = [c] := hc
    rw [this]
  · cases h
def inSign : D → D → Option D
  | .str a, .str z => (signOf a).map fun c => .bl (decide (c ∈ z.cps.toList))
  | _, _ => none
def notInSign : D → D → Option D
  | .str a, .str z => (signOf a).map fun c => .bl (!decide (c ∈ z.cps.toList))
  | _, _ => none
theorem ro_inSign : RO K (fun x y H Q => ∃ (c : Nat) (z : Str), x = .str ⟨#[c]⟩ ∧ y = .str z ∧ Q (.bl (decide (c ∈ z.cps.toList))) H) inSign := by
  intro dk F H st x y d e z w rx ry hz Q q
  unfold inSign at hz
  split at hz
  · obtain ⟨c, hc, rfl⟩ := mpd hz
    exact ⟨c, _, by rw [rx.str, signOf_eq hc], ry.str, q _ F H (Px.refl w.sub) (.bl _)⟩
  · cases hz
theorem ro_notInSign : RO K (fun x y H Q => ∃ (c : Nat) (z : Str), x = .str ⟨#[c]⟩ ∧ y = .str z ∧ Q (.bl (!decide (c ∈ z.cps.toList))) H) notInSign := by
  intro dk F H st x y d e z w rx ry hz Q q
  unfold notInSign at hz
  split at hz
  · obtain ⟨c, hc, rfl⟩ := mpd hz
    exact ⟨c, _, by rw [rx.str, signOf_eq hc], ry.str, q _ F H (Px.refl w.sub) (.bl _)⟩
  · cases hz
def flatD : D → Bool
  | .non => true | .bl _ => true | .int _ => true | .str _ => true
  | _ => false
def eqFD : D → D → Bool
  | .non, .non => true
  | .bl a, .bl b => a == b
  | .bl a, .int b => (if a then 1 else 0) == b
  | .int a, .bl b => a == (if b then 1 else 0)
  | .int a, .int b => a == b
  | .str a, .str b => a == b
  | _, _ => false
theorem Rp.flat {v : V} {d : D} (r : Rp K dk F v d) (h : flatD d = true) : flatV v = true := by
  cases r <;> first | rfl | cases h
theorem Rp.eqF {v u : V} {d e : D} (r : Rp K dk F v d) (r' : Rp K dk F u e) (h : flatD d = true) (h' : flatD e = true) : eqV v u = eqFD d e := by
  cases r <;> first | (cases r' <;> first | rfl | cases h') | cases h
theorem Rw.flat {v : V} {d : D} (r : Rw K dk F H v d) (h : flatD d = true) : Rp K dk F v d := by
  cases r with
  | rp r => exact r
  | lst _ _ => cases h
  | dic _ _ _ => cases h
def inB (x : D) (ys : List D) : Bool := ys.any fun y => eqFD y x
theorem Rps.inV {x : V} {d : D} (r : Rp K dk F x d) (h : flatD d = true) : ∀ {vs : List V} {ds : List D}, Rps K dk F vs ds → ds.all flatD = true → vs.all flatV = true ∧ L2.inV x vs = inB d ds
  | _, _, .nil, _ => ⟨rfl, rfl⟩
  | _, _, .cons a b, p => by
    rw [List.all_cons, Bool.and_eq_true] at p
    obtain ⟨h1, h2⟩ := Rps.inV r h b p.2
    refine ⟨by rw [List.all_cons, a.flat p.1, h1]; rfl, ?_⟩
    unfold L2.inV inB at h2 ⊢
    rw [List.any_cons, List.any_cons, h2, a.eqF r p.1 h]
def inSeq (neg : Bool) : D → D → Option D
  | x, .lst ds => if flatD x && ds.all flatD then some (.bl (if neg then !inB x ds else inB x ds)) else none
  | x, .tup ds => if flatD x && ds.all flatD then some (.bl (if neg then !inB x ds else inB x ds)) else none
  | _, _ => none
theorem ro_inSeq (neg : Bool) : RO K (rIn K neg) (inSeq neg) := by
  intro dk F H st x y d e z w rx ry hz Q q
  unfold inSeq at hz
  split at hz
  · split at hz
    · rename_i ho
      cases hz
      rw [Bool.and_eq_true] at ho
      obtain ⟨p, vs, rfl, hl, r⟩ := ry.l w.sub
      have rx' := rx.flat ho.1
      obtain ⟨h1, h2⟩ := r.inV rx' ho.1 ho.2
      exact ⟨p, vs, rfl, .inl (SqL.of hl), rx'.flat ho.1, h1, by rw [h2]; exact q _ F H (Px.refl w.sub) (.bl _)⟩
    · cases hz
  · split at hz
    · rename_i ho
      cases hz
      rw [Bool.and_eq_true] at ho
      obtain ⟨p, vs, rfl, hl, r⟩ := ry.tup w.sub
      have rx' := rx.flat ho.1
      obtain ⟨h1, h2⟩ := r.inV rx' ho.1 ho.2
      exact ⟨p, vs, rfl, .inr hl, rx'.flat ho.1, h1, by rw [h2]; exact q _ F H (Px.refl w.sub) (.bl _)⟩
    · cases hz
  · cases hz

/-! ### a[i] -/
theorem Rps.atI {vs : List V} {ds : List D} {i : Int} {d : D} (r : Rps K dk F vs ds) (h : L2.atI ds i = some d) : ∃ v, L2.atI vs i = some v ∧ Rp K dk F v d := by
  unfold L2.atI at h ⊢
  obtain ⟨j, h1, h2⟩ := bnd h
  obtain ⟨v, h3, h4⟩ := r.get h2
  exact ⟨v, by rw [r.length, h1]; exact h3, h4⟩
def ixM : D → D → Option D
  | .lst ds, .int i => L2.atI ds i
  | .tup ds, .int i => L2.atI ds i
  | .str z, .int i => if z.length ≤ sizeLine then (L2.atI z.cps.toList i).map fun c => .str ⟨#[c]⟩ else none
  | _, _ => none
theorem ro_ix : RO K (rIx K) ixM := by
  intro dk F H st x y d e z w rx ry hz Q q
  unfold ixM at hz
  split at hz
  · obtain ⟨p, vs, rfl, hl, r⟩ := rx.l w.sub
    obtain ⟨v, h1, h2⟩ := r.atI hz
    exact .inl ⟨p, vs, _, v, rfl, ry.int, SqL.of hl, h1, q _ F H (Px.refl w.sub) h2⟩
  · obtain ⟨p, vs, rfl, hl, r⟩ := rx.tup w.sub
    obtain ⟨v, h1, h2⟩ := r.atI hz
    exact .inr (.inl ⟨p, vs, _, v, rfl, ry.int, hl, h1, q _ F H (Px.refl w.sub) h2⟩)
  · split at hz
    · rename_i ho
      obtain ⟨c, h1, rfl⟩ := mpd hz
      exact .inr (.inr ⟨_, _, c, rx.str, ry.int, ho, h1, q _ F H (Px.refl w.sub) (.str _)⟩)
    · cases hz
  · cases hz
end
end MD

set_option Elab.async false
set_option linter.all false
set_option maxRecDepth 100000
set_option maxHeartbeats 1000000
namespace MD
open PySem L2

section
variable {K : Fg} {dk : Dk} {F F' F0 : Fz} {H H' H0 : Hp} {σ : L2.St} {env : Sg} {st : S}
/-! ### slices -/
abbrev MO := Sg → S → Option (Option Int × S)
def ImO (K : Fg) (to : TO) (f : MO) : Prop := ∀ (dk : Dk) (H0 : Hp) (F0 F : Fz) (σ : L2.St) (H : Hp) (env : Sg) (st : S) (o : Option Int) (st' : S), Good K dk H0 F0 F σ H env st → f env st = some (o, st') →
  ∀ Q : Option Int → Hp → Prop, (∀ F' H', Ext dk F H F' H' → Good K dk H0 F0 F' σ H' env st' → Q o H') → to σ H Q
def noP : MO := fun _ st => some (none, st)
def intOf : D → Option Int
  | .int i => some i
  | _ => none
def prt (f : ME) : MO := fun env st => (f env st).bind fun p => (intOf p.1).map fun i => (some i, p.2)
theorem io_none : ImO K tNoPart noP := fun dk H0 F0 F σ H env st o st' g e Q q => by
  cases e
  exact q F H (Ext.refl F H) g
theorem io_some {te : TE} {f : ME} (h : ImW K te f) : ImO K (tPart te) (prt f) := fun dk H0 F0 F σ H env st o st' g e Q q => by
  obtain ⟨⟨x, s1⟩, h1, e⟩ := bnd e
  obtain ⟨i, h2, e⟩ := mpd e
  cases e
  refine h dk H0 F0 F σ H env st x s1 g h1 _ fun v F' H' x1 g1 r1 => ?_
  have hx : x = .int i := by
    cases x <;> first | (cases h2; rfl) | cases h2
  subst hx
  exact ⟨i, r1.w.int, q F' H' x1 g1⟩
def RS (K : Fg) (r : V → Option Int → Option Int → Hp → VK → Prop) (f : D → Option Int → Option Int → Option D) : Prop := ∀ (dk : Dk) (F : Fz) (H : Hp) (st : S) (x : V) (d z : D) (lo hi : Option Int), Wd K dk F H st → Rw K dk F H x d → f d lo hi = some z →
  ∀ Q : VK, (∀ v F' H', Px F H F' H' → Rp K dk F' v z → Q v H') → r x lo hi H Q
theorem RS.or {r r' : V → Option Int → Option Int → Hp → VK → Prop} {f f' : D → Option Int → Option Int → Option D} (h : RS K r f) (h' : RS K r' f') :
    RS K (fun x lo hi H Q => r x lo hi H Q ∨ r' x lo hi H Q) (fun d lo hi => (f d lo hi).orElse fun _ => f' d lo hi) := by
  intro dk F H st x d z lo hi w rx hz Q q
  replace hz : ((f d lo hi).orElse fun _ => f' d lo hi) = some z := hz
  cases hf : f d lo hi with
  | some y' =>
    rw [hf] at hz
    have : some y' = some z := hz
    cases this
    exact .inl (h dk F H st x d z lo hi w rx hf Q q)
  | none =>
    rw [hf] at hz
    exact .inr (h' dk F H st x d z lo hi w rx hz Q q)
def slM (f : D → Option Int → Option Int → Option D) (fe : ME) (fl fh : MO) : ME := fun env st => (fe env st).bind fun p => (fl env p.2).bind fun l => (fh env l.2).bind fun u => (f (dr u.2 p.1) l.1 u.1).map fun z => (z, u.2)
theorem im_sl {r : V → Option Int → Option Int → Hp → VK → Prop} {f : D → Option Int → Option Int → Option D} {te : TE} {tl th : TO} {fe : ME} {fl fh : MO} (hr : RS K r f) (he : ImW K te fe) (hl : ImO K tl fl) (hh : ImO K th fh) :
    Im K (tSl r te tl th) (slM f fe fl fh) := fun dk H0 F0 F σ H env st d st' g e Q q => by
  obtain ⟨⟨x, s1⟩, h1, e⟩ := bnd e
  obtain ⟨⟨l, s2⟩, h2, e⟩ := bnd e
  obtain ⟨⟨u, s3⟩, h3, e⟩ := bnd e
  obtain ⟨z, h4, e⟩ := mpd e
  cases e
  refine he dk H0 F0 F σ H env st x s1 g h1 _ fun v F1 H1 x1 g1 r1 => ?_
  refine hl dk H0 F0 F1 σ H1 env s1 l s2 g1 h2 _ fun F2 H2 x2 g2 => ?_
  refine hh dk H0 F0 F2 σ H2 env s2 u s3 g2 h3 _ fun F3 H3 x3 g3 => ?_
  exact hr dk F3 H3 s3 v _ d l u g3.wd (((r1.ext x2).ext x3).dr g3.wd) h4 Q fun w F4 H4 px r4 => q w F4 H4 (((x1.trans x2).trans x3).trans px.ext) (g3.px px) r4
def cutD (ds : List D) (lo hi : Option Int) : List D := (ds.drop (HT.sIx ds.length 0 lo)).take (HT.sIx ds.length ds.length hi - HT.sIx ds.length 0 lo)
theorem Rps.cut {vs : List V} {ds : List D} (r : Rps K dk F vs ds) (lo hi : Option Int) : Rps K dk F (cutV vs lo hi) (cutD ds lo hi) := by
  unfold cutV cutD
  rw [r.length]
  exact (r.drop _).take _
def slTup : D → Option Int → Option Int → Option D
  | .tup ds, lo, hi => some (.tup (cutD ds lo hi))
  | _, _, _ => none
def slLst : D → Option Int → Option Int → Option D
  | .lst ds, lo, hi => some (.lst (cutD ds lo hi))
  | _, _, _ => none
def slStr : D → Option Int → Option Int → Option D
  | .str z, lo, hi => if z.length ≤ sizeLine then some (.str (cutS z lo hi)) else none
  | _, _, _ => none
theorem rs_tup : RS K (rSlA K) slTup := by
  intro dk F H st x d z lo hi w rx hz Q q
  unfold slTup at hz
  split at hz
  · cases hz
    obtain ⟨p, vs, rfl, hl, r⟩ := rx.tup w.sub
    refine ⟨p, vs, rfl, hl, fun hw => ?_, fun _ a ha => ?_⟩
    · have e : ∀ ds : List D, vs.length = ds.length → cutD ds lo hi = ds := fun ds hl => by
        unfold cutD
        rw [← hl, hw.1, hw.2]
        simp [hl]
      rw [e _ r.length] at q
      exact q _ F H (Px.refl w.sub) rx.tp
    · have px : Px F H (Fz.up F a (.tup (cutV vs lo hi))) (upd H a (.tup (cutV vs lo hi))) := Px.new w.sub ha
      exact q _ _ _ px (.tup (SqT.of Fz.up_same) ((r.cut lo hi).mono px.f))
  · cases hz
theorem rs_lst : RS K (rSlL K) slLst := by
  intro dk F H st x d z lo hi w rx hz Q q
  unfold slLst at hz
  split at hz
  · cases hz
    obtain ⟨p, vs, rfl, hl, r⟩ := rx.l w.sub
    refine ⟨p, vs, rfl, SqL.of hl, fun a ha => ?_⟩
    have px : Px F H (Fz.up F a (.lst (cutV vs lo hi))) (upd H a (.lst (cutV vs lo hi))) := Px.new w.sub ha
    exact q _ _ _ px (.lst Fz.up_same ((r.cut lo hi).mono px.f))
  · cases hz
theorem rs_str : RS K rSlS slStr := by
  intro dk F H st x d z lo hi w rx hz Q q
  unfold slStr at hz
  split at hz
  · split at hz
    · rename_i ho
      cases hz
      exact ⟨_, rx.str, ho, q _ F H (Px.refl w.sub) (.str _)⟩
    · cases hz
  · cases hz
def slAny : D → Option Int → Option Int → Option D := fun d lo hi => (slTup d lo hi).orElse fun _ => (slStr d lo hi).orElse fun _ => slLst d lo hi
theorem sl_any {X : Cx} : SlR X (fun x lo hi H Q => rSlA X.K x lo hi H Q ∨ rSlS x lo hi H Q ∨ rSlL X.K x lo hi H Q) := sl_tupA.or (sl_str.or sl_list)
theorem rs_any : RS K (fun x lo hi H Q => rSlA K x lo hi H Q ∨ rSlS x lo hi H Q ∨ rSlL K x lo hi H Q) slAny := rs_tup.or (rs_str.or rs_lst)

/-! ### arguments -/
def aNil : MA := fun _ st => some ([], st)
def aCons (f : ME) (r : MA) : MA := fun env st => (f env st).bind fun p => (r env p.2).map fun q => (p.1 :: q.1, q.2)
theorem ia_nil : ImA K tNil aNil := fun dk H0 F0 F σ H env st ds st' g e Q q => by
  cases e
  exact q [] F H (Ext.refl F H) g .nil
theorem ia_cons {te : TE} {ta : TA} {f : ME} {r : MA} (h : Im K te f) (hr : ImA K ta r) : ImA K (tCons te ta) (aCons f r) := fun dk H0 F0 F σ H env st ds st' g e Q q => by
  obtain ⟨⟨x, s1⟩, h1, e⟩ := bnd e
  obtain ⟨⟨xs, s2⟩, h2, e⟩ := mpd e
  cases e
  refine h dk H0 F0 F σ H env st x s1 g h1 _ fun v F1 H1 x1 g1 r1 => ?_
  exact hr dk H0 F0 F1 σ H1 env s1 xs s2 g1 h2 _ fun vs F2 H2 x2 g2 r2 => q (v :: vs) F2 H2 (x1.trans x2) g2 (.cons (r1.mono x2.f) r2)
theorem iaw_nil : ImAW K tNil aNil := fun dk H0 F0 F σ H env st ds st' g e Q q => by
  cases e
  exact q [] F H (Ext.refl F H) g .nil
theorem iaw_cons {te : TE} {ta : TA} {f : ME} {r : MA} (h : ImW K te f) (hr : ImAW K ta r) : ImAW K (tCons te ta) (aCons f r) := fun dk H0 F0 F σ H env st ds st' g e Q q => by
  obtain ⟨⟨x, s1⟩, h1, e⟩ := bnd e
  obtain ⟨⟨xs, s2⟩, h2, e⟩ := mpd e
  cases e
  refine h dk H0 F0 F σ H env st x s1 g h1 _ fun v F1 H1 x1 g1 r1 => ?_
  exact hr dk H0 F0 F1 σ H1 env s1 xs s2 g1 h2 _ fun vs F2 H2 x2 g2 r2 => q (v :: vs) F2 H2 (x1.trans x2) g2 (.cons (r1.ext x2) r2)
/-! displays -/
def tupM (a : MA) : ME := fun env st => (a env st).bind fun p => if p.1.length ≤ sizeLine then some (.tup p.1, p.2) else none
def lstM (a : MA) : MA := fun env st => (a env st).bind fun p => if p.1.length ≤ sizeLine then some p else none
theorem im_tup {ta : TA} {a : MA} (h : ImA K ta a) : Im K (tTup ta) (tupM a) := fun dk H0 F0 F σ H env st d st' g e Q q => by
  obtain ⟨⟨xs, s1⟩, h1, e⟩ := bnd e
  split at e
  · rename_i hz
    cases e
    refine h dk H0 F0 F σ H env st xs s1 g h1 _ fun vs F1 H1 x1 g1 r1 => ⟨by rw [r1.length]; exact hz, fun p hp => ?_⟩
    have px : Px F1 H1 (Fz.up F1 p (.tup vs)) (upd H1 p (.tup vs)) := Px.new g1.wd.sub hp
    exact q _ _ _ (x1.trans px.ext) (g1.px px) (.tup (SqT.of Fz.up_same) (r1.mono px.f))
  · cases e
theorem if_lst {ta : TA} {a : MA} (h : ImA K ta a) : ImF K (tLst ta) (lstM a) := fun dk H0 F0 F σ H env st d st' g e Q q => by
  obtain ⟨⟨xs, s1⟩, h1, e⟩ := bnd e
  split at e
  · rename_i hz
    cases e
    refine h dk H0 F0 F σ H env st d st' g h1 _ fun vs F1 H1 x1 g1 r1 => ⟨by rw [r1.length]; exact hz, fun p hp => ?_⟩
    have px : Px F1 H1 F1 (upd H1 p (.lst vs)) := Px.lay g1.wd.sub hp
    have h0 : H p = none := by
      cases w : H p with
      | none => rfl
      | some o => exact absurd hp (x1.m p (by rw [w]; exact fun z => nomatch z))
    exact q p vs F1 _ (x1.trans px.ext) (g1.px px) h0 (g1.wd.out hp) upd_same r1
  · cases e

/-! ### calls of built-ins -/
def RC (K : Fg) (r : List V → Hp → VK → Prop) (f : List D → Option D) : Prop := ∀ (dk : Dk) (F : Fz) (H : Hp) (st : S) (vs : List V) (ds : List D) (z : D), Wd K dk F H st → Rws K dk F H vs ds → f ds = some z →
  ∀ Q : VK, (∀ v F' H', Px F H F' H' → Rp K dk F' v z → Q v H') → r vs H Q
def cbM (f : List D → Option D) (a : MA) : ME := fun env st => (a env st).bind fun p => (f (p.1.map (dr p.2))).map fun z => (z, p.2)
theorem im_cb {r : List V → Hp → VK → Prop} {f : List D → Option D} {ta : TA} {a : MA} (hr : RC K r f) (ha : ImAW K ta a) : Im K (tCB r ta) (cbM f a) := fun dk H0 F0 F σ H env st d st' g e Q q => by
  obtain ⟨⟨xs, s1⟩, h1, e⟩ := bnd e
  obtain ⟨z, h2, e⟩ := mpd e
  cases e
  refine ha dk H0 F0 F σ H env st xs s1 g h1 _ fun vs F1 H1 x1 g1 r1 => ?_
  exact hr dk F1 H1 s1 vs _ d g1.wd (r1.dr g1.wd) h2 Q fun w F2 H2 px r2 => q w F2 H2 (x1.trans px.ext) (g1.px px) r2
theorem CallR.or {X : Cx} {f : Value} {r r' : List V → Hp → VK → Prop} (h : CallR X f r) (h' : CallR X f r') : CallR X f (fun xs H Q => r xs H Q ∨ r' xs H Q) := by
  intro pins s σ H xs us Q I rs q
  rcases q with q | q
  · exact h pins s σ H xs us Q I rs q
  · exact h' pins s σ H xs us Q I rs q
theorem RC.or {r r' : List V → Hp → VK → Prop} {f f' : List D → Option D} (h : RC K r f) (h' : RC K r' f') : RC K (fun xs H Q => r xs H Q ∨ r' xs H Q) (fun ds => (f ds).orElse fun _ => f' ds) := by
  intro dk F H st vs ds z w rx hz Q q
  replace hz : ((f ds).orElse fun _ => f' ds) = some z := hz
  cases hf : f ds with
  | some y' =>
    rw [hf] at hz
    have : some y' = some z := hz
    cases this
    exact .inl (h dk F H st vs ds z w rx hf Q q)
  | none =>
    rw [hf] at hz
    exact .inr (h' dk F H st vs ds z w rx hz Q q)
theorem Rys.ws : ∀ {vs : List V} {ds : List D}, Rys K dk F H vs ds → Rws K dk F H vs ds
  | _, _, .nil => .nil
  | _, _, .cons a b => .cons a.w (Rys.ws b)
theorem Rws.one {vs : List V} {d : D} (r : Rws K dk F H vs [d]) : ∃ v, vs = [v] ∧ Rw K dk F H v d := by
  cases r with
  | cons a b => cases b; exact ⟨_, rfl, a⟩
theorem Rws.two {vs : List V} {d e : D} (r : Rws K dk F H vs [d, e]) : ∃ v u, vs = [v, u] ∧ Rw K dk F H v d ∧ Rw K dk F H u e := by
  cases r with
  | cons a b => cases b with
    | cons b c => cases c; exact ⟨_, _, rfl, a, b⟩
def lenM : List D → Option D
  | [.str z] => if z.length ≤ sizeLine then some (.int z.length) else none
  | [.lst ds] => some (.int ds.length)
  | [.tup ds] => some (.int ds.length)
  | _ => none
theorem rc_len : RC K (fun xs H Q => ∃ x n, xs = [x] ∧ LenV K x H n ∧ Q (.int n) H) lenM := by
  intro dk F H st vs ds z w rx hz Q q
  unfold lenM at hz
  split at hz
  · split at hz
    · rename_i ho
      cases hz
      obtain ⟨v, rfl, r⟩ := rx.one
      cases r.str
      exact ⟨_, _, rfl, ⟨ho, rfl⟩, q _ F H (Px.refl w.sub) (.int _)⟩
    · cases hz
  · cases hz
    obtain ⟨v, rfl, r⟩ := rx.one
    obtain ⟨p, vs, rfl, hl, r⟩ := r.l w.sub
    exact ⟨_, vs.length, rfl, .inl ⟨vs, SqL.of hl, rfl⟩, by rw [r.length]; exact q _ F H (Px.refl w.sub) (.int _)⟩
  · cases hz
    obtain ⟨v, rfl, r⟩ := rx.one
    obtain ⟨p, vs, rfl, hl, r⟩ := r.tup w.sub
    exact ⟨_, vs.length, rfl, .inr ⟨vs, hl, rfl⟩, by rw [r.length]; exact q _ F H (Px.refl w.sub) (.int _)⟩
  · cases hz
def int1M : List D → Option D
  | [.int i] => some (.int i)
  | [.bl k] => some (.int (if k then 1 else 0))
  | _ => none
theorem rc_int1 : RC K (fun xs H Q => (∃ i, xs = [.int i] ∧ Q (.int i) H) ∨ ∃ k, xs = [.bl k] ∧ Q (.int (if k then 1 else 0)) H) int1M := by
  intro dk F H st vs ds z w rx hz Q q
  unfold int1M at hz
  split at hz
  · cases hz
    obtain ⟨v, rfl, r⟩ := rx.one
    cases r.int
    exact .inl ⟨_, rfl, q _ F H (Px.refl w.sub) (.int _)⟩
  · cases hz
    obtain ⟨v, rfl, r⟩ := rx.one
    cases r.bl
    exact .inr ⟨_, rfl, q _ F H (Px.refl w.sub) (.int _)⟩
  · cases hz
def absM : List D → Option D
  | [.int i] => some (.int (if i < 0 then -i else i))
  | _ => none
theorem rc_abs : RC K (fun xs H Q => ∃ i, xs = [.int i] ∧ Q (.int (if i < 0 then -i else i)) H) absM := by
  intro dk F H st vs ds z w rx hz Q q
  unfold absM at hz
  split at hz
  · cases hz
    obtain ⟨v, rfl, r⟩ := rx.one
    cases r.int
    exact ⟨_, rfl, q _ F H (Px.refl w.sub) (.int _)⟩
  · cases hz
/-! lists of ints, of texts -/
def intsOf : List D → Option (List Int)
  | [] => some []
  | .int i :: r => (intsOf r).map (i :: ·)
  | _ => none
def strsOf : List D → Option (List Str)
  | [] => some []
  | .str i :: r => (strsOf r).map (i :: ·)
  | _ => none
theorem Rps.ints : ∀ {vs : List V} {ds : List D} {ns : List Int}, Rps K dk F vs ds → intsOf ds = some ns → vs = ns.map V.int
  | _, _, _, .nil, h => by cases h; rfl
  | _, _, _, .cons a b, h => by
    rename_i d ds
    cases d with
    | int i =>
      obtain ⟨ms, h1, h2⟩ := mpd (f := (i :: ·)) h
      cases h2
      cases a
      rw [Rps.ints b h1]
      rfl
    | _ => cases h
theorem Rps.strs : ∀ {vs : List V} {ds : List D} {ns : List Str}, Rps K dk F vs ds → strsOf ds = some ns → vs = ns.map V.str
  | _, _, _, .nil, h => by cases h; rfl
  | _, _, _, .cons a b, h => by
    rename_i d ds
    cases d with
    | str i =>
      obtain ⟨ms, h1, h2⟩ := mpd (f := (i :: ·)) h
      cases h2
      cases a
      rw [Rps.strs b h1]
      rfl
    | _ => cases h
def sumM : List D → Option D
  | [.lst ds] => (intsOf ds).map fun ns => .int ns.sum
  | _ => none
theorem rc_sum : RC K (rSum K) sumM := by
  intro dk F H st vs ds z w rx hz Q q
  unfold sumM at hz
  split at hz
  · obtain ⟨ns, h1, rfl⟩ := mpd hz
    obtain ⟨v, rfl, r⟩ := rx.one
    obtain ⟨p, vs, rfl, hl, r⟩ := r.l w.sub
    cases r.ints h1
    exact ⟨p, ns, rfl, SqL.of hl, q _ F H (Px.refl w.sub) (.int _)⟩
  · cases hz
def topI : List Int → Int
  | [] => 0
  | [x] => x
  | x :: y :: r => if topI (y :: r) > x then topI (y :: r) else x
def botI : List Int → Int
  | [] => 0
  | [x] => x
  | x :: y :: r => if botI (y :: r) < x then botI (y :: r) else x
theorem topI_spec : ∀ (l : List Int), l ≠ [] → topI l ∈ l ∧ ∀ y ∈ l, y ≤ topI l
  | [], h => absurd rfl h
  | [x], _ => ⟨by simp [topI], fun y hy => by simp at hy; simp [topI, hy]⟩
  | x :: y :: r, _ => by
    obtain ⟨h1, h2⟩ := topI_spec (y :: r) (by simp)
    unfold topI
    split
    · rename_i hc
      refine ⟨List.mem_cons_of_mem _ h1, fun z hz => ?_⟩
      rcases List.mem_cons.mp hz with e | e
      · subst e; omega
      · exact h2 z e
    · rename_i hc
      refine ⟨List.mem_cons_self, fun z hz => ?_⟩
      rcases List.mem_cons.mp hz with e | e
      · subst e; omega
      · have := h2 z e; omega
theorem botI_spec : ∀ (l : List Int), l ≠ [] → botI l ∈ l ∧ ∀ y ∈ l, botI l ≤ y
  | [], h => absurd rfl h
  | [x], _ => ⟨by simp [botI], fun y hy => by simp at hy; simp [botI, hy]⟩
  | x :: y :: r, _ => by
    obtain ⟨h1, h2⟩ := botI_spec (y :: r) (by simp)
    unfold botI
    split
    · rename_i hc
      refine ⟨List.mem_cons_of_mem _ h1, fun z hz => ?_⟩
      rcases List.mem_cons.mp hz with e | e
      · subst e; omega
      · exact h2 z e
    · rename_i hc
      refine ⟨List.mem_cons_self, fun z hz => ?_⟩
      rcases List.mem_cons.mp hz with e | e
      · subst e; omega
      · have := h2 z e; omega
def maxM : List D → Option D
  | [.lst (d :: ds)] => (intsOf (d :: ds)).map fun ns => .int (topI ns)
  | _ => none
def minM : List D → Option D
  | [.lst (d :: ds)] => (intsOf (d :: ds)).map fun ns => .int (botI ns)
  | _ => none
theorem intsOf_len : ∀ {ds : List D} {ns : List Int}, intsOf ds = some ns → ns.length = ds.length
  | [], _, h => by cases h; rfl
  | d :: ds, ns, h => by
    cases d with
    | int i =>
      obtain ⟨ms, h1, h2⟩ := mpd (f := (i :: ·)) h
      cases h2
      simp [intsOf_len h1]
    | _ => cases h
theorem rc_max : RC K (rMax K) maxM := by
  intro dk F H st vs ds z w rx hz Q q
  unfold maxM at hz
  split at hz
  · obtain ⟨ns, h1, rfl⟩ := mpd hz
    obtain ⟨v, rfl, r⟩ := rx.one
    obtain ⟨p, vs, rfl, hl, r⟩ := r.l w.sub
    cases r.ints h1
    have hn := intsOf_len h1
    simp at hn
    obtain ⟨t1, t2⟩ := topI_spec ns (fun z => by rw [z] at hn; cases hn)
    refine ⟨p, ns, rfl, SqL.of hl, by omega, fun m hm hy => ?_⟩
    have e : m = topI ns := by have := t2 m hm; have := hy _ t1; omega
    rw [e]
    exact q _ F H (Px.refl w.sub) (.int _)
  · cases hz
theorem rc_min : RC K (rMin K) minM := by
  intro dk F H st vs ds z w rx hz Q q
  unfold minM at hz
  split at hz
  · obtain ⟨ns, h1, rfl⟩ := mpd hz
    obtain ⟨v, rfl, r⟩ := rx.one
    obtain ⟨p, vs, rfl, hl, r⟩ := r.l w.sub
    cases r.ints h1
    have hn := intsOf_len h1
    simp at hn
    obtain ⟨t1, t2⟩ := botI_spec ns (fun z => by rw [z] at hn; cases hn)
    refine ⟨p, ns, rfl, SqL.of hl, by omega, fun m hm hy => ?_⟩
    have e : m = botI ns := by have := t2 m hm; have := hy _ t1; omega
    rw [e]
    exact q _ F H (Px.refl w.sub) (.int _)
  · cases hz
/-! tuple(..) -/
def tupOfM : List D → Option D
  | [.lst ds] => some (.tup ds)
  | [.tup ds] => some (.tup ds)
  | _ => none
theorem rc_tupOf : RC K (fun xs H Q => ∃ p ys, xs = [.ref p] ∧ ((SqL K H p ys ∧ ∀ l, H l = none → Q (.ref l) (upd H l (.tup ys))) ∨ (SqT K H p ys ∧ Q (.ref p) H))) tupOfM := by
  intro dk F H st vs ds z w rx hz Q q
  unfold tupOfM at hz
  split at hz
  · cases hz
    obtain ⟨v, rfl, r⟩ := rx.one
    obtain ⟨p, vs, rfl, hl, r⟩ := r.l w.sub
    refine ⟨p, vs, rfl, .inl ⟨SqL.of hl, fun a ha => ?_⟩⟩
    have px : Px F H (Fz.up F a (.tup vs)) (upd H a (.tup vs)) := Px.new w.sub ha
    exact q _ _ _ px (.tup (SqT.of Fz.up_same) (r.mono px.f))
  · cases hz
    obtain ⟨v, rfl, r⟩ := rx.one
    obtain ⟨p, vs, rfl, hl, r'⟩ := r.tup w.sub
    refine ⟨p, vs, rfl, .inr ⟨hl, ?_⟩⟩
    exact q _ F H (Px.refl w.sub) r.tp
  · cases hz
/-- the signs of a text -/
def signs (x : Str) : List Str := x.cps.toList.map fun c => ⟨#[c]⟩
def tupStrM : List D → Option D
  | [.str x] => if x.cps.size ≤ sizeLine then some (.tup ((signs x).map D.str)) else none
  | _ => none
theorem Rps.ofStrs : ∀ (xs : List Str), Rps K dk F (xs.map V.str) (xs.map D.str)
  | [] => .nil
  | x :: xs => .cons (.str x) (Rps.ofStrs xs)
theorem Rps.ofInts : ∀ (xs : List Int), Rps K dk F (xs.map V.int) (xs.map D.int)
  | [] => .nil
  | x :: xs => .cons (.int x) (Rps.ofInts xs)
theorem call_tupStr {X : Cx} (hc : X.calm = true) : CallR X (.type "tuple") (fun xs H Q => ∃ x, xs = [.str x] ∧ x.cps.size ≤ sizeLine ∧ ∀ p, H p = none → Q (.ref p) (upd H p (.tup ((signs x).map V.str)))) := by
  intro pins s σ H xs us Q I rs h
  obtain ⟨x, rfl, hz, q⟩ := h
  obtain ⟨u, rfl, rx⟩ := vals1 rs
  obtain ⟨t, rfl⟩ := rx
  refine call_tuple_str (I.ok.hd hc) x t (fun h' tk acc hk hi => ?_) hz
  have I' : Inv X pins σ H { s with heap := h', toks := tk } := I.kept (t' := tk) hk
  have lenA : acc.toList.length = (signs x).length := by
    unfold signs
    rw [List.length_map, Array.length_toList, Array.length_toList]
    exact hi.1
  have vals : Vals ((signs x).map V.str) acc.toList := by
    have key : ∀ (l : List Value) (m : List Nat), l.length = m.length → (∀ (j : Nat) (v : Value), l[j]? = some v → ∃ c u, m[j]? = some c ∧ v = .str ⟨#[c]⟩ u) → Vals ((m.map fun c => (⟨#[c]⟩ : Str)).map V.str) l := by
      intro l
      induction l with
      | nil => intro m hm _; cases m with
        | nil => exact .nil
        | cons _ _ => cases hm
      | cons a l ih => intro m hm hj; cases m with
        | nil => cases hm
        | cons c m =>
          obtain ⟨c', u, e1, e2⟩ := hj 0 a rfl
          have e1' : c = c' := Option.some.inj e1
          subst e1' e2
          exact .cons ⟨u, rfl⟩ (ih m (by simpa using hm) fun j v hv => hj (j + 1) v hv)
    refine key acc.toList x.cps.toList (by simpa [signs] using lenA) fun j v hv => ?_
    obtain ⟨c, u, h1, h2⟩ := hi.2 j v (by simpa using hv)
    exact ⟨c, u, by simpa using h1, h2⟩
  have hf : H h'.objs.size = none := I'.hok.fresh (Nat.le_refl _)
  refine ⟨.ref h'.objs.size, upd H h'.objs.size (.tup ((signs x).map V.str)), I'.laid (t' := tk) (fun b o e => Heap.get?_push_of_some _ e) (Nat.le_refl _) ?_, rfl, q _ hf⟩
  refine ⟨?_, acc.toList, vals, ⟨_, Heap.get?_push_size _ rfl, rfl, _, rfl⟩⟩
  rw [List.length_map]
  unfold signs
  rw [List.length_map, Array.length_toList]
  exact hz
theorem rc_tupStr : RC K (fun xs H Q => ∃ x, xs = [.str x] ∧ x.cps.size ≤ sizeLine ∧ ∀ p, H p = none → Q (.ref p) (upd H p (.tup ((signs x).map V.str)))) tupStrM := by
  intro dk F H st vs ds z w rx hz Q q
  unfold tupStrM at hz
  split at hz
  · rename_i y
    split at hz
    · rename_i ho
      cases hz
      obtain ⟨v, rfl, r⟩ := rx.one
      cases r.str
      refine ⟨_, rfl, ho, fun a ha => ?_⟩
      have px : Px F H (Fz.up F a (.tup ((signs y).map V.str))) (upd H a (.tup ((signs y).map V.str))) := Px.new w.sub ha
      exact q _ _ _ px (.tup (SqT.of Fz.up_same) (Rps.ofStrs _))
    · cases hz
  · cases hz
end
end MD

set_option Elab.async false
set_option linter.all false
set_option maxRecDepth 100000
set_option maxHeartbeats 1000000
namespace MD
open PySem L2

section
variable {K : Fg} {dk : Dk} {F F' F0 : Fz} {H H' H0 : Hp} {σ : L2.St} {env : Sg} {st : S}
/-! ### methods of built-in kinds -/
def RM (K : Fg) (r : V → List V → Hp → VK → Prop) (f : D → List D → Option D) : Prop := ∀ (dk : Dk) (F : Fz) (H : Hp) (st : S) (x : V) (d : D) (vs : List V) (ds : List D) (z : D), Wd K dk F H st → Rw K dk F H x d → Rws K dk F H vs ds → f d ds = some z →
  ∀ Q : VK, (∀ v F' H', Px F H F' H' → Rp K dk F' v z → Q v H') → r x vs H Q
def isStrD : D → Bool
  | .str _ => true
  | _ => false
def isLstD : D → Bool
  | .lst _ => true
  | _ => false
def m1M (f : D → List D → Option D) (fo fe : ME) : ME := fun env st => (fo env st).bind fun p => if isStrD p.1 then (fe env p.2).bind fun q => (f p.1 [dr q.2 q.1]).map fun z => (z, q.2) else none
theorem im_m1 {r : V → List V → Hp → VK → Prop} {f : D → List D → Option D} {to te : TE} {fo fe : ME} (hr : RM K r f) (ho : ImW K to fo) (he : ImW K te fe) : Im K (tM1 r to te) (m1M f fo fe) := fun dk H0 F0 F σ H env st d st' g e Q q => by
  obtain ⟨⟨x, s1⟩, h1, e⟩ := bnd e
  split at e
  · rename_i hs
    obtain ⟨⟨y, s2⟩, h2, e⟩ := bnd e
    obtain ⟨z, h3, e⟩ := mpd e
    cases e
    refine ho dk H0 F0 F σ H env st x s1 g h1 _ fun v F1 H1 x1 g1 r1 => ⟨?_, ?_⟩
    · have hs' : isStrD x = true := hs
      cases x <;> first | exact ⟨_, r1.w.str⟩ | cases hs'
    · refine he dk H0 F0 F1 σ H1 env s1 y s2 g1 h2 _ fun u F2 H2 x2 g2 r2 => ?_
      exact hr dk F2 H2 s2 v x [u] [dr s2 y] d g2.wd (r1.ext x2).w (.cons (r2.dr g2.wd) .nil) h3 Q fun w F3 H3 px r3 => q w F3 H3 ((x1.trans x2).trans px.ext) (g2.px px) r3
  · cases e
def bmL (f : D → List D → Option D) (fo : ME) (fa : MA) : ME := fun env st => (fo env st).bind fun p => if isLstD (dr p.2 p.1) then (fa env p.2).bind fun q => (f (dr q.2 p.1) (q.1.map (dr q.2))).map fun z => (z, q.2) else none
theorem im_bmL {r : V → List V → Hp → VK → Prop} {f : D → List D → Option D} {to : TE} {ta : TA} {fo : ME} {fa : MA} (hr : RM K r f) (ho : ImW K to fo) (ha : ImAW K ta fa) : Im K (tBM K "list" r to ta) (bmL f fo fa) := fun dk H0 F0 F σ H env st d st' g e Q q => by
  obtain ⟨⟨x, s1⟩, h1, e⟩ := bnd e
  split at e
  · rename_i hs
    obtain ⟨⟨y, s2⟩, h2, e⟩ := bnd e
    obtain ⟨z, h3, e⟩ := mpd e
    cases e
    refine ho dk H0 F0 F σ H env st x s1 g h1 _ fun v F1 H1 x1 g1 r1 => ⟨?_, ?_⟩
    · have hs' : isLstD (dr s1 x) = true := hs
      have r1' := r1.dr g1.wd
      generalize dr s1 x = x' at hs' r1'
      cases x' with
      | lst ds =>
        obtain ⟨p, vs, rfl, hl, r⟩ := r1'.l g1.wd.sub
        exact .inl ⟨rfl, vs, SqL.of hl⟩
      | _ => cases hs'
    · refine ha dk H0 F0 F1 σ H1 env s1 y s2 g1 h2 _ fun us F2 H2 x2 g2 r2 => ?_
      exact hr dk F2 H2 s2 v _ us _ d g2.wd ((r1.ext x2).dr g2.wd) (r2.dr g2.wd) h3 Q fun w F3 H3 px r3 => q w F3 H3 ((x1.trans x2).trans px.ext) (g2.px px) r3
  · cases e
/-- text.index(text) -/
def sindexM : D → List D → Option D
  | .str a, [.str b] => match Builtin.Str.occurrences a b 0 a.length 1 with
    | i :: _ => some (.int (i : Nat))
    | [] => none
  | _, _ => none
theorem rm_sindex : RM K (fun x xs H Q => ∃ a b i rest, x = .str a ∧ xs = [.str b] ∧ Builtin.Str.occurrences a b 0 a.length 1 = i :: rest ∧ Q (.int (i : Nat)) H) sindexM := by
  intro dk F H st x d vs ds z w rx rs hz Q q
  unfold sindexM at hz
  split at hz
  · split at hz
    · rename_i i rest ho
      cases hz
      obtain ⟨v, rfl, r⟩ := rs.one
      cases r.str
      exact ⟨_, _, i, rest, rx.str, rfl, ho, q _ F H (Px.refl w.sub) (.int _)⟩
    · cases hz
  · cases hz
/-- list.index(flat) -/
def lindexM : D → List D → Option D
  | .lst ys, [y] => if flatD y && ys.all flatD then (ys.findIdx? fun z => eqFD z y).map fun j => .int (j : Nat) else none
  | _, _ => none
theorem Rps.allFlat : ∀ {vs : List V} {ds : List D}, Rps K dk F vs ds → ds.all flatD = true → vs.all flatV = true
  | _, _, .nil, _ => rfl
  | _, _, .cons a b, p => by
    rw [List.all_cons, Bool.and_eq_true] at p
    rw [List.all_cons, a.flat p.1, Rps.allFlat b p.2]; rfl
theorem rm_lindex : RM K (rIndex K) lindexM := by
  intro dk F H st x d vs ds z w rx rs hz Q q
  unfold lindexM at hz
  split at hz
  · rename_i ys y
    split at hz
    · rename_i ho
      rw [Bool.and_eq_true] at ho
      obtain ⟨j, hj, rfl⟩ := mpd hz
      obtain ⟨v, rfl, r⟩ := rs.one
      obtain ⟨p, us, rfl, hl, r2⟩ := rx.l w.sub
      have rv := r.flat ho.1
      obtain ⟨hlt, hp, hm⟩ := List.findIdx?_eq_some_iff_getElem.mp hj
      have hat : ∀ (m : Nat) (z' : V), us[m]? = some z' → ∃ d', ys[m]? = some d' ∧ eqV z' v = eqFD d' y := fun m z' e => by
        obtain ⟨d', h1, h2⟩ := r2.getV e
        exact ⟨d', h1, h2.eqF rv (List.all_eq_true.mp ho.2 d' (List.mem_of_getElem? h1)) ho.1⟩
      obtain ⟨z', h1, h2⟩ := r2.get (i := j) (List.getElem?_eq_getElem hlt)
      refine ⟨p, us, v, j, z', rfl, rfl, SqL.of hl, rv.flat ho.1, r2.allFlat ho.2, h1, ?_, fun m z'' hlt' e => ?_, q _ F H (Px.refl w.sub) (.int _)⟩
      · obtain ⟨d', h3, h4⟩ := hat j z' h1
        rw [List.getElem?_eq_getElem hlt] at h3
        cases h3
        rw [h4]; exact hp
      · obtain ⟨d', h3, h4⟩ := hat m z'' e
        rw [h4]
        have hml : m < ys.length := Nat.lt_trans hlt' hlt
        rw [List.getElem?_eq_getElem hml] at h3
        cases h3
        have := hm m hlt'
        simpa using this
    · cases hz
  · cases hz
/-- text.join(list or tuple of texts) -/
def joinM : D → List D → Option D
  | .str a, [.lst ds] => (strsOf ds).bind fun ys => if (ys.map (·.length)).sum + ys.length * a.length ≤ 16777216 then some (.str (Txt.join a ys)) else none
  | .str a, [.tup ds] => (strsOf ds).bind fun ys => if (ys.map (·.length)).sum + ys.length * a.length ≤ 16777216 then some (.str (Txt.join a ys)) else none
  | _, _ => none
theorem rm_join : RM K (fun x xs H Q => ∃ a p, ∃ ys : List Str, x = .str a ∧ xs = [.ref p] ∧ (SqL K H p (ys.map V.str) ∨ SqT K H p (ys.map V.str)) ∧
    (ys.map (·.length)).sum + ys.length * a.length ≤ 16777216 ∧ Q (.str (Txt.join a ys)) H) joinM := by
  intro dk F H st x d vs ds z w rx rs hz Q q
  unfold joinM at hz
  split at hz
  · obtain ⟨ys, h1, hz⟩ := bnd hz
    split at hz
    · rename_i ho
      cases hz
      obtain ⟨v, rfl, r⟩ := rs.one
      obtain ⟨p, us, rfl, hl, r2⟩ := r.l w.sub
      cases r2.strs h1
      exact ⟨_, p, ys, rx.str, rfl, .inl (SqL.of hl), ho, q _ F H (Px.refl w.sub) (.str _)⟩
    · cases hz
  · obtain ⟨ys, h1, hz⟩ := bnd hz
    split at hz
    · rename_i ho
      cases hz
      obtain ⟨v, rfl, r⟩ := rs.one
      obtain ⟨p, us, rfl, hl, r2⟩ := r.tup w.sub
      cases r2.strs h1
      exact ⟨_, p, ys, rx.str, rfl, .inr hl, ho, q _ F H (Px.refl w.sub) (.str _)⟩
    · cases hz
  · cases hz

/-! ### repr -/
mutual
theorem Dp.noDict : ∀ {v : V} {d : PyData}, Dp K H v d → d.hasDict = false
  | _, _, .non => rfl
  | _, _, .bl _ => rfl
  | _, _, .int _ => rfl
  | _, _, .str _ => rfl
  | _, _, .lst _ r => by rw [PyData.hasDict]; exact Dp.noDictAll r
  | _, _, .tup _ r => by rw [PyData.hasDict]; exact Dp.noDictAll r
theorem Dp.noDictAll : ∀ {vs : List V} {ds : List PyData}, DpAll K H vs ds → PyData.hasDictAll ds = false
  | _, _, .nil => rfl
  | _, _, .cons a b => by rw [PyData.hasDictAll, Dp.noDict a, Dp.noDictAll b]; rfl
end
def rRepr (K : Fg) : List V → Hp → VK → Prop := fun xs H Q => ∃ x d, xs = [x] ∧ Dp K H x d ∧ d.showable = true ∧ d.depth ≤ 60 ∧ d.shown.length ≤ sizeLine ∧ Q (.str d.shown) H
theorem call_reprD {X : Cx} (hg : X.A.guards = some []) (hu : X.A.units + 64 < cLine) : CallR X (.builtin "repr") (rRepr X.K) := by
  intro pins s σ H xs us Q I rs h
  obtain ⟨x, d, rfl, hd, hs, hdp, hz, q⟩ := h
  obtain ⟨u, rfl, rx⟩ := vals1 rs
  cases id hd with
  | non => cases rx; exact PySem.P.repr_of_none ⟨.str _, H, I.tok _, ⟨_, rfl⟩, q⟩
  | bl b => cases rx; exact PySem.P.repr_of_bool ⟨.str _, H, I.tok _, ⟨_, rfl⟩, q⟩
  | int i =>
    obtain ⟨t, rfl⟩ := rx
    exact PySem.P.repr_of_int (by simpa [PyData.showable] using hs) ⟨.str _, H, I.tok _, ⟨_, rfl⟩, q⟩
  | str y =>
    obtain ⟨t, rfl⟩ := rx
    exact PySem.P.repr_of_str ⟨.str _, H, I.tok _, ⟨_, rfl⟩, q⟩ hz
  | lst h1 h2 =>
    cases rx
    obtain ⟨as, hr⟩ := Dp.reads I _ _ _ hd rfl
    exact repr_of_reads' hr hs (fun z => by rw [Dp.noDict hd] at z; cases z) hg (by omega) (fun _ _ e => e) (fun h' u tk hk => ⟨.str _, H, I.kept hk, ⟨_, rfl⟩, q⟩) hz
  | tup h1 h2 =>
    cases rx
    obtain ⟨as, hr⟩ := Dp.reads I _ _ _ hd rfl
    exact repr_of_reads' hr hs (fun z => by rw [Dp.noDict hd] at z; cases z) hg (by omega) (fun _ _ e => e) (fun h' u tk hk => ⟨.str _, H, I.kept hk, ⟨_, rfl⟩, q⟩) hz
def reprM : List D → Option D
  | [d] => if d.pl && d.py.showable && decide (d.py.depth ≤ 60) && decide (d.py.shown.length ≤ sizeLine) then some (.str d.py.shown) else none
  | _ => none
theorem rc_repr : RC K (rRepr K) reprM := by
  intro dk F H st vs ds z w rx hz Q q
  unfold reprM at hz
  split at hz
  · split at hz
    · rename_i ho
      cases hz
      simp only [Bool.and_eq_true, decide_eq_true_eq] at ho
      obtain ⟨v, rfl, r⟩ := rx.one
      exact ⟨v, _, rfl, r.dp w.sub ho.1.1.1, ho.1.1.2, ho.1.2, ho.2, q _ F H (Px.refl w.sub) (.str _)⟩
    · cases hz
  · cases hz
def strIntM : List D → Option D
  | [.int i] => if i.natAbs.log2 < 1920 then some (.str (toString i)) else none
  | _ => none
theorem rc_strInt : RC K (fun xs H Q => ∃ i, xs = [.int i] ∧ i.natAbs.log2 < 1920 ∧ Q (.str (toString i)) H) strIntM := by
  intro dk F H st vs ds z w rx hz Q q
  unfold strIntM at hz
  split at hz
  · split at hz
    · rename_i ho
      cases hz
      obtain ⟨v, rfl, r⟩ := rx.one
      cases r.int
      exact ⟨_, rfl, ho, q _ F H (Px.refl w.sub) (.str _)⟩
    · cases hz
  · cases hz

/-! ### one-place operations -/
def unI (g : Int → D) : D → Option D
  | .int i => some (g i)
  | _ => none
def unM (f : D → Option D) (fa : ME) : ME := fun env st => (fa env st).bind fun p => (f p.1).map fun z => (z, p.2)
theorem im_neg {ta : TE} {fa : ME} (h : ImW K ta fa) : Im K (tUn (rU fun i => .int (-i)) ta) (unM (unI fun i => .int (-i)) fa) := fun dk H0 F0 F σ H env st d st' g e Q q => by
  obtain ⟨⟨x, s1⟩, h1, e⟩ := bnd e
  obtain ⟨z, h2, e⟩ := mpd e
  cases e
  refine h dk H0 F0 F σ H env st x s1 g h1 _ fun v F1 H1 x1 g1 r1 => ?_
  replace h2 : unI (fun i => .int (-i)) x = some d := h2
  unfold unI at h2
  split at h2
  · cases h2
    cases r1.w.int
    exact ⟨_, rfl, q _ F1 H1 x1 g1 (.int _)⟩
  · cases h2

/-! ### tests -/
def blOf : D → Option Bool
  | .bl b => some b
  | _ => none
def tstM (f : ME) : MT := fun env st => (f env st).bind fun p => (blOf p.1).map fun b => (b, p.2)
theorem blOf_eq {d : D} {b : Bool} (h : blOf d = some b) : d = .bl b := by
  cases d <;> first | (cases h; rfl) | cases h
theorem it_test {te : TE} {f : ME} (h : Im K te f) : ImT K (tTest te) (tstM f) := fun dk H0 F0 F σ H env st b st' g e Q q => by
  obtain ⟨⟨x, s1⟩, h1, e⟩ := bnd e
  obtain ⟨z, h2, e⟩ := mpd e
  cases e
  refine h dk H0 F0 F σ H env st x s1 g h1 _ fun v F1 H1 x1 g1 r1 => ?_
  cases blOf_eq h2
  cases r1
  exact ⟨_, rfl, q F1 H1 x1 g1⟩
/-- truth of any value -/
def truD : D → Option Bool
  | .non => some false
  | .bl b => some b
  | .int i => some (i != 0)
  | .str y => if y.length ≤ sizeLine then some ((y.length : Int) != 0) else none
  | .lst ds => some (!ds.isEmpty)
  | .tup ds => some (!ds.isEmpty)
  | _ => none
def truM (f : ME) : MT := fun env st => (f env st).bind fun p => (truD (dr p.2 p.1)).map fun b => (b, p.2)
theorem Rps.empty {vs : List V} {ds : List D} (r : Rps K dk F vs ds) : vs.isEmpty = ds.isEmpty := by cases r <;> rfl
theorem it_truth {te : TE} {f : ME} (h : ImW K te f) : ImT K (fun σ H Q => te σ H fun x H' => ∃ k, TruV K x H' k ∧ Q k H') (truM f) := fun dk H0 F0 F σ H env st b st' g e Q q => by
  obtain ⟨⟨x, s1⟩, h1, e⟩ := bnd e
  obtain ⟨z, h2, e⟩ := mpd e
  cases e
  refine h dk H0 F0 F σ H env st x s1 g h1 _ fun v F1 H1 x1 g1 r1 => ⟨b, ?_, q F1 H1 x1 g1⟩
  replace h2 : truD (dr _ x) = some b := h2
  have r2 := r1.dr g1.wd
  generalize dr _ x = x' at h2 r2
  unfold truD at h2
  split at h2
  · cases h2; cases r2.non; rfl
  · cases h2; cases r2.bl; rfl
  · cases h2; cases r2.int; rfl
  · split at h2
    · rename_i ho
      cases h2; cases r2.str; exact ⟨ho, rfl⟩
    · cases h2
  · cases h2
    obtain ⟨p, vs, rfl, hl, r⟩ := r2.l g1.wd.sub
    exact .inl ⟨vs, SqL.of hl, by rw [r.empty]⟩
  · cases h2
    obtain ⟨p, vs, rfl, hl, r⟩ := r2.tup g1.wd.sub
    exact .inr (.inl ⟨vs, hl, by rw [r.empty]⟩)
  · cases h2
def andM (f h : MT) : MT := fun env st => (f env st).bind fun p => if p.1 then h env p.2 else some (false, p.2)
def orM (f h : MT) : MT := fun env st => (f env st).bind fun p => if p.1 then some (true, p.2) else h env p.2
def notM (f : MT) : MT := fun env st => (f env st).map fun p => (!p.1, p.2)
theorem it_and {t u : TT} {f h : MT} (h1 : ImT K t f) (h2 : ImT K u h) : ImT K (tAnd t u) (andM f h) := fun dk H0 F0 F σ H env st b st' g e Q q => by
  obtain ⟨⟨x, s1⟩, e1, e⟩ := bnd e
  refine h1 dk H0 F0 F σ H env st x s1 g e1 _ fun F1 H1 x1 g1 => ?_
  cases x with
  | true => exact h2 dk H0 F0 F1 σ H1 env s1 b st' g1 e Q fun F2 H2 x2 g2 => q F2 H2 (x1.trans x2) g2
  | false => cases e; exact q F1 H1 x1 g1
theorem it_or {t u : TT} {f h : MT} (h1 : ImT K t f) (h2 : ImT K u h) : ImT K (tOr t u) (orM f h) := fun dk H0 F0 F σ H env st b st' g e Q q => by
  obtain ⟨⟨x, s1⟩, e1, e⟩ := bnd e
  refine h1 dk H0 F0 F σ H env st x s1 g e1 _ fun F1 H1 x1 g1 => ?_
  cases x with
  | false => exact h2 dk H0 F0 F1 σ H1 env s1 b st' g1 e Q fun F2 H2 x2 g2 => q F2 H2 (x1.trans x2) g2
  | true => cases e; exact q F1 H1 x1 g1
theorem it_not {t : TT} {f : MT} (h1 : ImT K t f) : ImT K (tNot t) (notM f) := fun dk H0 F0 F σ H env st b st' g e Q q => by
  obtain ⟨⟨x, s1⟩, e1, e⟩ := mpd e
  cases e
  exact h1 dk H0 F0 F σ H env st x s1 g e1 _ fun F1 H1 x1 g1 => q F1 H1 x1 g1
/-! as values -/
def andV (f h : ME) : ME := fun env st => (f env st).bind fun p => (blOf p.1).bind fun b => if b then h env p.2 else some (.bl false, p.2)
def orV (f h : ME) : ME := fun env st => (f env st).bind fun p => (blOf p.1).bind fun b => if b then some (.bl true, p.2) else h env p.2
def notV (f : ME) : ME := fun env st => (f env st).bind fun p => (blOf p.1).map fun b => (.bl (!b), p.2)
theorem im_andV {t u : TE} {f h : ME} (h1 : Im K t f) (h2 : Im K u h) : Im K (tAndV t u) (andV f h) := fun dk H0 F0 F σ H env st d st' g e Q q => by
  obtain ⟨⟨x, s1⟩, e1, e⟩ := bnd e
  obtain ⟨b, e2, e⟩ := bnd e
  refine h1 dk H0 F0 F σ H env st x s1 g e1 _ fun v F1 H1 x1 g1 r1 => ?_
  cases blOf_eq e2
  cases r1
  refine ⟨b, rfl, ?_⟩
  cases b with
  | true => exact h2 dk H0 F0 F1 σ H1 env s1 d st' g1 e Q fun v F2 H2 x2 g2 r2 => q v F2 H2 (x1.trans x2) g2 r2
  | false => cases e; exact q _ F1 H1 x1 g1 (.bl false)
theorem im_orV {t u : TE} {f h : ME} (h1 : Im K t f) (h2 : Im K u h) : Im K (tOrV t u) (orV f h) := fun dk H0 F0 F σ H env st d st' g e Q q => by
  obtain ⟨⟨x, s1⟩, e1, e⟩ := bnd e
  obtain ⟨b, e2, e⟩ := bnd e
  refine h1 dk H0 F0 F σ H env st x s1 g e1 _ fun v F1 H1 x1 g1 r1 => ?_
  cases blOf_eq e2
  cases r1
  refine ⟨b, rfl, ?_⟩
  cases b with
  | false => exact h2 dk H0 F0 F1 σ H1 env s1 d st' g1 e Q fun v F2 H2 x2 g2 r2 => q v F2 H2 (x1.trans x2) g2 r2
  | true => cases e; exact q _ F1 H1 x1 g1 (.bl true)
theorem im_notV {t : TE} {f : ME} (h1 : Im K t f) : Im K (tNotV t) (notV f) := fun dk H0 F0 F σ H env st d st' g e Q q => by
  obtain ⟨⟨x, s1⟩, e1, e⟩ := bnd e
  obtain ⟨b, e2, e⟩ := mpd e
  cases e
  refine h1 dk H0 F0 F σ H env st x s1 g e1 _ fun v F1 H1 x1 g1 r1 => ?_
  cases blOf_eq e2
  cases r1
  exact ⟨b, rfl, q _ F1 H1 x1 g1 (.bl _)⟩
def ifM (c : MT) (f h : ME) : ME := fun env st => (c env st).bind fun p => if p.1 then f env p.2 else h env p.2
theorem im_if {t : TT} {ta tb : TE} {c : MT} {f h : ME} (h0 : ImT K t c) (h1 : Im K ta f) (h2 : Im K tb h) : Im K (tIf t ta tb) (ifM c f h) := fun dk H0 F0 F σ H env st d st' g e Q q => by
  obtain ⟨⟨x, s1⟩, e1, e⟩ := bnd e
  refine h0 dk H0 F0 F σ H env st x s1 g e1 _ fun F1 H1 x1 g1 => ?_
  cases x with
  | true => exact h1 dk H0 F0 F1 σ H1 env s1 d st' g1 e Q fun v F2 H2 x2 g2 r2 => q v F2 H2 (x1.trans x2) g2 r2
  | false => exact h2 dk H0 F0 F1 σ H1 env s1 d st' g1 e Q fun v F2 H2 x2 g2 r2 => q v F2 H2 (x1.trans x2) g2 r2
/-- a op b op' c -/
def chM (f f' : D → D → Option D) (fa fb fc : ME) : ME := fun env st => (fa env st).bind fun p => (fb env p.2).bind fun q => (f p.1 q.1).bind fun z => (blOf z).bind fun b =>
  if b then (fc env q.2).bind fun r => (f' q.1 r.1).map fun z => (z, r.2) else some (.bl false, q.2)
theorem im_chain {r r' : R2} {f f' : D → D → Option D} {ta tb tc : TE} {fa fb fc : ME} (hr : RO K r f) (hr' : RO K r' f') (ha : ImW K ta fa) (hb : ImW K tb fb) (hc : ImW K tc fc) : Im K (tChain r r' ta tb tc) (chM f f' fa fb fc) := fun dk H0 F0 F σ H env st d st' g e Q q => by
  obtain ⟨⟨x, s1⟩, h1, e⟩ := bnd e
  obtain ⟨⟨y, s2⟩, h2, e⟩ := bnd e
  obtain ⟨z, h3, e⟩ := bnd e
  obtain ⟨b, h4, e⟩ := bnd e
  refine ha dk H0 F0 F σ H env st x s1 g h1 _ fun v F1 H1 x1 g1 r1 => ?_
  refine hb dk H0 F0 F1 σ H1 env s1 y s2 g1 h2 _ fun u F2 H2 x2 g2 r2 => ?_
  refine hr dk F2 H2 s2 v u x y z g2.wd (r1.ext x2).w r2.w h3 _ fun w F3 H3 px r3 => ?_
  cases blOf_eq h4
  cases r3
  refine ⟨b, rfl, ?_⟩
  have g3 := g2.px px
  have x3 := (x1.trans x2).trans px.ext
  cases b with
  | false => cases e; exact q _ F3 H3 x3 g3 (.bl false)
  | true =>
    replace e : ((fc env s2).bind fun r => (f' y r.1).map fun z => (z, r.2)) = some (d, st') := e
    obtain ⟨⟨t, s4⟩, h5, e⟩ := bnd e
    obtain ⟨z', h6, e⟩ := mpd e
    cases e
    refine hc dk H0 F0 F3 σ H3 env s2 t s4 g3 h5 _ fun w' F4 H4 x4 g4 r4 => ?_
    exact hr' dk F4 H4 s4 u w' y t d g4.wd ((r2.ext px.ext).ext x4).w r4.w h6 Q fun v5 F5 H5 px5 r5 => q v5 F5 H5 ((x3.trans x4).trans px5.ext) (g4.px px5) r5
end
end MD

set_option Elab.async false
set_option linter.all false
set_option maxRecDepth 100000
set_option maxHeartbeats 1000000
namespace MD
open PySem L2

inductive Fl where
  | nx (env : Sg) | rt (d : D) | bk (env : Sg) | ct (env : Sg)
abbrev MS := Sg → S → Option (Fl × S)
def Dn (K : Fg) (dk : Dk) (H0 : Hp) (F0 F : Fz) (E : Ends) (st : S) : Fl → Prop
  | .nx env => ∀ F' σ H, Le F F' → Good K dk H0 F0 F' σ H env st → E.nx σ H
  | .bk env => ∀ F' σ H, Le F F' → Good K dk H0 F0 F' σ H env st → E.bk σ H
  | .ct env => ∀ F' σ H, Le F F' → Good K dk H0 F0 F' σ H env st → E.ct σ H
  | .rt d => ∀ v F' H, Ext dk F0 H0 F' H → Wd K dk F' H st → Rp K dk F' v d → E.rt v H
def ImS (K : Fg) (ts : TS) (f : MS) : Prop := ∀ (dk : Dk) (H0 : Hp) (F0 F : Fz) (σ : L2.St) (H : Hp) (env : Sg) (st : S) (fl : Fl) (st' : S), Good K dk H0 F0 F σ H env st → f env st = some (fl, st') → ∀ E : Ends, Dn K dk H0 F0 F E st' fl → ts E σ H
theorem Dn.mono {K : Fg} {dk : Dk} {H0 : Hp} {F0 F F' : Fz} {E : Ends} {st : S} {fl : Fl} (le : Le F F') (h : Dn K dk H0 F0 F E st fl) : Dn K dk H0 F0 F' E st fl := by
  cases fl with
  | nx e => exact fun F2 σ H l => h F2 σ H (le.trans l)
  | bk e => exact fun F2 σ H l => h F2 σ H (le.trans l)
  | ct e => exact fun F2 σ H l => h F2 σ H (le.trans l)
  | rt d => exact h

section
variable {K : Fg} {dk : Dk} {F F' F0 : Fz} {H H' H0 : Hp} {σ : L2.St} {env : Sg} {st : S}
/-! ### slots stored -/
theorem Good.set {i : Nat} {x : V} {d : D} (g : Good K dk H0 F0 F σ H env st) (r : Rp K dk F x d) : Good K dk H0 F0 F (σ.set i (some x)) H (env.set i (.val d)) st := by
  refine ⟨g.wd, g.ext, by rw [List.length_set, List.length_set]; exact g.len, fun j s e => ?_, fun j k ds es p hne e1 e2 e3 => ?_⟩
  · by_cases hj : i = j
    · subst hj
      by_cases hl : i < env.length
      · rw [List.getElem?_set_self hl] at e
        cases e
        rw [List.getElem?_set_self (by rw [g.len]; exact hl)]
        exact ⟨x, rfl, r⟩
      · rw [List.getElem?_eq_none (by rw [List.length_set]; omega)] at e
        cases e
    · rw [List.getElem?_set_ne hj] at e
      rw [List.getElem?_set_ne hj]
      exact g.sl j s e
  · have nj : i ≠ j := fun z => by
      subst z
      by_cases hl : i < env.length
      · rw [List.getElem?_set_self hl] at e1; cases e1
      · rw [List.getElem?_eq_none (by rw [List.length_set]; omega)] at e1; cases e1
    have nk : i ≠ k := fun z => by
      subst z
      by_cases hl : i < env.length
      · rw [List.getElem?_set_self hl] at e2; cases e2
      · rw [List.getElem?_eq_none (by rw [List.length_set]; omega)] at e2; cases e2
    rw [List.getElem?_set_ne nj] at e1 e3
    rw [List.getElem?_set_ne nk] at e2 ⊢
    exact g.dis j k ds es p hne e1 e2 e3
theorem Good.setO {i : Nat} {p : Addr} {vs : List V} {ds : Own} (g : Good K dk H0 F0 F σ H env st) (hp : ds.1.At H p vs) (fp : F.out p) (h0 : H0 p = none) (n1 : p ≠ dk.1) (n2 : p ≠ dk.2)
    (no : ∀ (j : Nat) (es : Own), env[j]? = some (.own es) → σ[j]? ≠ some (some (.ref p))) (r : Rps K dk F vs ds.2) : Good K dk H0 F0 F (σ.set i (some (.ref p))) H (env.set i (.own ds)) st := by
  refine ⟨g.wd, g.ext, by rw [List.length_set, List.length_set]; exact g.len, fun j s e => ?_, fun j k es es' q hne e1 e2 e3 => ?_⟩
  · by_cases hj : i = j
    · subst hj
      by_cases hl : i < env.length
      · rw [List.getElem?_set_self hl] at e
        cases e
        rw [List.getElem?_set_self (by rw [g.len]; exact hl)]
        exact ⟨p, vs, rfl, hp, fp, h0, n1, n2, r⟩
      · rw [List.getElem?_eq_none (by rw [List.length_set]; omega)] at e
        cases e
    · rw [List.getElem?_set_ne hj] at e
      rw [List.getElem?_set_ne hj]
      exact g.sl j s e
  · by_cases hj : i = j
    · subst hj
      have nk : i ≠ k := hne
      rw [List.getElem?_set_ne nk] at e2 ⊢
      by_cases hl : i < env.length
      · rw [List.getElem?_set_self (by rw [g.len]; exact hl)] at e3
        cases e3
        exact no k es' e2
      · rw [List.getElem?_eq_none (by rw [List.length_set]; omega)] at e1; cases e1
    · rw [List.getElem?_set_ne hj] at e1 e3
      by_cases hk : i = k
      · subst hk
        by_cases hl : i < env.length
        · rw [List.getElem?_set_self (by rw [g.len]; exact hl)]
          intro z
          cases z
          exact no j es e1 e3
        · rw [List.getElem?_eq_none (by rw [List.length_set]; omega)] at e2; cases e2
      · rw [List.getElem?_set_ne hk] at e2 ⊢
        exact g.dis j k es es' q hne e1 e2 e3
theorem Ow.At.nf {p : Addr} {o : HO} : ∀ {w : Ow} {vs : List V}, w.At (L2.upd H p o) p vs → ¬ Fro o
  | .lst, _, h => by
    have h : L2.upd H p o p = _ := h
    rw [upd_same] at h; cases h
    rintro ⟨_, _, z⟩; cases z
  | .dic _, _, h => by
    have h := h.1
    rw [upd_same] at h; cases h
    rintro ⟨_, _, z⟩; cases z
/-- a thing that is neither frozen nor in the store is changed -/
theorem Wd.upd {p : Addr} {o' : HO} (w : Wd K dk F H st) (fp : F.out p) (n1 : p ≠ dk.1) (n2 : p ≠ dk.2) : Wd K dk F (L2.upd H p o') st := by
  refine ⟨fun a u e => ?_, by rw [upd_ne n1.symm]; exact w.d1, by rw [upd_ne n2.symm]; exact w.d2, w.f1, w.f2, w.ne, w.ml, w.nd, fun n a u h1 h2 => ?_⟩
  · rw [upd_ne (ne_of_none e fp.1)]; exact w.sub a u e
  · obtain ⟨q1, q2⟩ := w.ob n a u h1 h2
    have na : a ≠ p := fun z => fp.2 (z ▸ List.mem_of_getElem? h1)
    exact ⟨q1, q2.keep (fun _ e => by rw [upd_ne na]; exact e) (Le.refl F)⟩
theorem Ext.upd {p : Addr} {o' : HO} (x : Ext dk F0 H0 F H) (h0 : H0 p = none) (nf : ¬ Fro o' := by rintro ⟨_, _, z⟩; cases z) : Ext dk F0 H0 F (L2.upd H p o') := by
  refine ⟨fun a o e n1 n2 n3 => ?_, x.f, x.n, fun a e z => ?_, x.u, fun a o e f => x.k a o (updK nf a o e f) f⟩
  · rw [upd_ne (ne_of_none e h0)]; exact x.h a o e n1 n2 n3
  · by_cases na : a = p
    · subst na; rw [upd_same] at z; cases z
    · rw [upd_ne na] at z; exact x.m a e z
/-- an own list is changed -/
theorem Good.mut {i : Nat} {p : Addr} {vs' : List V} {o' : HO} {ds ds' : Own} (g : Good K dk H0 F0 F σ H env st) (he : env[i]? = some (.own ds)) (hs : σ[i]? = some (some (.ref p))) (hw : ds'.1.At (upd H p o') p vs') (r : Rps K dk F vs' ds'.2) :
    Good K dk H0 F0 F σ (upd H p o') (env.set i (.own ds')) st := by
  obtain ⟨p', vs, h1, h2, h3, h4, h5, h6, h7⟩ := g.sl i _ he
  rw [hs] at h1
  have : p = p' := V.ref.inj (Option.some.inj h1)
  subst this
  have hil : i < env.length := by
    by_cases hl : i < env.length
    · exact hl
    · rw [List.getElem?_eq_none (by omega)] at he; cases he
  refine ⟨g.wd.upd h3 h5 h6, g.ext.upd h4 hw.nf, by rw [List.length_set]; exact g.len, fun j s e => ?_, fun j k es es' q hne e1 e2 e3 => ?_⟩
  · by_cases hj : i = j
    · subst hj
      rw [List.getElem?_set_self hil] at e
      cases e
      rw [hs]
      exact ⟨p, vs', rfl, hw, h3, h4, h5, h6, r⟩
    · rw [List.getElem?_set_ne hj] at e
      have q := g.sl j s e
      cases s with
      | un => trivial
      | val d => exact q
      | own es =>
        obtain ⟨p2, us, k1, k2, k3⟩ := q
        have np : p2 ≠ p := fun z => by
          subst z
          exact g.dis i j ds es p2 hj he e hs (join_eq k1)
        exact ⟨p2, us, k1, k2.keep fun o e => by rw [upd_ne np]; exact e, k3⟩
  · have back : ∀ (m : Nat) (zs : Own), (env.set i (.own ds'))[m]? = some (.own zs) → ∃ zs', env[m]? = some (.own zs') := fun m zs e => by
      by_cases hm : i = m
      · subst hm; exact ⟨ds, he⟩
      · rw [List.getElem?_set_ne hm] at e; exact ⟨zs, e⟩
    obtain ⟨z1, b1⟩ := back j es e1
    obtain ⟨z2, b2⟩ := back k es' e2
    exact g.dis j k z1 z2 q hne b1 b2 e3
/-- a thing that nobody knows of is changed -/
theorem Good.mutT {p : Addr} {o o' : HO} (g : Good K dk H0 F0 F σ H env st) (hp : H p = some o) (fp : F.out p) (h0 : H0 p = none) (n1 : p ≠ dk.1) (n2 : p ≠ dk.2)
    (no : ∀ (j : Nat) (es : Own), env[j]? = some (.own es) → σ[j]? ≠ some (some (.ref p))) (nf : ¬ Fro o' := by rintro ⟨_, _, z⟩; cases z) : Good K dk H0 F0 F σ (upd H p o') env st := by
  refine ⟨g.wd.upd fp n1 n2, g.ext.upd h0 nf, g.len, fun j s e => ?_, g.dis⟩
  · have q := g.sl j s e
    cases s with
    | un => trivial
    | val d => exact q
    | own es =>
      obtain ⟨p2, us, k1, k2, k3⟩ := q
      have np : p2 ≠ p := fun z => by
        subst z
        exact no j es e (join_eq k1)
      exact ⟨p2, us, k1, k2.keep fun o e => by rw [upd_ne np]; exact e, k3⟩
/-- other slots, no more known -/
theorem Good.reslot {σ' : L2.St} {env' : Sg} (g : Good K dk H0 F0 F σ H env st) (hl : σ'.length = env'.length) (h : ∀ (i : Nat) (s : Sl), env'[i]? = some s → s = .un ∨ (env[i]? = some s ∧ σ'[i]? = σ[i]?)) : Good K dk H0 F0 F σ' H env' st := by
  refine ⟨g.wd, g.ext, hl, fun i s e => ?_, fun i j ds es p hne e1 e2 e3 => ?_⟩
  · rcases h i s e with z | ⟨z1, z2⟩
    · subst z; trivial
    · rw [z2]; exact g.sl i s z1
  · rcases h i _ e1 with z | ⟨z1, z2⟩
    · cases z
    · rcases h j _ e2 with z | ⟨y1, y2⟩
      · cases z
      · rw [z2] at e3; rw [y2]; exact g.dis i j ds es p hne z1 y1 e3

/-! ### small statements -/
def nxM : MS := fun env st => some (.nx env, st)
theorem is_next : ImS K tNext nxM := fun dk H0 F0 F σ H env st fl st' g e E h => by
  cases e
  exact h F σ H (Le.refl F) g
def seqM (f h : MS) : MS := fun env st => (f env st).bind fun p => match p.1 with
  | .nx e => h e p.2
  | fl => some (fl, p.2)
theorem is_seq {t u : TS} {f h : MS} (h1 : ImS K t f) (h2 : ImS K u h) : ImS K (tSeq t u) (seqM f h) := fun dk H0 F0 F σ H env st fl st' g e E hd => by
  obtain ⟨⟨fl1, s1⟩, e1, e⟩ := bnd e
  cases fl1 with
  | nx env1 => exact h1 dk H0 F0 F σ H env st _ s1 g e1 _ fun F1 σ1 H1 le1 g1 => h2 dk H0 F0 F1 σ1 H1 env1 s1 fl st' g1 e E (hd.mono le1)
  | rt d => cases e; exact h1 dk H0 F0 F σ H env st _ s1 g e1 _ hd
  | bk d => cases e; exact h1 dk H0 F0 F σ H env st _ s1 g e1 _ hd
  | ct d => cases e; exact h1 dk H0 F0 F σ H env st _ s1 g e1 _ hd
def retM (f : ME) : MS := fun env st => (f env st).map fun p => (.rt p.1, p.2)
theorem is_ret {te : TE} {f : ME} (h : Im K te f) : ImS K (tRet te) (retM f) := fun dk H0 F0 F σ H env st fl st' g e E hd => by
  obtain ⟨⟨d, s1⟩, e1, e⟩ := mpd e
  cases e
  exact h dk H0 F0 F σ H env st d s1 g e1 _ fun v F1 H1 x1 g1 r1 => hd v F1 H1 g1.ext g1.wd r1
def retN : MS := fun env st => some (.rt .non, st)
theorem is_retN : ImS K tRetN retN := fun dk H0 F0 F σ H env st fl st' g e E hd => by
  cases e
  exact hd .non F H g.ext g.wd .non
def ifS (c : MT) (f h : MS) : MS := fun env st => (c env st).bind fun p => if p.1 then f env p.2 else h env p.2
theorem is_if {c : TT} {t u : TS} {fc : MT} {f h : MS} (h0 : ImT K c fc) (h1 : ImS K t f) (h2 : ImS K u h) : ImS K (tIfS c t u) (ifS fc f h) := fun dk H0 F0 F σ H env st fl st' g e E hd => by
  obtain ⟨⟨b, s1⟩, e1, e⟩ := bnd e
  refine h0 dk H0 F0 F σ H env st b s1 g e1 _ fun F1 H1 x1 g1 => ?_
  cases b with
  | true => exact h1 dk H0 F0 F1 σ H1 env s1 fl st' g1 e E (hd.mono x1.f)
  | false => exact h2 dk H0 F0 F1 σ H1 env s1 fl st' g1 e E (hd.mono x1.f)
def dropM (f : ME) : MS := fun env st => (f env st).map fun p => (.nx env, p.2)
theorem is_drop {te : TE} {f : ME} (h : Im K te f) : ImS K (tDrop te) (dropM f) := fun dk H0 F0 F σ H env st fl st' g e E hd => by
  obtain ⟨⟨d, s1⟩, e1, e⟩ := mpd e
  cases e
  exact h dk H0 F0 F σ H env st d s1 g e1 _ fun v F1 H1 x1 g1 r1 => hd F1 σ H1 x1.f g1
def bkM : MS := fun env st => some (.bk env, st)
def ctM : MS := fun env st => some (.ct env, st)
theorem is_break : ImS K tBreak bkM := fun dk H0 F0 F σ H env st fl st' g e E h => by
  cases e
  exact h F σ H (Le.refl F) g
theorem is_cont : ImS K tCont ctM := fun dk H0 F0 F σ H env st fl st' g e E h => by
  cases e
  exact h F σ H (Le.refl F) g

/-! ### targets -/
abbrev MG := D → Sg → Option Sg
structure Tg (is : List Nat) (σ σ' : L2.St) (env env' : Sg) : Prop where
  len : σ'.length = σ.length
  elen : env'.length = env.length
  same : ∀ (i : Nat), i ∉ is → σ'[i]? = σ[i]? ∧ env'[i]? = env[i]?
def ImG (K : Fg) (g : TG) (t : MG) (is : List Nat) : Prop := ∀ (dk : Dk) (H0 : Hp) (F0 F : Fz) (σ : L2.St) (H : Hp) (env : Sg) (st : S) (v : V) (d : D) (env' : Sg), Good K dk H0 F0 F σ H env st → Rp K dk F v d → t d env = some env' →
  ∀ Q : L2.St → Hp → Prop, (∀ σ', Good K dk H0 F0 F σ' H env' st → Tg is σ σ' env env' → Q σ' H) → g v σ H Q
def ImGs (K : Fg) (g : TGs) (t : List D → Sg → Option Sg) (is : List Nat) : Prop := ∀ (dk : Dk) (H0 : Hp) (F0 F : Fz) (σ : L2.St) (H : Hp) (env : Sg) (st : S) (vs : List V) (ds : List D) (env' : Sg), Good K dk H0 F0 F σ H env st → Rps K dk F vs ds → t ds env = some env' →
  ∀ Q : L2.St → Hp → Prop, (∀ σ', Good K dk H0 F0 F σ' H env' st → Tg is σ σ' env env' → Q σ' H) → g vs σ H Q
def nameT (i : Nat) : MG := fun d env => some (env.set i (.val d))
theorem ig_name (i : Nat) : ImG K (gName i) (nameT i) [i] := fun dk H0 F0 F σ H env st v d env' g r e Q q => by
  cases e
  refine q _ (g.set r) ⟨List.length_set, List.length_set, fun j hj => ?_⟩
  have hj' : i ≠ j := fun z => hj (by simp [z])
  exact ⟨List.getElem?_set_ne hj', List.getElem?_set_ne hj'⟩
def nilT : List D → Sg → Option Sg
  | [], env => some env
  | _, _ => none
def consT (t : MG) (u : List D → Sg → Option Sg) : List D → Sg → Option Sg
  | d :: ds, env => (t d env).bind fun e => u ds e
  | _, _ => none
theorem igs_nil : ImGs K gNil nilT [] := fun dk H0 F0 F σ H env st vs ds env' g r e Q q => by
  unfold nilT at e
  split at e
  · cases e
    cases r
    exact ⟨rfl, q σ g ⟨rfl, rfl, fun _ _ => ⟨rfl, rfl⟩⟩⟩
  · cases e
theorem igs_cons {g : TG} {gs : TGs} {t : MG} {u : List D → Sg → Option Sg} {is js : List Nat} (h1 : ImG K g t is) (h2 : ImGs K gs u js) : ImGs K (gCons g gs) (consT t u) (is ++ js) := fun dk H0 F0 F σ H env st vs ds env' gd r e Q q => by
  unfold consT at e
  split at e
  · obtain ⟨e1, h3, h4⟩ := bnd e
    cases r with
    | cons a b =>
      refine ⟨_, _, rfl, h1 dk H0 F0 F σ H env st _ _ e1 gd a h3 _ fun σ1 g1 t1 => ?_⟩
      refine h2 dk H0 F0 F σ1 H e1 st _ _ env' g1 b h4 _ fun σ2 g2 t2 => q σ2 g2 ⟨t2.len.trans t1.len, t2.elen.trans t1.elen, fun i hi => ?_⟩
      have a1 := t1.same i fun z => hi (List.mem_append_left _ z)
      have a2 := t2.same i fun z => hi (List.mem_append_right _ z)
      exact ⟨a2.1.trans a1.1, a2.2.trans a1.2⟩
  · cases e
def tupT (n : Nat) (u : List D → Sg → Option Sg) : MG := fun d env => match d with
  | .tup ds => if ds.length = n then u ds env else none
  | _ => none
theorem ig_tup {gs : TGs} {u : List D → Sg → Option Sg} {js : List Nat} {n : Nat} (h : ImGs K gs u js) : ImG K (gTup K n gs) (tupT n u) js := fun dk H0 F0 F σ H env st v d env' g r e Q q => by
  unfold tupT at e
  split at e
  · split at e
    · rename_i hn
      cases r with
      | tup h1 h2 =>
        exact ⟨_, _, rfl, g.wd.sub.sqT h1, by rw [h2.length]; exact hn, h dk H0 F0 F σ H env st _ _ env' g h2 e Q q⟩
    · cases e
  · cases e
def asgM (t : MG) (f : ME) : MS := fun env st => (f env st).bind fun p => (t p.1 env).map fun e => (.nx e, p.2)
theorem is_asg {te : TE} {g : TG} {t : MG} {f : ME} {is : List Nat} (h : Im K te f) (hg : ImG K g t is) : ImS K (tAsg te g) (asgM t f) := fun dk H0 F0 F σ H env st fl st' gd e E hd => by
  obtain ⟨⟨d, s1⟩, e1, e⟩ := bnd e
  obtain ⟨en, e2, e⟩ := mpd e
  cases e
  refine h dk H0 F0 F σ H env st d s1 gd e1 _ fun v F1 H1 x1 g1 r1 => ?_
  exact hg dk H0 F0 F1 σ H1 env s1 v d en g1 r1 e2 _ fun σ' g2 _ => hd F1 σ' H1 x1.f g2
/-- a new list for a name that will change it -/
def ownM (i : Nat) (f : MA) : MS := fun env st => (f env st).map fun p => (.nx (env.set i (.own (.lst, p.1))), p.2)
theorem is_own {te : TE} {f : MA} (i : Nat) (h : ImF K te f) : ImS K (tAsg te (gName i)) (ownM i f) := fun dk H0 F0 F σ H env st fl st' g e E hd => by
  obtain ⟨⟨ds, s1⟩, e1, e⟩ := mpd e
  cases e
  refine h dk H0 F0 F σ H env st ds s1 g e1 _ fun p vs F1 H1 x1 g1 hp fp hl r => ?_
  have nd := g.nedk hp
  exact hd F1 _ H1 x1.f (g1.setO (ds := (.lst, ds)) hl fp (g.fresh0 hp) nd.1 nd.2 (g.noown hp) r)
/-- a, b = e1, e2 -/
def two (i j : Nat) (env : Sg) : List D → Option Sg
  | [d, e] => some ((env.set i (.val d)).set j (.val e))
  | _ => none
def parM (i j : Nat) (fa : MA) : MS := fun env st => (fa env st).bind fun p => (two i j env p.1).map fun e => (.nx e, p.2)
theorem is_par {ta : TA} {fa : MA} (i j : Nat) (h : ImA K ta fa) : ImS K (tPar i j ta) (parM i j fa) := fun dk H0 F0 F σ H env st fl st' g e E hd => by
  obtain ⟨⟨ds, s1⟩, e1, e⟩ := bnd e
  obtain ⟨en, e2, e⟩ := mpd e
  cases e
  refine h dk H0 F0 F σ H env st ds s1 g e1 _ fun vs F1 H1 x1 g1 r1 => ?_
  replace e2 : two i j env ds = some en := e2
  unfold two at e2
  split at e2
  · cases e2
    cases r1 with
    | cons a b => cases b with
      | cons b c =>
        cases c
        exact ⟨_, _, rfl, hd F1 _ H1 x1.f ((g1.set a).set b)⟩
  · cases e2
/-- x op= e -/
def augM (i : Nat) (op : D → D → Option D) (f : ME) : MS := fun env st => match env[i]? with
  | some (.val x) => (f env st).bind fun p => (op x p.1).map fun z => (.nx (env.set i (.val z)), p.2)
  | _ => none
theorem is_aug {te : TE} {ti : TIp} {op : D → D → Option D} {f : ME} (i : Nat) (hr : RO K ti op) (h : ImW K te f) : ImS K (tAug i te ti) (augM i op f) := fun dk H0 F0 F σ H env st fl st' g e E hd => by
  unfold augM at e
  split at e
  · rename_i x hx
    obtain ⟨⟨d, s1⟩, e1, e⟩ := bnd e
    obtain ⟨z, e2, e⟩ := mpd e
    cases e
    obtain ⟨v, h1, h2⟩ := g.sl i _ hx
    refine ⟨v, join_eq h1, h dk H0 F0 F σ H env st d s1 g e1 _ fun u F1 H1 x1 g1 r1 => ?_⟩
    exact hr dk F1 H1 s1 v u x d z g1.wd (.rp (h2.mono x1.f)) r1.w e2 _ fun w F2 H2 px r2 => hd F2 _ H2 (x1.f.trans px.f) ((g1.px px).set r2)
  · cases e
/-- a name's own list is changed no more -/
def frzE (i : Nat) (env : Sg) : Sg := match env[i]? with
  | some (.own (.lst, ds)) => env.set i (.val (.lst ds))
  | some (.own (.dic ks, ds)) => env.set i (.val (.dic ks ds))
  | _ => env
theorem Good.frz1 {i : Nat} {w : Own} {o : HO} {d : D} {p : Addr} (g : Good K dk H0 F0 F σ H env st) (he : env[i]? = some (.own w)) (hs : σ[i]? = some (some (.ref p))) (h2 : H p = some o) (h3 : F.out p) (h4 : H0 p = none) (h5 : p ≠ dk.1) (h6 : p ≠ dk.2)
    (r : Rp K dk (F.up p o) (.ref p) d) : Good K dk H0 F0 (F.up p o) σ H (env.set i (.val d)) st := by
  have hil : i < env.length := by
    by_cases hl : i < env.length
    · exact hl
    · rw [List.getElem?_eq_none (by omega)] at he; cases he
  -- first forget the slot, then freeze, then store it again
  have g1 : Good K dk H0 F0 F σ H (env.set i .un) st := g.reslot (by rw [List.length_set]; exact g.len) fun j s e => by
    by_cases hj : i = j
    · subst hj
      rw [List.getElem?_set_self hil] at e
      cases e; exact .inl rfl
    · rw [List.getElem?_set_ne hj] at e; exact .inr ⟨e, rfl⟩
  have g2 := g1.freeze (p := p) h2 h3 h4 h5 h6 fun j es e => by
    by_cases hj : i = j
    · subst hj
      rw [List.getElem?_set_self hil] at e; cases e
    · rw [List.getElem?_set_ne hj] at e
      exact g.dis i j _ es p hj he e hs
  have g3 := g2.set (i := i) r
  rw [List.set_set] at g3
  have es : σ.set i (some (.ref p)) = σ := by
    apply List.ext_getElem?
    intro j
    by_cases hj : i = j
    · subst hj
      rw [List.getElem?_set_self (by rw [g.len]; exact hil), hs]
    · rw [List.getElem?_set_ne hj]
  rw [es] at g3
  exact g3
theorem Good.frzE (i : Nat) (g : Good K dk H0 F0 F σ H env st) : ∃ F', Le F F' ∧ Good K dk H0 F0 F' σ H (frzE i env) st := by
  unfold MD.frzE
  split
  · rename_i ds he
    obtain ⟨p, vs, h1, h2, h3, h4, h5, h6, h7⟩ := g.sl i _ he
    have le : Le F (F.up p (.lst vs)) := Le.new h3.1
    exact ⟨_, le, g.frz1 he (join_eq h1) h2 h3 h4 h5 h6 (.lst Fz.up_same (h7.mono le))⟩
  · rename_i ks ds he
    obtain ⟨p, vs, h1, ⟨h2, h2'⟩, h3, h4, h5, h6, h7⟩ := g.sl i _ he
    have le : Le F (F.up p (.dK (ks.zip vs))) := Le.new h3.1
    exact ⟨_, le, g.frz1 he (join_eq h1) h2 h3 h4 h5 h6 (.dic Fz.up_same h2' (h7.mono le))⟩
  · exact ⟨F, Le.refl F, g⟩
def frzM (i : Nat) (f : MS) : MS := fun env st => f (frzE i env) st
theorem is_frz {t : TS} {f : MS} (i : Nat) (h : ImS K t f) : ImS K t (frzM i f) := fun dk H0 F0 F σ H env st fl st' g e E hd => by
  obtain ⟨F1, le, g1⟩ := g.frzE i
  exact h dk H0 F0 F1 σ H (frzE i env) st fl st' g1 e E (hd.mono le)
/-- x.append(e), x.extend(e) of a name's own list -/
def appM (i : Nat) (f : ME) : MS := fun env st => match env[i]? with
  | some (.own (.lst, ds)) => if ds.length < sizeLine then (f env st).map fun p => (.nx (env.set i (.own (.lst, ds ++ [p.1]))), p.2) else none
  | _ => none
theorem is_app {te : TE} {f : ME} (i : Nat) (h : Im K te f) : ImS K (tDrop (tBM K "list" rAppend (tVar i) (tCons te tNil))) (appM i f) := fun dk H0 F0 F σ H env st fl st' g e E hd => by
  unfold appM at e
  split at e
  · rename_i ds he
    split at e
    · rename_i hz
      obtain ⟨⟨d, s1⟩, e1, e⟩ := mpd e
      cases e
      obtain ⟨p, vs, h1, h2, h3, h4, h5, h6, h7⟩ := g.sl i _ he
      refine ⟨.ref p, join_eq h1, .inl ⟨rfl, vs, SqL.of h2⟩, ?_⟩
      refine h dk H0 F0 F σ H env st d s1 g e1 _ fun v F1 H1 x1 g1 r1 => ?_
      refine ⟨p, vs, v, rfl, rfl, x1.h _ _ h2 h5 h6 (.inl h3.2), by rw [h7.length]; exact hz, ?_⟩
      exact hd F1 σ _ x1.f (g1.mut (ds' := (.lst, _)) he (join_eq h1) upd_same ((h7.mono x1.f).append (Rps.one r1)))
    · cases e
  · cases e
def lstOf : D → Option (List D)
  | .lst ds => some ds
  | _ => none
theorem lstOf_eq {d : D} {ds : List D} (h : lstOf d = some ds) : d = .lst ds := by
  cases d <;> first | (cases h; rfl) | cases h
def extM (i : Nat) (f : ME) : MS := fun env st => match env[i]? with
  | some (.own (.lst, ds)) => (f env st).bind fun p => (lstOf (dr p.2 p.1)).bind fun es => if ds.length + es.length ≤ sizeLine then some (.nx (env.set i (.own (.lst, ds ++ es))), p.2) else none
  | _ => none
theorem is_ext {te : TE} {f : ME} (i : Nat) (h : ImW K te f) : ImS K (tDrop (tBM K "list" rExtend (tVar i) (tCons te tNil))) (extM i f) := fun dk H0 F0 F σ H env st fl st' g e E hd => by
  unfold extM at e
  split at e
  · rename_i ds he
    obtain ⟨⟨d, s1⟩, e1, e⟩ := bnd e
    obtain ⟨es, e2, e⟩ := bnd e
    split at e
    · rename_i hz
      cases e
      obtain ⟨p, vs, h1, h2, h3, h4, h5, h6, h7⟩ := g.sl i _ he
      refine ⟨.ref p, join_eq h1, .inl ⟨rfl, vs, SqL.of h2⟩, ?_⟩
      refine h dk H0 F0 F σ H env st _ s1 g e1 _ fun v F1 H1 x1 g1 r1 => ?_
      have r2 := r1.dr g1.wd
      rw [lstOf_eq e2] at r2
      obtain ⟨q, us, rfl, k1, k2⟩ := r2.l g1.wd.sub
      refine ⟨p, q, vs, us, rfl, rfl, x1.h _ _ h2 h5 h6 (.inl h3.2), k1, by rw [h7.length, k2.length]; exact hz, ?_⟩
      exact hd F1 σ _ x1.f (g1.mut (ds' := (.lst, _)) he (join_eq h1) upd_same ((h7.mono x1.f).append k2))
    · cases e
  · cases e
end
end MD

set_option Elab.async false
set_option linter.all false
set_option maxRecDepth 100000
set_option maxHeartbeats 1000000
namespace MD
open PySem L2

abbrev MI := Sg → S → Option (List D × S)
/-- the walk goes through these data, whatever is laid meanwhile -/
def Stdy (K : Fg) (dk : Dk) (F : Fz) (J : It) (ds : List D) : Prop := ∀ (F1 : Fz) (H1 : Hp) (st : S), Le F F1 → Wd K dk F1 H1 st → ∀ i : Nat,
  (∀ d, ds[i]? = some d → J.go i H1 ∧ ∀ x H2, J.yld i H1 x H2 → ∃ F2, Px F1 H1 F2 H2 ∧ Rp K dk F2 x d) ∧ (ds.length ≤ i → J.stop i H1)
def ImI (K : Fg) (wi : TI) (f : MI) : Prop := ∀ (dk : Dk) (H0 : Hp) (F0 F : Fz) (σ : L2.St) (H : Hp) (env : Sg) (st : S) (ds : List D) (st' : S), Good K dk H0 F0 F σ H env st → f env st = some (ds, st') →
  ∀ R : It → Hp → Prop, (∀ J F' H', Ext dk F H F' H' → Good K dk H0 F0 F' σ H' env st' → Stdy K dk F' J ds → R J H') → wi σ H R

section
variable {K : Fg} {dk : Dk} {F F' F0 : Fz} {H H' H0 : Hp} {σ : L2.St} {env : Sg} {st : S}
theorem Stdy.mono {J : It} {ds : List D} (le : Le F F') (h : Stdy K dk F J ds) : Stdy K dk F' J ds := fun F1 H1 st l w => h F1 H1 st (le.trans l) w
theorem getD_none {α : Type} {l : List α} {i : Nat} (h : l.length ≤ i) : l[i]? = none := List.getElem?_eq_none h

/-! ### for -/
def forL (t : MG) (b : MS) : List D → MS
  | [], env, st => some (.nx env, st)
  | d :: ds, env, st => (t d env).bind fun env1 => (b env1 st).bind fun p => match p.1 with
    | .nx e => forL t b ds e p.2
    | .ct e => forL t b ds e p.2
    | .bk e => some (.nx e, p.2)
    | .rt r => some (.rt r, p.2)
def forM (it : MI) (t : MG) (b : MS) : MS := fun env st => (it env st).bind fun p => forL t b p.1 env p.2
theorem is_for {wi : TI} {g : TG} {tb : TS} {it : MI} {t : MG} {b : MS} {is : List Nat} (hi : ImI K wi it) (hg : ImG K g t is) (hb : ImS K tb b) : ImS K (tFor wi g tb) (forM it t b) := fun dk H0 F0 F σ H env st fl st' gd e E hd => by
  obtain ⟨⟨ds, s1⟩, e1, e⟩ := bnd e
  refine hi dk H0 F0 F σ H env st ds s1 gd e1 _ fun J F1 H1 x1 g1 sd => ?_
  have hd1 := hd.mono x1.f
  let P : Nat → L2.St → Hp → Prop := fun i σ H => ∃ F2 env st, Le F1 F2 ∧ Good K dk H0 F0 F2 σ H env st ∧ forL t b (ds.drop i) env st = some (fl, st')
  refine ⟨fun i m σ H => m = ds.length - i ∧ i ≤ ds.length ∧ P i σ H, ⟨_, rfl, Nat.zero_le _, F1, env, s1, Le.refl F1, g1, e⟩, ?_⟩
  rintro i m σ2 H2 ⟨rfl, hle, F2, env2, s2, le2, g2, e2⟩
  by_cases hlt : i < ds.length
  · have hdi : ds[i]? = some ds[i] := List.getElem?_eq_getElem hlt
    obtain ⟨hgo, hy⟩ := (sd F2 H2 s2 le2 g2.wd i).1 _ hdi
    refine .inr ⟨hgo, P (i + 1), fun σ' H' hp => ⟨_, by omega, rfl, hlt, hp⟩, fun x H3 hx => ?_⟩
    obtain ⟨F3, px, rx⟩ := hy x H3 hx
    have g3 := g2.px px
    rw [List.drop_eq_getElem_cons hlt] at e2
    obtain ⟨env3, e3, e2⟩ := bnd e2
    obtain ⟨⟨fl3, s3⟩, e4, e2⟩ := bnd e2
    refine hg dk H0 F0 F3 σ2 H3 env2 s2 x _ env3 g3 rx e3 _ fun σ4 g4 _ => ?_
    refine hb dk H0 F0 F3 σ4 H3 env3 s2 fl3 s3 g4 e4 _ ?_
    cases fl3 with
    | nx e5 => exact fun F5 σ5 H5 l5 g5 => ⟨F5, e5, s3, (le2.trans px.f).trans l5, g5, e2⟩
    | ct e5 => exact fun F5 σ5 H5 l5 g5 => ⟨F5, e5, s3, (le2.trans px.f).trans l5, g5, e2⟩
    | bk e5 =>
      cases e2
      exact fun F5 σ5 H5 l5 g5 => hd1 F5 σ5 H5 ((le2.trans px.f).trans l5) g5
    | rt r =>
      cases e2
      exact hd1
  · have ei : i = ds.length := by omega
    subst ei
    rw [List.drop_length] at e2
    cases e2
    exact .inl ⟨(sd F2 H2 _ le2 g2.wd ds.length).2 (Nat.le_refl _), hd1 F2 σ2 H2 le2 g2⟩

/-! ### while -/
def whF (c : MT) (b : MS) : Nat → MS
  | 0, _, _ => none
  | n + 1, env, st => (c env st).bind fun q => if q.1 then (b env q.2).bind fun p => match p.1 with
      | .nx e => whF c b n e p.2
      | .ct e => whF c b n e p.2
      | .bk e => some (.nx e, p.2)
      | .rt r => some (.rt r, p.2)
    else some (.nx env, q.2)
theorem whF_mono {c : MT} {b : MS} {r : Fl × S} : ∀ (n : Nat) {env : Sg} {st : S}, whF c b n env st = some r → whF c b (n + 1) env st = some r
  | 0, _, _, h => by cases h
  | n + 1, env, st, h => by
    obtain ⟨⟨k, s1⟩, e1, h⟩ := bnd h
    show ((c env st).bind _) = _
    rw [e1]
    cases k with
    | false => exact h
    | true =>
      replace h : ((b env s1).bind fun p => match p.1 with
        | .nx e => whF c b n e p.2
        | .ct e => whF c b n e p.2
        | .bk e => some (.nx e, p.2)
        | .rt r => some (.rt r, p.2)) = some r := h
      obtain ⟨⟨fl, s2⟩, e2, h⟩ := bnd h
      show ((b env s1).bind _) = _
      rw [e2]
      cases fl with
      | nx e => exact whF_mono n h
      | ct e => exact whF_mono n h
      | bk e => exact h
      | rt e => exact h
theorem whF_le {c : MT} {b : MS} {r : Fl × S} {env : Sg} {st : S} {n m : Nat} (h : n ≤ m) (e : whF c b n env st = some r) : whF c b m env st = some r := by
  induction h with
  | refl => exact e
  | step _ ih => exact whF_mono _ ih
open Classical in
noncomputable def whM (c : MT) (b : MS) : MS := fun env st => if h : ∃ n r, whF c b n env st = some r then whF c b h.choose env st else none
theorem whM_of {c : MT} {b : MS} {r : Fl × S} {env : Sg} {st : S} {n : Nat} (e : whF c b n env st = some r) : whM c b env st = some r := by
  unfold whM
  have h : ∃ n r, whF c b n env st = some r := ⟨n, r, e⟩
  rw [dif_pos h]
  obtain ⟨r', hr⟩ := h.choose_spec
  rw [hr]
  rcases Nat.le_total n h.choose with l | l
  · rw [whF_le l e] at hr; exact hr.symm
  · rw [whF_le l hr] at e; exact e
theorem of_whM {c : MT} {b : MS} {r : Fl × S} {env : Sg} {st : S} (e : whM c b env st = some r) : ∃ n, whF c b n env st = some r := by
  unfold whM at e
  split at e
  · exact ⟨_, e⟩
  · cases e
theorem is_while {c : TT} {tb : TS} {fc : MT} {b : MS} (hc : ImT K c fc) (hb : ImS K tb b) : ImS K (tWhile c tb) (whM fc b) := fun dk H0 F0 F σ H env st fl st' gd e E hd => by
  obtain ⟨n, e⟩ := of_whM e
  refine ⟨fun m σ H => ∃ F2 env st, Le F F2 ∧ Good K dk H0 F0 F2 σ H env st ∧ whF fc b m env st = some (fl, st'), ⟨n, F, env, st, Le.refl F, gd, e⟩, ?_⟩
  rintro m σ2 H2 ⟨F2, env2, s2, le2, g2, e2⟩
  cases m with
  | zero => cases e2
  | succ m =>
    obtain ⟨⟨k, s3⟩, e3, e2⟩ := bnd e2
    refine hc dk H0 F0 F2 σ2 H2 env2 s2 k s3 g2 e3 _ fun F3 H3 x3 g3 => ?_
    have le3 := le2.trans x3.f
    cases k with
    | false => cases e2; exact hd F3 σ2 H3 le3 g3
    | true =>
      replace e2 : ((b env2 s3).bind fun p => match p.1 with
        | .nx e => whF fc b m e p.2
        | .ct e => whF fc b m e p.2
        | .bk e => some (.nx e, p.2)
        | .rt r => some (.rt r, p.2)) = some (fl, st') := e2
      obtain ⟨⟨fl4, s4⟩, e4, e2⟩ := bnd e2
      refine ⟨fun σ H => ∃ F2 env st, Le F F2 ∧ Good K dk H0 F0 F2 σ H env st ∧ whF fc b m env st = some (fl, st'), fun σ' H' h => ⟨m, Nat.lt_succ_self m, h⟩, ?_⟩
      refine hb dk H0 F0 F3 σ2 H3 env2 s3 fl4 s4 g3 e4 _ ?_
      cases fl4 with
      | nx e5 => exact fun F5 σ5 H5 l5 g5 => ⟨F5, e5, s4, le3.trans l5, g5, e2⟩
      | ct e5 => exact fun F5 σ5 H5 l5 g5 => ⟨F5, e5, s4, le3.trans l5, g5, e2⟩
      | bk e5 =>
        cases e2
        exact fun F5 σ5 H5 l5 g5 => hd F5 σ5 H5 (le3.trans l5) g5
      | rt r =>
        cases e2
        exact hd

/-! ### comprehensions -/
def wipeE (env : Sg) : List Nat → Sg
  | [] => env
  | v :: vs => (wipeE env vs).set v .un
theorem wipeE_length (env : Sg) : ∀ vs : List Nat, (wipeE env vs).length = env.length
  | [] => rfl
  | v :: vs => by unfold wipeE; rw [List.length_set, wipeE_length env vs]
theorem wipeE_get {env : Sg} {i : Nat} {s : Sl} : ∀ {vs : List Nat}, (wipeE env vs)[i]? = some s → s = .un ∨ (env[i]? = some s ∧ i ∉ vs)
  | [], h => .inr ⟨h, by simp⟩
  | v :: vs, h => by
    unfold wipeE at h
    by_cases hi : v = i
    · subst hi
      by_cases hv : v < (wipeE env vs).length
      · rw [List.getElem?_set_self hv] at h; cases h; exact .inl rfl
      · rw [List.getElem?_eq_none (by rw [List.length_set]; omega)] at h; cases h
    · rw [List.getElem?_set_ne hi] at h
      rcases wipeE_get h with z | ⟨z1, z2⟩
      · exact .inl z
      · exact .inr ⟨z1, by simp only [List.mem_cons, not_or]; exact ⟨fun e => hi e.symm, z2⟩⟩
theorem wipe_off {σ : L2.St} {i : Nat} : ∀ {vs : List Nat}, i ∉ vs → (wipe σ vs)[i]? = σ[i]?
  | [], _ => rfl
  | v :: vs, h => by
    unfold wipe
    have hi : v ≠ i := fun e => h (by simp [e])
    rw [List.getElem?_set_ne hi]
    exact wipe_off fun z => h (List.mem_cons_of_mem _ z)
theorem wipe_in {σ : L2.St} {i : Nat} : ∀ {vs : List Nat}, i ∈ vs → (wipe σ vs)[i]? = if i < σ.length then some none else none
  | [], h => by cases h
  | v :: vs, h => by
    unfold wipe
    by_cases hi : v = i
    · subst hi
      by_cases hv : v < σ.length
      · rw [List.getElem?_set_self (by rw [wipe_length]; exact hv), if_pos hv]
      · rw [List.getElem?_eq_none (by rw [List.length_set, wipe_length]; omega), if_neg hv]
    · rw [List.getElem?_set_ne hi]
      rcases List.mem_cons.mp h with e | e
      · exact absurd e.symm hi
      · exact wipe_in e
theorem wipe_eq {σ σ' : L2.St} {vs : List Nat} (hl : σ'.length = σ.length) (h : ∀ i : Nat, i ∉ vs → σ'[i]? = σ[i]?) : wipe σ' vs = wipe σ vs := by
  apply List.ext_getElem?
  intro i
  by_cases hi : i ∈ vs
  · rw [wipe_in hi, wipe_in hi, hl]
  · rw [wipe_off hi, wipe_off hi]; exact h i hi
theorem wipe_wipe {σ : L2.St} {vs : List Nat} : wipe (wipe σ vs) vs = wipe σ vs := wipe_eq (wipe_length σ vs) fun i hi => wipe_off hi
theorem Good.wiped {vs : List Nat} (g : Good K dk H0 F0 F σ H env st) : Good K dk H0 F0 F (wipe σ vs) H (wipeE env vs) st :=
  g.reslot (by rw [wipe_length, wipeE_length]; exact g.len) fun i s e => by
    rcases wipeE_get e with z | ⟨z1, z2⟩
    · exact .inl z
    · exact .inr ⟨z1, wipe_off z2⟩
def compL (t : MG) (c : MT) (f : ME) (env : Sg) : List D → S → Option (List D × S)
  | [], st => some ([], st)
  | d :: ds, st => (t d env).bind fun e => (c e st).bind fun p => if p.1 then (f e p.2).bind fun q => (compL t c f env ds q.2).map fun r => (q.1 :: r.1, r.2) else compL t c f env ds p.2
def compM (it : MI) (t : MG) (c : MT) (f : ME) (vs : List Nat) : MA := fun env st => (it env st).bind fun p => if p.1.length ≤ sizeLine then compL t c f (wipeE env vs) p.1 p.2 else none
def yesM : MT := fun _ st => some (true, st)
theorem it_yes : ImT K tYes yesM := fun dk H0 F0 F σ H env st b st' g e Q q => by
  cases e
  exact q F H (Ext.refl F H) g
theorem if_comp {wi : TI} {g : TG} {tt : TT} {te : TE} {vs : List Nat} {it : MI} {t : MG} {c : MT} {f : ME} {is : List Nat} (hi : ImI K wi it) (hg : ImG K g t is) (ht : ImT K tt c) (he : Im K te f) (hv : ∀ i ∈ is, i ∈ vs) :
    ImF K (tLc wi g tt te vs) (compM it t c f vs) := fun dk H0 F0 F σ H env st out st' gd e Q q => by
  obtain ⟨⟨ds, s1⟩, e1, e⟩ := bnd e
  replace e : (if ds.length ≤ sizeLine then compL t c f (wipeE env vs) ds s1 else none) = some (out, st') := e
  split at e
  · rename_i hz
    refine hi dk H0 F0 F σ H env st ds s1 gd e1 _ fun J F1 H1 x1 g1 sd Dn hD => ?_
    have hDH : H Dn = none := by
      cases w : H Dn with
      | none => rfl
      | some o => exact absurd hD (x1.m Dn (by rw [w]; exact fun z => nomatch z))
    have nd := g1.nedk hD
    have h0D := g1.fresh0 hD
    have noD := g1.noown hD
    have noW : ∀ (j : Nat) (es : Own), (wipeE env vs)[j]? = some (.own es) → (wipe σ vs)[j]? ≠ some (some (.ref Dn)) := fun j es e => by
      rcases wipeE_get e with z | ⟨z1, z2⟩
      · cases z
      · rw [wipe_off z2]; exact noD j es z1
    let P : Nat → Hp → Prop := fun i H => ∃ F2 st2 acc done rest, Le F1 F2 ∧ Ext dk F1 H1 F2 H ∧ Good K dk H0 F0 F2 (wipe σ vs) H (wipeE env vs) st2 ∧ H Dn = some (.lst acc) ∧ F2.out Dn ∧ acc.length ≤ i ∧ Rps K dk F2 acc done ∧
      compL t c f (wipeE env vs) (ds.drop i) st2 = some (rest, st') ∧ done ++ rest = out
    have px0 : Px F1 H1 F1 (upd H1 Dn (.lst [])) := Px.lay g1.wd.sub hD
    refine ⟨fun i m H => m = ds.length - i ∧ i ≤ ds.length ∧ P i H, ⟨_, rfl, Nat.zero_le _, F1, s1, [], [], out, Le.refl F1, px0.ext, (g1.wiped).px px0, upd_same, g1.wd.out hD, Nat.zero_le _, .nil, e, rfl⟩, ?_⟩
    rintro i m H2 ⟨rfl, hle, F2, s2, acc, done, rest, le2, x2, g2, hacc, f2, hal, racc, e2, eo⟩
    by_cases hlt : i < ds.length
    · have hdi : ds[i]? = some ds[i] := List.getElem?_eq_getElem hlt
      obtain ⟨hgo, hy⟩ := (sd F2 H2 s2 le2 g2.wd i).1 _ hdi
      refine .inr ⟨hgo, P (i + 1), fun H' hp => ⟨_, by omega, rfl, hlt, hp⟩, fun x H3 hx => ?_⟩
      obtain ⟨F3, px, rx⟩ := hy x H3 hx
      have g3 := g2.px px
      rw [List.drop_eq_getElem_cons hlt] at e2
      obtain ⟨env3, e3, e2⟩ := bnd e2
      obtain ⟨⟨b, s4⟩, e4, e2⟩ := bnd e2
      refine hg dk H0 F0 F3 (wipe σ vs) H3 (wipeE env vs) s2 x _ env3 g3 rx e3 _ fun σ4 g4 tg => ?_
      have same : ∀ j : Nat, j ∉ vs → σ4[j]? = (wipe σ vs)[j]? ∧ env3[j]? = (wipeE env vs)[j]? := fun j hj => tg.same j fun z => hj (hv j z)
      have weq : wipe σ4 vs = wipe σ vs := by
        rw [wipe_eq tg.len fun j hj => (same j hj).1, wipe_wipe]
      have nD3 : H2 Dn ≠ none := by rw [hacc]; exact fun z => nomatch z
      have back : ∀ {F5 : Fz} {H5 : Hp} {st5 : S}, Good K dk H0 F0 F5 σ4 H5 env3 st5 → Good K dk H0 F0 F5 (wipe σ vs) H5 (wipeE env vs) st5 := fun {F5 H5 st5} g5 =>
        g5.reslot (by rw [wipe_length, wipeE_length]; exact gd.len) fun j s es => by
          rcases wipeE_get es with z | ⟨z1, z2⟩
          · exact .inl z
          · exact .inr ⟨(same j z2).2.trans es, (same j z2).1.symm⟩
      refine ⟨weq, ?_⟩
      refine ht dk H0 F0 F3 σ4 H3 env3 s2 b s4 g4 e4 _ fun F5 H5 x5 g5 => ?_
      have x25 : Ext dk F2 H2 F5 H5 := px.ext.trans x5
      have a5 : H5 Dn = some (.lst acc) := x25.h _ _ hacc nd.1 nd.2 (.inl f2.2)
      have f5 : F5.out Dn := x25.out f2 nD3
      cases b with
      | false =>
        exact ⟨F5, s4, acc, done, rest, le2.trans x25.f, x2.trans x25, back g5, a5, f5, by omega, racc.mono x25.f, e2, eo⟩
      | true =>
        replace e2 : ((f env3 s4).bind fun q => (compL t c f (wipeE env vs) (ds.drop (i + 1)) q.2).map fun r => (q.1 :: r.1, r.2)) = some (rest, st') := e2
        obtain ⟨⟨y, s6⟩, e6, e2⟩ := bnd e2
        obtain ⟨⟨rest', s7⟩, e7, e2⟩ := mpd e2
        cases e2
        refine he dk H0 F0 F5 σ4 H5 env3 s4 y s6 g5 e6 _ fun v F6 H6 x6 g6 r6 => ?_
        have x26 := x25.trans x6
        have a6 : H6 Dn = some (.lst acc) := x26.h _ _ hacc nd.1 nd.2 (.inl f2.2)
        have f6 : F6.out Dn := x26.out f2 nD3
        refine ⟨acc, a6, by omega, F6, s6, acc ++ [v], done ++ [y], rest', le2.trans x26.f, ?_, (back g6).mutT a6 f6 h0D nd.1 nd.2 noW, upd_same, f6, by simp; omega, (racc.mono x26.f).append (Rps.one r6), e7, by rw [← eo]; simp⟩
        exact (x2.trans x26).upd hD
    · have ei : i = ds.length := by omega
      subst ei
      rw [List.drop_length] at e2
      cases e2
      refine .inl ⟨(sd F2 H2 _ le2 g2.wd ds.length).2 (Nat.le_refl _), ?_⟩
      rw [List.append_nil] at eo
      subst eo
      have g9 : Good K dk H0 F0 F2 σ H2 env st' := by
        have gx := g1.step x2 g2.wd
        exact gx
      exact q Dn acc F2 H2 (x1.trans x2) g9 hDH f2 hacc racc
  · cases e
end
end MD

set_option Elab.async false
set_option linter.all false
set_option maxRecDepth 100000
set_option maxHeartbeats 2000000
namespace MD
open PySem L2

section
variable {K : Fg} {dk : Dk} {F F' F0 : Fz} {H H' H0 : Hp} {σ : L2.St} {env : Sg} {st : S}
/-! ### what a for or a comprehension walks -/
def rngD (lo : Int) (n : Nat) : List D := (List.range n).map fun k => .int (lo + (k : Nat))
theorem rngD_get {lo : Int} {n i : Nat} {d : D} (h : (rngD lo n)[i]? = some d) : i < n ∧ d = .int (lo + (i : Nat)) := by
  unfold rngD at h
  rw [List.getElem?_map] at h
  obtain ⟨k, h1, h2⟩ := mpd h
  have hi : i < n := by
    by_cases hl : i < n
    · exact hl
    · rw [List.getElem?_eq_none (by rw [List.length_range]; omega)] at h1; cases h1
  rw [List.getElem?_range hi] at h1
  cases h1
  exact ⟨hi, h2.symm⟩
theorem stdy_rng (lo : Int) (n : Nat) : Stdy K dk F (Itr lo n) (rngD lo n) := fun F1 H1 st le w i => by
  refine ⟨fun d hd => ?_, fun hl => ?_⟩
  · obtain ⟨h1, rfl⟩ := rngD_get hd
    refine ⟨h1, fun x H2 hy => ?_⟩
    obtain ⟨e1, e2⟩ := hy
    subst e1 e2
    exact ⟨F1, Px.refl w.sub, .int _⟩
  · show n ≤ i
    unfold rngD at hl
    simpa using hl
def r1M (a : MA) : MI := fun env st => (a env st).bind fun p => match p.1 with
  | [.int j] => if -(2 ^ 62) ≤ j ∧ j < 2 ^ 62 then some (rngD 0 j.toNat, p.2) else none
  | _ => none
theorem ii_range1 {ta : TA} {a : MA} (h : ImAW K ta a) : ImI K (iRng1 ta) (r1M a) := fun dk H0 F0 F σ H env st ds st' g e R q => by
  obtain ⟨⟨xs, s1⟩, h1, e⟩ := bnd e
  refine h dk H0 F0 F σ H env st xs s1 g h1 _ fun vs F1 H1 x1 g1 r1 => ?_
  dsimp only at e
  split at e
  · split at e
    · rename_i j hj
      cases e
      obtain ⟨v, rfl, r⟩ := r1.ws.one
      cases r.int
      exact ⟨j, rfl, hj.1, hj.2, q _ F1 H1 x1 g1 (stdy_rng 0 j.toNat)⟩
    · cases e
  · cases e
def r2M (a : MA) : MI := fun env st => (a env st).bind fun p => match p.1 with
  | [.int i, .int j] => if -(2 ^ 62) ≤ i ∧ i < 2 ^ 62 ∧ -(2 ^ 62) ≤ j ∧ j < 2 ^ 62 then some (rngD i (j - i).toNat, p.2) else none
  | _ => none
theorem ii_range2 {ta : TA} {a : MA} (h : ImAW K ta a) : ImI K (iRng2 ta) (r2M a) := fun dk H0 F0 F σ H env st ds st' g e R q => by
  obtain ⟨⟨xs, s1⟩, h1, e⟩ := bnd e
  refine h dk H0 F0 F σ H env st xs s1 g h1 _ fun vs F1 H1 x1 g1 r1 => ?_
  dsimp only at e
  split at e
  · split at e
    · rename_i i j hj
      cases e
      obtain ⟨v, u, rfl, r, r'⟩ := r1.ws.two
      cases r.int
      cases r'.int
      exact ⟨i, j, rfl, hj, q _ F1 H1 x1 g1 (stdy_rng i (j - i).toNat)⟩
    · cases e
  · cases e

/-! a list, a tuple or a text -/
theorem stdy_list {a : Addr} {vs : List V} {ds : List D} (h : F a = some (.lst vs)) (r : Rps K dk F vs ds) : Stdy K dk F (Itl K a) ds := fun F1 H1 st le w i => by
  have hq : SqL K H1 a vs := SqL.of (w.sub.lst (le.h _ _ h))
  refine ⟨fun d hd => ?_, fun hl => ⟨vs, hq, by rw [r.length]; exact hl⟩⟩
  obtain ⟨v, h1, h2⟩ := r.get hd
  refine ⟨⟨vs, v, hq, h1⟩, fun x H2 hy => ?_⟩
  obtain ⟨e1, e2⟩ := hy
  subst e1
  have ev := e2 vs hq
  rw [h1] at ev
  cases ev
  exact ⟨F1, Px.refl w.sub, h2.mono le⟩
theorem stdy_tup {a : Addr} {vs : List V} {ds : List D} (h : SqT K F a vs) (r : Rps K dk F vs ds) : Stdy K dk F (Itt K a) ds := fun F1 H1 st le w i => by
  have hq : SqT K H1 a vs := w.sub.sqT (le.sqT h)
  refine ⟨fun d hd => ?_, fun hl => ⟨vs, hq, by rw [r.length]; exact hl⟩⟩
  obtain ⟨v, h1, h2⟩ := r.get hd
  refine ⟨⟨vs, v, hq, h1⟩, fun x H2 hy => ?_⟩
  obtain ⟨e1, e2⟩ := hy
  subst e1
  have ev := e2 vs hq
  rw [h1] at ev
  cases ev
  exact ⟨F1, Px.refl w.sub, h2.mono le⟩
theorem signs_get {x : Str} {i : Nat} {d : D} (h : ((signs x).map D.str)[i]? = some d) : ∃ c, x.cps[i]? = some c ∧ d = .str ⟨#[c]⟩ := by
  unfold signs at h
  rw [List.map_map, List.getElem?_map] at h
  obtain ⟨c, h1, h2⟩ := mpd h
  exact ⟨c, by simpa using h1, h2.symm⟩
theorem signs_len (x : Str) : ((signs x).map D.str).length = x.cps.size := by
  unfold signs
  simp
theorem stdy_str (x : Str) : Stdy K dk F (Its x) ((signs x).map D.str) := fun F1 H1 st le w i => by
  refine ⟨fun d hd => ?_, fun hl => by rw [signs_len] at hl; exact hl⟩
  obtain ⟨c, h1, rfl⟩ := signs_get hd
  refine ⟨?_, fun y H2 hy => ?_⟩
  · show i < x.cps.size
    by_cases hl : i < x.cps.size
    · exact hl
    · rw [Array.getElem?_eq_none (by omega)] at h1; cases h1
  · obtain ⟨e1, c', h2, e2⟩ := hy
    subst e1 e2
    rw [h1] at h2
    cases h2
    exact ⟨F1, Px.refl w.sub, .str _⟩
def iSeq (K : Fg) (te : TE) : TI := fun σ H R => te σ H fun x H1 =>
  (∃ a, x = .ref a ∧ (∃ xs, SqL K H1 a xs) ∧ R (Itl K a) H1) ∨ (∃ a, x = .ref a ∧ (∃ xs, SqT K H1 a xs) ∧ R (Itt K a) H1) ∨ ∃ y, x = .str y ∧ R (Its y) H1
theorem pi_seq {X : Cx} {tg e : Expr} {te : TE} (he : PE X e te) : PI X tg e (iSeq X.K te) := by
  constructor
  intro pins s σ H R I h
  refine thn (he.run pins s σ H _ I h) fun v s1 h1 => ?_
  obtain ⟨x, H1, I1, r1, q1⟩ := h1
  rcases q1 with ⟨a, rfl, ⟨xs, hq⟩, q⟩ | ⟨a, rfl, ⟨xs, hq⟩, q⟩ | ⟨y, rfl, q⟩
  · cases r1
    obtain ⟨its, _, pl, _⟩ := I1.list hq
    exact wpAny_pyIter_list pl.isList (pi_one (tk := s1.toks) I1 _ (turn_list a _) ⟨_, Heap.get?_push_size _ rfl, rfl, rfl⟩ q)
  · cases r1
    obtain ⟨its, _, pl, _⟩ := I1.tuple hq
    exact wpAny_pyIter_tuple (show s1.heap.IsTuple a its.toArray from pl) (pi_one (tk := s1.toks) I1 _ (turn_tuple a _) ⟨_, Heap.get?_push_size _ rfl, rfl, rfl⟩ q)
  · obtain ⟨t, rfl⟩ := r1
    cases ha : y.cps.all (· < 128)
    · exact wpAny_pyIter_wide ha (pi_one (tk := s1.toks) I1 _ (turn_str _ y t "str_iterator" (.inr rfl)) ⟨_, Heap.get?_push_size _ rfl, rfl, rfl⟩ q)
    · exact wpAny_pyIter_ascii ha (pi_one (tk := s1.toks) I1 _ (turn_str _ y t "str_ascii_iterator" (.inl rfl)) ⟨_, Heap.get?_push_size _ rfl, rfl, rfl⟩ q)
def seqOf : D → Option (List D)
  | .lst ds => some ds
  | .tup ds => some ds
  | .str x => some ((signs x).map D.str)
  | _ => none
def seqI (f : ME) : MI := fun env st => (f env st).bind fun p => (seqOf p.1).map fun ds => (ds, p.2)
theorem ii_seq {te : TE} {f : ME} (h : Im K te f) : ImI K (iSeq K te) (seqI f) := fun dk H0 F0 F σ H env st ds st' g e R q => by
  obtain ⟨⟨d, s1⟩, h1, e⟩ := bnd e
  obtain ⟨es, h2, e⟩ := mpd e
  cases e
  refine h dk H0 F0 F σ H env st d s1 g h1 _ fun v F1 H1 x1 g1 r1 => ?_
  replace h2 : seqOf d = some ds := h2
  cases d with
  | lst xs =>
    cases h2
    cases r1 with
    | lst a1 a2 => exact .inl ⟨_, rfl, ⟨_, SqL.of (g1.wd.sub.lst a1)⟩, q _ F1 H1 x1 g1 (stdy_list a1 a2)⟩
  | tup xs =>
    cases h2
    cases r1 with
    | tup a1 a2 => exact .inr (.inl ⟨_, rfl, ⟨_, g1.wd.sub.sqT a1⟩, q _ F1 H1 x1 g1 (stdy_tup a1 a2)⟩)
  | str x =>
    cases h2
    cases r1
    exact .inr (.inr ⟨_, rfl, q _ F1 H1 x1 g1 (stdy_str x)⟩)
  | _ => cases h2

/-! ### enumerate -/
def enumD (ds : List D) : List D := ds.zipIdx.map fun p => .tup [.int ((p.2 : Nat) : Int), p.1]
theorem enumD_get {ds : List D} {i : Nat} {d : D} (h : (enumD ds)[i]? = some d) : ∃ x, ds[i]? = some x ∧ d = .tup [.int ((i : Nat) : Int), x] := by
  unfold enumD at h
  rw [List.getElem?_map, List.getElem?_zipIdx] at h
  obtain ⟨p, h1, h2⟩ := mpd h
  obtain ⟨x, h3, h4⟩ := mpd h1
  subst h4
  exact ⟨x, h3, by rw [← h2]; simp⟩
theorem enumD_len (ds : List D) : (enumD ds).length = ds.length := by unfold enumD; simp
/-- items that stand fast, each in a new pair with its number -/
def ItE (C : Hp → Prop) (xs : List V) : It := ⟨fun i H => i < xs.length ∧ C H, fun i H v H' => ∃ T x, v = .ref T ∧ H T = none ∧ H' = upd H T (.tup [.int ((i : Nat) : Int), x]) ∧ xs[i]? = some x, fun i H => xs.length ≤ i ∧ C H⟩
theorem pair_new {T : Addr} {i : Int} {x : V} {d : D} {F1 : Fz} {H1 : Hp} {st : S} (w : Wd K dk F1 H1 st) (hT : H1 T = none) (r : Rp K dk F1 x d) :
    ∃ F2, Px F1 H1 F2 (upd H1 T (.tup [.int i, x])) ∧ Rp K dk F2 (.ref T) (.tup [.int i, d]) := by
  have px : Px F1 H1 (Fz.up F1 T (.tup [.int i, x])) (upd H1 T (.tup [.int i, x])) := Px.new w.sub hT
  exact ⟨_, px, .tup (SqT.of Fz.up_same) (.cons (.int i) (.cons (r.mono px.f) .nil))⟩
theorem stdy_enumE {C : Hp → Prop} {vs : List V} {ds : List D} (hC : ∀ H1, Sb F H1 → C H1) (r : Rps K dk F vs ds) : Stdy K dk F (ItE C vs) (enumD ds) := fun F1 H1 st le w i => by
  have hc : C H1 := hC H1 (le.sb w.sub)
  refine ⟨fun d hd => ?_, fun hl => ⟨by rw [enumD_len, ← r.length] at hl; exact hl, hc⟩⟩
  obtain ⟨x, h1, rfl⟩ := enumD_get hd
  obtain ⟨v, h2, h3⟩ := r.get h1
  refine ⟨⟨?_, hc⟩, fun y H2 hy => ?_⟩
  · show i < vs.length
    by_cases hl : i < vs.length
    · exact hl
    · rw [List.getElem?_eq_none (by omega)] at h2; cases h2
  · obtain ⟨T, v', rfl, hT, rfl, e⟩ := hy
    rw [h2] at e
    cases e
    exact pair_new w hT (h3.mono le)
theorem stdy_enumL {a : Addr} {vs : List V} {ds : List D} (h : F a = some (.lst vs)) (r : Rps K dk F vs ds) : Stdy K dk F (Ite K a) (enumD ds) := fun F1 H1 st le w i => by
  have hq : SqL K H1 a vs := SqL.of (w.sub.lst (le.h _ _ h))
  refine ⟨fun d hd => ?_, fun hl => ⟨vs, hq, by rw [enumD_len, ← r.length] at hl; exact hl⟩⟩
  obtain ⟨x, h1, rfl⟩ := enumD_get hd
  obtain ⟨v, h2, h3⟩ := r.get h1
  refine ⟨⟨vs, v, hq, h2⟩, fun y H2 hy => ?_⟩
  obtain ⟨T, v', rfl, hT, rfl, e⟩ := hy
  have e' := e vs hq
  rw [h2] at e'
  cases e'
  exact pair_new w hT (h3.mono le)
/-- a turn of enumerate over what draws from it -/
theorem turnE {P : Program} {w : World} {K : Fg} {elts : List Expr} {kk : Nat} {tpos : Pos} (C : Hp → Prop) (xs : List V) (e it : Addr) (St1 : Nat → Heap → Prop)
    (fr : ∀ i h h', St1 i h → (∀ o, h.get? it = some o → h'.get? it = some o) → St1 i h')
    (ob : ∀ i h, St1 i h → ∃ o, h.get? it = some o ∧ ∀ v, o.data ≠ .cell v)
    (dr : ∀ (X : Cx), X.prog = P → X.w = w → X.K = K → X.calm = true → ∀ (i : Nat) (pins : List (Addr × Obj)) (s : Shared) (σ : L2.St) (H : Hp), Inv X pins σ H s → C H → H it = none → St1 i s.heap →
      ∃ (fp : List Addr) (St2 : Nat → Heap → Prop) (Pv : Nat → Value → Prop), Draws P w X.A.in1 it fp xs.length Pv St2 ∧ St2 i s.heap ∧ (∀ j h, St2 j h → St1 j h) ∧ (∀ b ∈ fp, b = it ∨ (∃ o, H b = some o) ∨ ∃ o, X.base.get? b = some o) ∧ ∀ j u, Pv j u → ∃ x, xs[j]? = some x ∧ RelV x u) :
    Turn P w K (.Tuple elts kk tpos) (ItE C xs) [e, it] e (fun i h => (∃ old, IsEnum h e it ((i : Nat) : Int) old) ∧ St1 i h ∧ e ≠ it ∧ i ≤ xs.length) where
  mem := List.mem_cons_self
  obj := fun i h tn b hb => by
    obtain ⟨⟨old, he⟩, hs, _⟩ := tn
    rcases List.mem_cons.mp hb with z | z
    · rw [z]; exact ⟨_, he, fun v q => nomatch q⟩
    · rw [List.mem_singleton.mp z]; exact ob i h hs
  keep := fun i h h' tn k => by
    obtain ⟨⟨old, he⟩, hs, hne, hl⟩ := tn
    exact ⟨⟨old, k e List.mem_cons_self _ he⟩, fr i h h' hs fun o q => k it (by simp) o q, hne, hl⟩
  item := by
    intro X hP hw hK hc i pins s σ H Er I hf tn hgo
    obtain ⟨hg, hC⟩ : i < xs.length ∧ C H := hgo
    obtain ⟨⟨old, he⟩, hs, hne, _⟩ := tn
    obtain ⟨fp, St2, Pv, Dw, h2, h21, hfp, hpv⟩ := dr X hP hw hK hc i pins s σ H I hC (hf it (by simp)).1 hs
    subst hP hw hK
    have hel : e < s.heap.objs.size := Heap.lt_size he
    have hil : it < s.heap.objs.size := by obtain ⟨o, q, _⟩ := ob i _ hs; exact Heap.lt_size q
    have hef : e ∉ fp := fun z => by
      rcases hfp e z with q | ⟨o, q⟩ | ⟨o, q⟩
      · exact hne q
      · rw [(hf e (by simp)).1] at q; cases q
      · have hx := (I.bs e o q).1
        obtain ⟨f0, f1, f2, f3, _⟩ := hf e (by simp)
        rcases f3 with f3 | f3
        · exact I.ok.noex e o q f3
        · exact absurd (Nat.lt_of_lt_of_le (Heap.lt_size (I.ok.bs e o q).1) f3) (Nat.lt_irrefl _)
    refine wpAny_pyNext_enum_itemD Dw he h2 hg hne hef fun u h' tk hu ho hst hT hsz hk => ?_
    obtain ⟨x, hx, ru⟩ := hpv i u hu
    refine ⟨_, rfl, wpAny_letOwnedTupleGo_enum (s := { s with heap := h', toks := tk + 1 }) ho fun h'' he' sb => ?_⟩
    have hT2 : h''.get? s.heap.objs.size = some { cls := .type "tuple", data := .seq #[.int i tk, u] } := (sb.2 _ (Nat.ne_of_gt hel)).trans hT
    have new : ObjOk X.prog X.w (upd H s.heap.objs.size (.tup [.int ((i : Nat) : Int), x])) h'' s.heap.objs.size (.tup [.int ((i : Nat) : Int), x]) := by
      refine ⟨?_, [.int i tk, u], .cons ⟨_, rfl⟩ (.cons ru .nil), ⟨_, hT2, rfl, _, rfl⟩⟩
      show 2 ≤ sizeLine
      decide
    have I1 : Inv X pins σ (upd H s.heap.objs.size (.tup [.int ((i : Nat) : Int), x])) { s with heap := h'', toks := tk + 1 } := by
      refine I.turnedNew (ch := [e, it]) (fun b o hb q => ?_) hf (Nat.le_refl _) new
      have n1 : b ≠ e := fun z => hb (by simp [z])
      have n2 : b ≠ it := fun z => hb (by simp [z])
      exact (sb.2 b n1).trans (hk b o n1 n2 q)
    refine ⟨.ref s.heap.objs.size, _, I1, rfl, ⟨_, x, rfl, I.hok.fresh (Nat.le_refl _), rfl, hx⟩, ⟨⟨u, ?_⟩, ?_, hne, hg⟩, fun b hb => ?_⟩
    · have e1 : ((i + 1 : Nat) : Int) = (i : Int) + 1 := by omega
      rw [e1]; exact he'
    · exact fr (i + 1) h' h'' (h21 _ _ hst) fun o q => (sb.2 it (Ne.symm hne)).trans q
    · have hb' : b < s.heap.objs.size := by
        rcases List.mem_cons.mp hb with z | z
        · rw [z]; exact hel
        · rw [List.mem_singleton.mp z]; exact hil
      rw [upd_ne (Nat.ne_of_lt hb')]
      exact (hf b hb).1
  done := by
    intro X hP hw hK hc i pins s σ H Er I hf tn hgo
    obtain ⟨hg, hC⟩ : xs.length ≤ i ∧ C H := hgo
    obtain ⟨⟨old, he⟩, hs, hne, hl⟩ := tn
    have ei : i = xs.length := Nat.le_antisymm hl hg
    subst ei
    obtain ⟨fp, St2, Pv, Dw, h2, h21, hfp, hpv⟩ := dr X hP hw hK hc xs.length pins s σ H I hC (hf it (by simp)).1 hs
    subst hP hw hK
    obtain ⟨f0, f1, f2, f3, f4, f5⟩ := hf it (by simp)
    exact wpAny_pyNext_enum_endD Dw he h2 fun h' eb => ⟨rfl, I.turned (t' := s.toks) (fun b o hb q => eb b o hb q) f0 f1 f3 f4 f5⟩
  self := fun A i s Q E tn h => by
    obtain ⟨⟨_, he⟩, _⟩ := tn
    exact wpAny_pyIter_enum he h
end
end MD

set_option Elab.async false
set_option linter.all false
set_option maxRecDepth 100000
set_option maxHeartbeats 2000000
namespace MD
open PySem L2

theorem newT (t : Addr) (items : Array Value) : Meets (Builtin.«enumerate.__new__» ⟨[.type "enumerate", .ref t], []⟩) (fun _ R s => s.heap.IsTuple t items ∧ R (.ok (.ret (.ref (s.heap.push { cls := .type "tuple_iterator", data := .fields #[.ref t, .int 0 0] }).objs.size)))
        { s with heap := (s.heap.push { cls := .type "tuple_iterator", data := .fields #[.ref t, .int 0 0] }).push { cls := .type "enumerate", data := .fields #[.none, .bool false, .ref s.heap.objs.size, rawInt 0, .none, .none] } }) :=
  .of_wp fun prog w A R s h => by
    obtain ⟨hp, g, d, tk, os⟩ := s
    obtain ⟨hL, h⟩ := h
    obtain ⟨⟨c0, dct, dt, sl⟩, hl, hc, n, hd⟩ := id hL
    have hsub := sub_enumerate
    wp_walk using AutoSeq1.wpAny_loadPart' hl
    refine wpAny_stack_any fun st => wpAny_pure ?_
    split
    · rename_i c _ _ _ _ _
      cases (c == Value.type "enumerate")
      · wp_walk using AutoSeq1.wpAny_loadPart' hl, wpAny_pyIter_tuple hL
        exact ⟨_, rfl, h⟩
      · wp_walk using AutoSeq1.wpAny_loadPart' hl, wpAny_pyIter_tuple hL
        exact ⟨_, rfl, h⟩
    · wp_walk using AutoSeq1.wpAny_loadPart' hl, wpAny_pyIter_tuple hL
      exact ⟨_, rfl, h⟩
theorem call_enumT {prog : Program} {w : World} {A : Around} {E : Value → Shared → Prop} {s : Shared} {t : Addr} {items : Array Value} {Q : Value → Shared → Prop} (hL : s.heap.IsTuple t items)
    (h : ∀ h', IsEnum h' (s.heap.objs.size + 1) s.heap.objs.size 0 .none → h'.IsTupleIter s.heap.objs.size t 0 → (∀ b o, s.heap.get? b = some o → h'.get? b = some o) → Q (.ref (s.heap.objs.size + 1)) { s with heap := h' }) :
    wpAny (model prog w) A (call (.type "enumerate") [.ref t]) Q E s := by
  refine callType_new F.called_enumerate (by decide) (F.typeCall_enumerate_1 _) (F.newCall_enumerate_1 _) (fun obj => F.args_object_init_2 obj _) F.entry_enumerate_new (newT t items) ⟨hL, ?_⟩
  have hz : (s.heap.push { cls := .type "tuple_iterator", data := .fields #[.ref t, .int 0 0] }).objs.size = s.heap.objs.size + 1 := Heap.size_push ..
  show _ ∧ _
  rw [hz]
  have he : IsEnum ((s.heap.push { cls := .type "tuple_iterator", data := .fields #[.ref t, .int 0 0] }).push { cls := .type "enumerate", data := .fields #[.none, .bool false, .ref s.heap.objs.size, rawInt 0, .none, .none] }) (s.heap.objs.size + 1) s.heap.objs.size 0 .none := by
    have q := Heap.get?_push_size (s.heap.push { cls := .type "tuple_iterator", data := .fields #[.ref t, .int 0 0] }) (o := { cls := .type "enumerate", data := .fields #[.none, .bool false, .ref s.heap.objs.size, rawInt 0, .none, .none] }) rfl
    rw [hz] at q
    exact q
  exact ⟨⟨_, he, rfl⟩, h _ he ⟨_, Heap.get?_push_of_some _ (Heap.get?_push_size _ rfl), rfl, rfl⟩ fun b o x => Heap.get?_push_of_some _ (Heap.get?_push_of_some _ x)⟩

section
variable {K : Fg} {dk : Dk} {F F' F0 : Fz} {H H' H0 : Hp} {σ : L2.St} {env : Sg} {st : S}
theorem turn_enumS {P : Program} {w : World} {elts : List Expr} {kk : Nat} {tpos : Pos} (e it : Addr) (x : Str) (t : Tok) :
    Turn P w K (.Tuple elts kk tpos) (ItE (fun _ => True) ((signs x).map V.str)) [e, it] e (fun i h => (∃ old, IsEnum h e it ((i : Nat) : Int) old) ∧ h.IsStrIter it (strIterType x) x t i ∧ e ≠ it ∧ i ≤ ((signs x).map V.str).length) := by
  refine turnE _ _ e it (fun i h => h.IsStrIter it (strIterType x) x t i) (fun i h h' st k => ?_) (fun i h st => ?_) fun X hP hw hK hc i pins s σ H I _ _ hs => ?_
  · obtain ⟨o, ho, r⟩ := st
    exact ⟨o, k o ho, r⟩
  · obtain ⟨o, ho, c, d⟩ := st
    exact ⟨o, ho, fun v z => by rw [d] at z; cases z⟩
  · have hd : X.A.in1.handled = none := I.ok.hd hc
    have hl : ((signs x).map V.str).length = x.cps.size := by unfold signs; simp
    subst hP hw
    refine ⟨[it], _, _, hl ▸ Draws.text (prog := X.prog) (w := X.w) hd it x t, hs, fun _ _ z => z, fun b hb => .inl (List.mem_singleton.mp hb), fun j u hu => ?_⟩
    obtain ⟨c, u', h1, rfl⟩ := hu
    refine ⟨.str ⟨#[c]⟩, ?_, ⟨_, rfl⟩⟩
    unfold signs
    rw [List.map_map, List.getElem?_map]
    have : x.cps.toList[j]? = some c := by simpa using h1
    rw [this]
    rfl
theorem turn_enumT {P : Program} {w : World} {elts : List Expr} {kk : Nat} {tpos : Pos} (a e it : Addr) (xs : List V) :
    Turn P w K (.Tuple elts kk tpos) (ItE (fun H => SqT K H a xs) xs) [e, it] e (fun i h => (∃ old, IsEnum h e it ((i : Nat) : Int) old) ∧ h.IsTupleIter it a i ∧ e ≠ it ∧ i ≤ xs.length) := by
  refine turnE _ _ e it (fun i h => h.IsTupleIter it a i) (fun i h h' st k => ?_) (fun i h st => ?_) fun X hP hw hK hc i pins s σ H I hq hn hs => ?_
  · obtain ⟨o, ho, r⟩ := st
    exact ⟨o, k o ho, r⟩
  · obtain ⟨o, ho, c, d⟩ := st
    exact ⟨o, ho, fun v z => by rw [d] at z; cases z⟩
  · have hd : X.A.in1.handled = none := I.ok.hd hc
    subst hP hw hK
    obtain ⟨its, rv, pt, hz⟩ := I.tuple hq
    have hl : xs.length = its.toArray.size := by rw [List.size_toArray]; exact rv.length
    have hb : (∃ o, H a = some o) ∨ ∃ o, X.base.get? a = some o := by
      rcases hq with (h | ⟨o, h⟩) | ⟨o, _, _, h, _⟩
      · exact .inl ⟨_, h⟩
      · exact .inl ⟨_, h⟩
      · exact .inr ⟨_, I.mod.kin a o h⟩
    have hai : a ≠ it := fun z => by
      obtain ⟨o, ho, c, d⟩ := hs
      obtain ⟨o2, ho2, c2, _⟩ := id pt
      rw [z, ho] at ho2
      cases ho2
      rw [c] at c2
      exact absurd c2 (by decide)
    refine ⟨[it, a], _, _, hl ▸ Draws.tuple (prog := X.prog) (w := X.w) hd it a hai its.toArray, ⟨hs, pt⟩, fun _ _ z => z.1, fun b hbm => ?_, fun j u hu => ?_⟩
    · rcases List.mem_cons.mp hbm with z | z
      · exact .inl z
      · rw [List.mem_singleton.mp z]; exact .inr hb
    · have hu' : its[j]? = some u := by simpa using hu
      have hjl : j < xs.length := by
        rw [rv.length]
        by_cases hl : j < its.length
        · exact hl
        · rw [List.getElem?_eq_none (by omega)] at hu'; cases hu'
      obtain ⟨u2, h1, h2⟩ := rv.get (List.getElem?_eq_getElem hjl)
      rw [hu'] at h1
      cases h1
      exact ⟨_, List.getElem?_eq_getElem hjl, h2⟩
def iEnumA (K : Fg) (ta : TA) : TI := fun σ H R => ta σ H fun vs H1 => (∃ a xs, vs = [.ref a] ∧ SqL K H1 a xs ∧ R (Ite K a) H1) ∨ (∃ a xs, vs = [.ref a] ∧ SqT K H1 a xs ∧ R (ItE (fun H => SqT K H a xs) xs) H1) ∨
  ∃ y, vs = [.str y] ∧ R (ItE (fun _ => True) ((signs y).map V.str)) H1
theorem pi_enumA {X : Cx} {e : Expr} {ta : TA} {p pos tpos : Pos} {elts : List Expr} {kk : Nat} (hg : Gl X "enumerate") (hm : X.mg "enumerate" = none) (ha : PA X [e] ta) (hs : starEach [e] X.env = [(false, eval e X.env)] := by rfl) :
    PI X (.Tuple elts kk tpos) (.Call (.Name "enumerate" p) [e] [] pos) (iEnumA X.K ta) := by
  constructor
  intro pins s σ H R I h
  refine PyProof.Rows.Call_ (ld_blt I hg hm PyProof.Rows.boot_enumerate (PyProof.Rows.callWith_type1 (thn (ha.run pos pins s σ H _ I h) fun us s1 q0 => ?_) hs rfl))
  obtain ⟨vs, H1, I1, r1, q1⟩ := q0
  have fpo : ∀ b ∈ [s1.heap.objs.size + 1, s1.heap.objs.size], FpOk X pins H1 b := fun b hb => by
    have hle : s1.heap.objs.size ≤ b := by
      rcases List.mem_cons.mp hb with z | z
      · rw [z]; exact Nat.le_add_right _ _
      · rw [List.mem_singleton.mp z]; exact Nat.le_refl _
    exact I1.fpOk hle (I1.hok.fresh hle)
  rcases q1 with ⟨a, xs, rfl, hq, q⟩ | ⟨a, xs, rfl, hq, q⟩ | ⟨y, rfl, q⟩
  · obtain ⟨u, rfl, ru⟩ := vals1 r1
    cases ru
    obtain ⟨its, rv, pl, hz⟩ := I1.list hq
    refine call_enumerate_list pl.isList fun h' he hit hsz hk => wpAny_pyIter_enum he ?_
    exact ⟨_, _, _, _, H1, rfl, I1.kept (t' := s1.toks) hk, turn_enum a (s1.heap.objs.size + 1) s1.heap.objs.size, ⟨⟨.none, he⟩, hit, Nat.succ_ne_self _⟩, fpo, q⟩
  · obtain ⟨u, rfl, ru⟩ := vals1 r1
    cases ru
    obtain ⟨its, rv, pl, hz⟩ := I1.tuple hq
    refine call_enumT (show s1.heap.IsTuple a its.toArray from pl) fun h' he hit hk => wpAny_pyIter_enum he ?_
    exact ⟨_, _, _, _, H1, rfl, I1.kept (t' := s1.toks) hk, turn_enumT a (s1.heap.objs.size + 1) s1.heap.objs.size xs, ⟨⟨.none, he⟩, hit, Nat.succ_ne_self _, Nat.zero_le _⟩, fpo, q⟩
  · obtain ⟨u, rfl, ru⟩ := vals1 r1
    obtain ⟨t, rfl⟩ := ru
    refine call_enumerate_str fun h' he hit hsz hk => wpAny_pyIter_enum he ?_
    exact ⟨_, _, _, _, H1, rfl, I1.kept (t' := s1.toks) hk, turn_enumS (s1.heap.objs.size + 1) s1.heap.objs.size y t, ⟨⟨.none, he⟩, hit, Nat.succ_ne_self _, Nat.zero_le _⟩, fpo, q⟩
def enumI (f : ME) : MI := fun env st => (f env st).bind fun p => (seqOf p.1).map fun ds => (enumD ds, p.2)
theorem Rps.mapStr : ∀ (xs : List Str), Rps K dk F (xs.map V.str) (xs.map D.str) := Rps.ofStrs
theorem ii_enum {te : TE} {f : ME} (h : Im K te f) : ImI K (iEnumA K (tCons te tNil)) (enumI f) := fun dk H0 F0 F σ H env st ds st' g e R q => by
  obtain ⟨⟨d, s1⟩, h1, e⟩ := bnd e
  obtain ⟨es, h2, e⟩ := mpd e
  cases e
  refine h dk H0 F0 F σ H env st d s1 g h1 _ fun v F1 H1 x1 g1 r1 => ?_
  replace h2 : seqOf d = some es := h2
  cases d with
  | lst xs =>
    cases h2
    cases r1 with
    | lst a1 a2 => exact .inl ⟨_, _, rfl, SqL.of (g1.wd.sub.lst a1), q _ F1 H1 x1 g1 (stdy_enumL a1 a2)⟩
  | tup xs =>
    cases h2
    cases r1 with
    | tup a1 a2 => exact .inr (.inl ⟨_, _, rfl, g1.wd.sub.sqT a1, q _ F1 H1 x1 g1 (stdy_enumE (fun H2 le => le.sqT a1) a2)⟩)
  | str x =>
    cases h2
    cases r1
    exact .inr (.inr ⟨_, rfl, q _ F1 H1 x1 g1 (stdy_enumE (fun _ _ => trivial) (Rps.ofStrs _))⟩)
  | _ => cases h2
end
end MD

set_option Elab.async false
set_option linter.all false
set_option maxRecDepth 100000
set_option maxHeartbeats 2000000
namespace MD
open PySem PySem.Spec PyProof.Rows L2

/-- a def keeps its promise wherever no repr is running -/
structure FnG (P : Program) (w : World) (K : Fg) (mg : Str → Option Value) (base : Heap) (k : Nat) (f : Addr) (fd : FuncData) (ps : List Str) (sp : Sp) : Prop where
  len : ∀ vs H Q E, sp vs H Q E → vs.length = ps.length
  run : ∀ (A : Around) (outer : List Env) (s : Shared) (H : Hp) (args : Args) (us : List Value) (vs : List V) (Q : VK) (E : XK), Room k A → A.guards = some [] → Env0 P w K mg base A outer s H → BindsTo s fd args (ps.zip us) → Vals vs us →
    sp vs H Q E → codeAny (model P w) A (.call (.ref f) args) (CR CX0 outer P w H s Q E) s

section
variable {X : Cx} {k : Nat} {f : Addr} {fd : FuncData} {ps : List Str} {sp : Sp} {x : Str} {p pos : Pos} {e : Expr} {es : List Expr} {t : TA}
theorem runG {pins : List (Addr × Obj)} {σ : L2.St} {H : Hp} {s : Shared} {Q : VK} {us : List Value} {vs : List V} (F : FnG X.prog X.w X.K X.mg X.base k f fd ps sp) (hr : Room k X.A) (gd : X.A.guards = some []) (hb : Binds X.K fd ps [])
    (I : L2.Inv X pins σ H s) (r : Vals vs us) (h : sp vs H Q E0) : wpAny (model X.prog X.w) X.A (call (.ref f) us) (EP X pins σ Q) X.xe s := by
  have hl : us.length = ps.length := r.length.symm.trans (F.len _ _ _ _ h)
  have bb := hb s us I.kIn (by rw [List.append_nil]; exact hl)
  rw [List.append_nil] at bb
  refine wpAny_call (codeAny_mono (F.run X.A X.stack s H ⟨us, []⟩ us vs Q E0 hr gd I.env0 bb r h) fun rr s' hq => ?_)
  cases rr with
  | error er => exact False.elim hq
  | ok fl =>
    cases fl with
    | ret u => exact I.after hq
    | next => exact False.elim hq
    | brk => exact False.elim hq
    | cont => exact False.elim hq
theorem pe_callG (F : FnG X.prog X.w X.K X.mg X.base k f fd ps sp) (hr : Room k X.A) (gd : X.A.guards = some []) (hg : Gl X x) (hm : X.mg x = some (.ref f)) (hk : PySem.W.keepIn X.K (.ref f) = true) (hb : Binds X.K fd ps [])
    (ha : PA X (e :: es) t) (hdb : (x == ("__debug__" : Str)) = false := by decide) (he : starEach (e :: es) X.env = (false, eval e X.env) :: starEach es X.env := by rfl) (hpl : (backTo pos (starEach es X.env)).any (·.1) = false := by rfl) :
    PE X (.Call (.Name x p) (e :: es) [] pos) (tCall sp [] E0 t) := by
  constructor
  intro pins s σ H Q I h
  refine wpAny_Call_Name_kw (ld_glob I hg hm ?_ hdb)
  refine PySem.W.callWith_K (h₀ := X.base) I.ok.mod.kin hk (thn (ha.run pos pins s σ H _ I h) fun us s1 q0 => ?_) he hpl
  obtain ⟨vs, H1, I1, r, q⟩ := q0
  rw [List.append_nil] at q
  exact ⟨I1.kIn, runG F hr gd hb I1 r q⟩
end

theorem guards_deeper {A : Around} (env : Env) (h : A.guards = some []) : (A.deeper env).guards = some [] := by
  first | exact h | (simp [Around.deeper, h]) 

/-- a def of the text by its body -/
theorem fnG_of {P : Program} {w : World} {K : Fg} {mg : Str → Option Value} {base : Heap} {x qual : Str} {st : Stmt} {f : Addr} {fd : FuncData} {N ps : List Str} {k : Nat} {sp : Sp} (Fn : Fun K x qual st f fd) (S : FnScope N ps (defScope st))
    (len : ∀ vs H Q E, sp vs H Q E → vs.length = ps.length)
    (hbody : ∀ (cdv : Value) (A : Around) (outer : List Env) (s : Shared) (H : Hp) (vs : List V) (Q : VK) (E : XK), Room k (A.deeper (envOfC qual (defScope st) s.heap.objs.size f cdv)) → (A.deeper (envOfC qual (defScope st) s.heap.objs.size f cdv)).guards = some [] → sp vs H Q E →
      ∃ t, PSs (cxOf CX0 P w K mg base N qual (defScope st) f cdv A outer s H E).nox (defBody st) t ∧ t { nx := fun _ H' => Q .non H', rt := Q } (L2.start N vs) H) : FnG P w K mg base (k + 1) f fd ps sp := by
  refine ⟨len, fun A outer s H args us vs Q E hr gd e0 hb r hsp => ?_⟩
  -- the promise, asked only where no repr is running
  let sp' : Sp := fun vs' H' Q' E' => sp vs' H' Q' E'
  obtain ⟨oc, od, kV, doc, pm, an, cdv, ct, osl, rfl, lk, hcd⟩ := Fn.ex
  have hl := len _ _ _ _ hsp
  have KX : K.In s.heap := e0.mod.kin.keeps fun b o e => (e0.bs b o e).1
  have lim : s.heap.NoLimit := e0.mod.nolimit.keeps fun b o e => (e0.bs b o e).1
  have hkind : ∀ y ∈ ps.zip us, (defScope st).names.lookup y.1 = some .local ∨ ((defScope st).names.lookup y.1 = some .cell ∧ ((cellsFrom (s.heap.objs.size + 1) (defScope st).names []).lookup y.1).isSome = true) := by
    rintro ⟨n, v⟩ hy
    rcases S.par n (List.of_mem_zip hy).1 with q | q
    · exact .inl q
    · exact .inr ⟨q, PySem.W.cellsFrom_some _ _ _ (.inl q)⟩
  refine codeAny_call_function hr.depth (KX _ _ lk) rfl S.co S.gen rfl (PySem.W.codeRec_of KX hcd) (hb _ _ _ _ ?_)
  refine wpAny_newFunctionEnv_cells S.kind hkind fun env he s1 y => ?_
  subst he
  refine ⟨lim.keeps y.toInCall.keep, codeAny_func ?_⟩
  obtain ⟨t, ht, hq⟩ := hbody cdv A outer s H vs Q E (hr.deeper _) (guards_deeper _ gd) hsp
  have I := inv_start (CX := CX0) (E := E) (qual := qual) (f := f) (cd := cdv) S hr.hd e0 hl r y
  refine wpAny_mono ((ht.nox).run [] s1 (L2.start N vs) H _ I hq) (fun fl s' hs => ?_) fun er s' hs => hs
  cases fl with
  | ret u =>
    obtain ⟨v, σ', H', J, rv, q⟩ := hs
    exact ⟨v, H', J.os, J.bare, J.base, J.hok, rv, q⟩
  | next =>
    obtain ⟨σ', H', J, q⟩ := hs
    exact ⟨V.non, H', J.os, J.bare, J.base, J.hok, rfl, q⟩
  | brk =>
    obtain ⟨_, _, _, q⟩ := hs
    exact False.elim q
  | cont =>
    obtain ⟨_, _, _, q⟩ := hs
    exact False.elim q

/-! ### promises by mirrors -/
abbrev MF := List D → S → Option (D × S)
/-- called with these data it gives what the mirror gives; n parameters -/
def spD (K : Fg) (n : Nat) (m : MF) : Sp := fun vs H Q _ => vs.length = n ∧ ∃ (dk : Dk) (F : Fz) (ds : List D) (st : S) (d : D) (st' : S), Wd K dk F H st ∧ Rps K dk F vs ds ∧ m ds st = some (d, st') ∧
  ∀ v F' H', Ext dk F H F' H' → Wd K dk F' H' st' → Rp K dk F' v d → Q v H'
def callM (m : MF) (a : MA) : ME := fun env st => (a env st).bind fun p => m p.1 p.2
section
variable {K : Fg}
theorem im_call {n : Nat} {m : MF} {ta : TA} {a : MA} {E : XK} (ha : ImA K ta a) (hn : ∀ env st p, a env st = some p → p.1.length = n) : Im K (tCall (spD K n m) [] E ta) (callM m a) := fun dk H0 F0 F σ H env st d st' g e Q q => by
  obtain ⟨⟨ds, s1⟩, h1, e⟩ := bnd e
  refine ha dk H0 F0 F σ H env st ds s1 g h1 _ fun vs F1 H1 x1 g1 r1 => ?_
  rw [List.append_nil]
  exact ⟨r1.length.trans (hn _ _ _ h1), dk, F1, ds, s1, d, st', g1.wd, r1, e, fun v F' H' x w r => q v F' H' (x1.trans x) (g1.step x w) r⟩
theorem an_nil : ∀ env st p, aNil env st = some p → p.1.length = 0 := fun env st p h => by cases h; rfl
theorem an_cons {f : ME} {r : MA} {n : Nat} (h : ∀ env st p, r env st = some p → p.1.length = n) : ∀ env st p, aCons f r env st = some p → p.1.length = n + 1 := fun env st p e => by
  obtain ⟨x, h1, e⟩ := bnd e
  obtain ⟨y, h2, e⟩ := mpd e
  cases e
  simp [h _ _ _ h2]
/-- a def's mirror, by its body's -/
def runM (N : Nat) (b : MS) : MF := fun ds st => (b (ds.map Sl.val ++ List.replicate (N - ds.length) Sl.un) st).bind fun p => match p.1 with
  | .rt d => some (d, p.2)
  | .nx _ => some (.non, p.2)
  | _ => none
theorem Rps.slots {dk : Dk} {F : Fz} : ∀ {vs : List V} {ds : List D} {i : Nat} {s : Sl}, Rps K dk F vs ds → (ds.map Sl.val)[i]? = some s → ∃ v d, vs[i]? = some v ∧ s = .val d ∧ Rp K dk F v d := fun {vs ds i s} r e => by
  rw [List.getElem?_map] at e
  obtain ⟨d, h1, h2⟩ := mpd e
  obtain ⟨v, h3, h4⟩ := r.get h1
  exact ⟨v, d, h3, h2.symm, h4⟩
theorem good_start {dk : Dk} {F : Fz} {H : Hp} {N : List Str} {vs : List V} {ds : List D} {st : S} (w : Wd K dk F H st) (r : Rps K dk F vs ds) (hl : vs.length ≤ N.length) : Good K dk H F F (L2.start N vs) H (ds.map Sl.val ++ List.replicate (N.length - ds.length) Sl.un) st := by
  have hlen := r.length
  refine ⟨w, Ext.refl F H, ?_, fun i s e => ?_, fun i j es fs p hne e1 e2 e3 => ?_⟩
  · unfold L2.start
    simp
    omega
  · by_cases hi : i < ds.length
    · rw [List.getElem?_append_left (by simpa using hi)] at e
      obtain ⟨v, d, h1, rfl, h2⟩ := r.slots e
      refine ⟨v, ?_, h2⟩
      unfold L2.start
      rw [List.getElem?_append_left (by rw [List.length_map, hlen]; exact hi), List.getElem?_map, h1]
      rfl
    · rw [List.getElem?_append_right (by simpa using hi), List.getElem?_replicate] at e
      split at e
      · cases e; trivial
      · cases e
  · exfalso
    by_cases hi : i < ds.length
    · rw [List.getElem?_append_left (by simpa using hi)] at e1
      obtain ⟨v, d, _, h, _⟩ := r.slots e1
      cases h
    · rw [List.getElem?_append_right (by simpa using hi), List.getElem?_replicate] at e1
      split at e1 <;> cases e1
/-- THE RULE: a def by its body's term t and the mirror b of t -/
theorem fnD {P : Program} {w : World} {mg : Str → Option Value} {base : Heap} {x qual : Str} {st : Stmt} {f : Addr} {fd : FuncData} {N ps : List Str} {k : Nat} {b : MS} (Fn : Fun K x qual st f fd) (S : FnScope N ps (defScope st)) (hN : ps.length ≤ N.length)
    (hbody : ∀ (cdv : Value) (A : Around) (outer : List Env) (s : Shared) (H : Hp) (E : XK), Room k (A.deeper (envOfC qual (defScope st) s.heap.objs.size f cdv)) → (A.deeper (envOfC qual (defScope st) s.heap.objs.size f cdv)).guards = some [] →
      ∃ t, PSs (cxOf CX0 P w K mg base N qual (defScope st) f cdv A outer s H E).nox (defBody st) t ∧ ImS K t b) : FnG P w K mg base (k + 1) f fd ps (spD K ps.length (runM N.length b)) := by
  refine fnG_of Fn S (fun vs H Q E h => h.1) fun cdv A outer s H vs Q E hr gd h => ?_
  obtain ⟨hlv, dk, F, ds, s0, d, s1, wd, r, e, q⟩ := h
  obtain ⟨t, h1, h2⟩ := hbody cdv A outer s H E hr gd
  refine ⟨t, h1, ?_⟩
  obtain ⟨⟨fl, s2⟩, e1, e⟩ := bnd e
  refine h2 dk H F F (L2.start N vs) H _ s0 fl s2 (good_start wd r (by rw [hlv]; exact hN)) e1 _ ?_
  cases fl with
  | rt d' => cases e; exact fun v F' H' x w r => q v F' H' x w r
  | nx en => cases e; exact fun F' σ' H' le g => q .non F' H' g.ext g.wd .non
  | bk en => cases e
  | ct en => cases e
end
end MD

set_option Elab.async false
set_option linter.all false
set_option maxRecDepth 100000
set_option maxHeartbeats 2000000
namespace MD
open PySem PySem.Spec PyProof.Rows L2

/-! ### the deck -/
structure DC where
  m1 : Int
  c1 : Int
  c2 : Int
  m2 : Int
def atOf (st : S) : Nat := ((st.n + 1) % (st.cells.length : Int)).toNat
def cellOf (st : S) : Int := if st.cells = [] then 0 else st.cells.getD (atOf st) 0
def drawV (c : DC) (many : Int) (st : S) : Int :=
  if cellOf st ≥ 10 ^ 18 then cellOf st % many else ((cellOf st % c.m1 + c.c1 * (st.n + 1) + c.c2) ^ 5 % c.m2) % many
def drawT (many : Int) (st : S) : S :=
  if cellOf st ≥ 10 ^ 18 then ⟨st.cells.set (atOf st) (cellOf st / many), st.n + 1, st.ob⟩ else ⟨st.cells, st.n + 1, st.ob⟩
def nMax : Int := 1000000000000
def drawM (c : DC) : MF
  | [.deck, .int many], st => if 0 < many ∧ many < 1073741824 ∧ 0 ≤ st.n ∧ st.n < nMax then some (.int (drawV c many st), drawT many st) else none
  | _, _ => none
def DC.ok (c : DC) : Prop := 0 < c.m1 ∧ c.m1 < 2 ^ 32 ∧ 0 < c.m2 ∧ c.m2 < 2 ^ 32 ∧ 0 ≤ c.c1 ∧ c.c1 < 2 ^ 16 ∧ 0 ≤ c.c2 ∧ c.c2 < 2 ^ 16

/-! readings used by the draw -/
section
variable {K : Fg}
def rInt1 : List V → Hp → VK → Prop := fun xs H Q => (∃ i, xs = [.int i] ∧ Q (.int i) H) ∨ ∃ k, xs = [.bl k] ∧ Q (.int (if k then 1 else 0)) H
def rLen1 (K : Fg) : List V → Hp → VK → Prop := fun xs H Q => ∃ x n, xs = [x] ∧ LenV K x H n ∧ Q (.int n) H
abbrev tInt (t : TE) : TE := tCB rInt1 (tCons t tNil)
abbrev tLen (K : Fg) (t : TE) : TE := tCB (rLen1 K) (tCons t tNil)
abbrev tIx (K : Fg) (a b : TE) : TE := tOp (rIx K) a b
abbrev tI (i : Int) : TE := tC (.int i)
abbrev tDk1 (K : Fg) : TE := tIx K (tVar 0) (tI 1)
abbrev tDk0 (K : Fg) : TE := tIx K (tVar 0) (tI 0)
def tDraw1 (K : Fg) : TS := tAsg (tOp (rI0 fun i j => .int (i + j)) (tDk1 K) (tI 1)) (gSub (tVar 0) (tI 1) rSetL)
def tDraw2 (K : Fg) : TS := tAsg (tTup (tCons (tI 0) (tCons (tUn (rU fun i => .int (-i)) (tI 1)) tNil))) (gTup K 2 (gCons (gName 2) (gCons (gName 3) gNil)))
def tDraw3 (K : Fg) : TS := tIfS (tTest (tOp (rI0 fun i j => .bl (decide (j < i))) (tLen K (tDk0 K)) (tI 0)))
  (tSeq (tAsg (tOp (rI (fun _ j => 0 < j) fun i j => .int (i % j)) (tInt (tDk1 K)) (tLen K (tDk0 K))) (gName 3)) (tAsg (tIx K (tDk0 K) (tVar 3)) (gName 2))) tNext
def tDraw4 (K : Fg) : TS := tIfS (tTest (tOp (rI0 fun i j => .bl (decide (j ≤ i))) (tVar 2) (tOp (rI CPow fun i j => .int (i ^ j.toNat)) (tI 10) (tI 18))))
  (tSeq (tAsg (tOp (rI CDiv fun i j => .int (i / j)) (tInt (tVar 2)) (tVar 1)) (gSub (tDk0 K) (tVar 3) rSetL)) (tRet (tOp (rI (fun _ j => 0 < j) fun i j => .int (i % j)) (tInt (tVar 2)) (tVar 1)))) tNext
def tDraw5 (K : Fg) (c : DC) : TS := tAsg (tOp (rI0 fun i j => .int (i + j)) (tOp (rI0 fun i j => .int (i + j)) (tOp (rI (fun _ j => 0 < j) fun i j => .int (i % j)) (tInt (tVar 2)) (tI c.m1))
  (tOp (rI CMul fun i j => .int (i * j)) (tI c.c1) (tDk1 K))) (tI c.c2)) (gName 4)
def tDraw6 (K : Fg) (c : DC) : TS := tRet (tOp (rI (fun _ j => 0 < j) fun i j => .int (i % j)) (tInt (tOp (rI (fun _ j => 0 < j) fun i j => .int (i % j)) (tInt (tOp (rI CPow fun i j => .int (i ^ j.toNat)) (tVar 4) (tI 5))) (tI c.m2))) (tVar 1))
def tDraw (K : Fg) (c : DC) : TS := tSeq (tDraw1 K) (tSeq (tDraw2 K) (tSeq (tDraw3 K) (tSeq (tDraw4 K) (tSeq (tDraw5 K c) (tDraw6 K c)))))

theorem at0 {α : Type} {x y : α} : L2.atI [x, y] 0 = some x := rfl
theorem at1 {α : Type} {x y : α} : L2.atI [x, y] 1 = some y := rfl
/-- deck[1], deck[0] -/
theorem rd1 {H : Hp} {a c : Addr} {n : Int} {σ : L2.St} {Q : VK} (hs : σ[0]? = some (some (.ref a))) (h : H a = some (.lst [.ref c, .int n])) (q : Q (.int n) H) : tDk1 K σ H Q :=
  ⟨_, hs, .inl ⟨a, _, 1, _, rfl, rfl, SqL.of h, at1, q⟩⟩
theorem rd0 {H : Hp} {a c : Addr} {n : Int} {σ : L2.St} {Q : VK} (hs : σ[0]? = some (some (.ref a))) (h : H a = some (.lst [.ref c, .int n])) (q : Q (.ref c) H) : tDk0 K σ H Q :=
  ⟨_, hs, .inl ⟨a, _, 0, _, rfl, rfl, SqL.of h, at0, q⟩⟩

theorem draw_ok {dk : Dk} {F : Fz} {H : Hp} {st : S} {c : DC} {many : Int} (hc : c.ok) (w : Wd K dk F H st) (h1 : 0 < many) (h2 : many < 1073741824) (h3 : 0 ≤ st.n) (h4 : st.n < nMax) {E : Ends}
    (q : ∀ F' H', Ext dk F H F' H' → Wd K dk F' H' (drawT many st) → E.rt (.int (drawV c many st)) H') : tDraw K c E [some (.ref dk.1), some (.int many), none, none, none] H := by
  obtain ⟨k1, k2, k3, k4, k5, k6, k7, k8⟩ := hc
  -- deck[1] = deck[1] + 1
  refine rd1 rfl w.d1 ⟨st.n, 1, rfl, rfl, _, rfl, dk.1, _, 1, 1, rfl, rfl, w.d1, rfl, ?_⟩
  have hH1 : upd H dk.1 (.lst ([V.ref dk.2, V.int st.n].set 1 (V.int (st.n + 1)))) = upd H dk.1 (.lst [.ref dk.2, .int (st.n + 1)]) := rfl
  rw [hH1]
  have a1 : ∀ (H' : Hp), H' = upd H dk.1 (.lst [.ref dk.2, .int (st.n + 1)]) → H' dk.1 = some (.lst [.ref dk.2, .int (st.n + 1)]) ∧ H' dk.2 = some (.lst (st.cells.map V.int)) := by
    rintro H' rfl
    exact ⟨upd_same, by rw [upd_ne w.ne.symm]; exact w.d2⟩
  generalize hHH : upd H dk.1 (.lst [.ref dk.2, .int (st.n + 1)]) = H1
  obtain ⟨b1, b2⟩ := a1 H1 hHH.symm
  -- cell, at = 0, -1
  refine ⟨1, rfl, by show 2 ≤ sizeLine; decide, fun p hp => ⟨p, _, rfl, SqT.of upd_same, rfl, _, _, rfl, _, _, rfl, rfl, ?_⟩⟩
  have p1 : p ≠ dk.1 := (ne_of_none b1 hp).symm
  have p2 : p ≠ dk.2 := (ne_of_none b2 hp).symm
  generalize hHp : upd H1 p (.tup [.int 0, .int (-1)]) = H2
  have c1 : H2 dk.1 = some (.lst [.ref dk.2, .int (st.n + 1)]) := by rw [← hHp, upd_ne p1.symm]; exact b1
  have c2 : H2 dk.2 = some (.lst (st.cells.map V.int)) := by rw [← hHp, upd_ne p2.symm]; exact b2
  have hp0 : H p = none := by
    rw [← hHH, upd_ne p1] at hp; exact hp
  have keep : ∀ a o, H a = some o → a ≠ dk.1 → a ≠ dk.2 → H2 a = some o := fun a o e n1 n2 => by
    rw [← hHp, upd_ne (ne_of_none e hp0), ← hHH, upd_ne n1]; exact e
  have keepF : Sb F H2 := fun a o e => by
    have m1 : a ≠ dk.1 := fun z => by rw [z, w.f1.1] at e; cases e
    have m2 : a ≠ dk.2 := fun z => by rw [z, w.f2.1] at e; cases e
    rcases w.sub a o e with q | ⟨od, kvs, q1, q2⟩
    · exact .inl (keep a o q m1 m2)
    · exact .inr ⟨od, kvs, q1, keep a _ q2 m1 m2⟩
  have keepO : ∀ (H3 : Hp), (∀ a o, H2 a = some o → a ≠ dk.2 → H3 a = some o) → ∀ (n : Nat) (a : Addr) (o : Ob), F.mu[n]? = some a → st.ob[n]? = some o → F a = none ∧ ObAt K dk F H3 a o := fun H3 hk n a o e1 e2 => by
    obtain ⟨q1, q2⟩ := w.ob n a o e1 e2
    have m1 : a ≠ dk.1 := fun z => w.f1.2 (z ▸ List.mem_of_getElem? e1)
    have m2 : a ≠ dk.2 := fun z => w.f2.2 (z ▸ List.mem_of_getElem? e1)
    exact ⟨q1, q2.keep (fun o e => hk a o (keep a o e m1 m2) m2) (Le.refl F)⟩
  have keepK : ∀ a o, H2 a = some o → Fro o → H a = some o := fun a o e f => by
    rw [← hHp, ← hHH] at e
    exact updK (by rintro ⟨_, _, z⟩; cases z) a o (updK (by rintro ⟨_, _, z⟩; cases z) a o e f) f
  have keepM : ∀ a, H a ≠ none → H2 a ≠ none := fun a e z => by
    by_cases n1 : a = dk.1
    · rw [n1, c1] at z; cases z
    · by_cases n2 : a = dk.2
      · rw [n2, c2] at z; cases z
      · cases q : H a with
        | none => exact e q
        | some o => rw [keep a o q n1 n2] at z; cases z
  have ext2 : Ext dk F H F H2 := ⟨fun a o e n1 n2 _ => keep a o e n1 n2, Le.refl F, fun _ h _ => h, keepM, fun _ h => .inl h, keepK⟩
  have wd2 : Wd K dk F H2 ⟨st.cells, st.n + 1, st.ob⟩ := ⟨keepF, c1, c2, w.f1, w.f2, w.ne, w.ml, w.nd, keepO H2 fun _ _ e _ => e⟩
  -- the cell
  have mid : ∀ (E' : Ends), (∀ v3, (st.cells ≠ [] → v3 = ((atOf st : Nat) : Int) ∧ atOf st < st.cells.length) → E'.nx [some (.ref dk.1), some (.int many), some (.int (cellOf st)), some (.int v3), none] H2) →
      tDraw3 K E' [some (.ref dk.1), some (.int many), some (.int 0), some (.int (-1)), none] H2 := by
    intro E' hE
    refine rd0 rfl c1 ⟨_, _, rfl, .inl ⟨_, SqL.of c2, rfl⟩, _, 0, rfl, rfl, _, rfl, ?_⟩
    by_cases hl : st.cells = []
    · dsimp only
      rw [if_neg (by simp [hl])]
      have e0 : cellOf st = 0 := by unfold cellOf; rw [if_pos hl]
      have := hE (-1) fun z => absurd hl z
      rw [e0] at this
      exact this
    · have hlen : 0 < st.cells.length := List.length_pos_iff.mpr hl
      dsimp only
      rw [if_pos (by simp; exact hlen)]
      refine rd1 rfl c1 (.inl ⟨_, rfl, rd0 rfl c1 ⟨_, _, rfl, .inl ⟨_, SqL.of c2, rfl⟩, _, _, rfl, rfl, by simp; exact hlen, ?_⟩⟩)
      have hm0 : 0 ≤ (st.n + 1) % (st.cells.length : Int) := Int.emod_nonneg _ (by omega)
      have hm1 : (st.n + 1) % (st.cells.length : Int) < st.cells.length := Int.emod_lt_of_pos _ (by omega)
      have hat : ((atOf st : Nat) : Int) = (st.n + 1) % (st.cells.length : Int) := by unfold atOf; omega
      have hal : atOf st < st.cells.length := by omega
      show tAsg (tIx K (tDk0 K) (tVar 3)) (gName 2) E' [some (.ref dk.1), some (.int many), some (.int 0), some (.int ((st.n + 1) % ((st.cells.map V.int).length : Int))), none] H2
      rw [List.length_map, ← hat]
      have hg : L2.atI (st.cells.map V.int) ((atOf st : Nat) : Int) = some (.int (st.cells.getD (atOf st) 0)) := by
        refine atI_nat ?_
        rw [List.getElem?_map, List.getElem?_eq_getElem hal, List.getD_eq_getElem?_getD, List.getElem?_eq_getElem hal]
        rfl
      refine rd0 rfl c1 ⟨_, rfl, .inl ⟨_, _, _, _, rfl, rfl, SqL.of c2, hg, ?_⟩⟩
      have e0 : cellOf st = st.cells.getD (atOf st) 0 := by unfold cellOf; rw [if_neg hl]
      have := hE ((atOf st : Nat) : Int) fun _ => ⟨rfl, hal⟩
      rw [e0] at this
      exact this
  refine mid _ fun v3 hv3 => ?_
  -- a great cell
  refine ⟨_, rfl, 10, 18, rfl, rfl, ⟨by decide, by decide, by decide⟩, _, _, rfl, rfl, _, rfl, ?_⟩
  by_cases hbig : cellOf st ≥ 10 ^ 18
  · have hne : st.cells ≠ [] := fun z => by
      have e0 : cellOf st = 0 := by unfold cellOf; rw [if_pos z]
      rw [e0] at hbig
      revert hbig; decide
    obtain ⟨e3, hal⟩ := hv3 hne
    dsimp only
    rw [if_pos (by simpa using hbig)]
    refine ⟨_, rfl, .inl ⟨_, rfl, _, rfl, _, _, rfl, rfl, ⟨h1, h2⟩, ?_⟩⟩
    refine rd0 rfl c1 ⟨_, rfl, dk.2, _, v3, atOf st, rfl, rfl, c2, ?_, ?_⟩
    · rw [e3]
      unfold ixN
      rw [if_pos (by omega), if_pos (by rw [List.length_map]; omega)]
      simp
    · refine ⟨_, rfl, .inl ⟨_, rfl, _, rfl, _, _, rfl, rfl, h1, ?_⟩⟩
      have ev : drawV c many st = cellOf st % many := by unfold drawV; rw [if_pos hbig]
      have et : drawT many st = ⟨st.cells.set (atOf st) (cellOf st / many), st.n + 1, st.ob⟩ := by unfold drawT; rw [if_pos hbig]
      have es : (st.cells.map V.int).set (atOf st) (.int (cellOf st / many)) = (st.cells.set (atOf st) (cellOf st / many)).map V.int := by rw [List.map_set]
      rw [es]
      have fin := q F (upd H2 dk.2 (.lst ((st.cells.set (atOf st) (cellOf st / many)).map V.int))) ⟨fun a o e n1 n2 _ => by rw [upd_ne n2]; exact keep a o e n1 n2, Le.refl F, fun _ h _ => h, fun a e z => by
        by_cases n2 : a = dk.2
        · rw [n2, upd_same] at z; cases z
        · rw [upd_ne n2] at z; exact keepM a e z, fun _ h => .inl h, fun a o e f => keepK a o (updK (by rintro ⟨_, _, z⟩; cases z) a o e f) f⟩ (by
          rw [et]
          exact ⟨fun a o e => by rw [upd_ne (fun z => by rw [z, w.f2.1] at e; cases e)]; exact keepF a o e, by rw [upd_ne w.ne]; exact c1, upd_same, w.f1, w.f2, w.ne, w.ml, w.nd, keepO _ fun a o e m => by rw [upd_ne m]; exact e⟩)
      rw [ev] at fin
      exact fin
  · dsimp only
    rw [if_neg (by simpa using hbig)]
    have hmix : 0 ≤ cellOf st % c.m1 ∧ cellOf st % c.m1 < c.m1 := ⟨Int.emod_nonneg _ (by omega), Int.emod_lt_of_pos _ k1⟩
    refine ⟨_, rfl, .inl ⟨_, rfl, _, _, rfl, rfl, k1, ?_⟩⟩
    refine rd1 rfl c1 ⟨_, _, rfl, rfl, .inl ⟨by omega, by omega⟩, _, _, rfl, rfl, _, _, rfl, rfl, ?_⟩
    have hb : c.c1 * (st.n + 1) ≤ 65536 * 1000000000001 := by
      unfold nMax at h4
      have x1 : c.c1 * (st.n + 1) ≤ 65536 * (st.n + 1) := Int.mul_le_mul_of_nonneg_right (by omega) (by omega)
      omega
    have hb0 : 0 ≤ c.c1 * (st.n + 1) := Int.mul_nonneg k5 (by omega)
    refine ⟨_, rfl, _, _, rfl, rfl, ⟨by decide, by decide, ?_⟩, .inl ⟨_, rfl, _, _, rfl, rfl, k3, .inl ⟨_, rfl, _, rfl, _, _, rfl, rfl, h1, ?_⟩⟩⟩
    · omega
    · have ev : drawV c many st = ((cellOf st % c.m1 + c.c1 * (st.n + 1) + c.c2) ^ 5 % c.m2) % many := by unfold drawV; rw [if_neg hbig]
      have et : drawT many st = ⟨st.cells, st.n + 1, st.ob⟩ := by unfold drawT; rw [if_neg hbig]
      have fin := q F H2 ext2 (by rw [et]; exact wd2)
      rw [ev] at fin
      exact fin
end
end MD

set_option Elab.async false
set_option linter.all false
set_option maxRecDepth 100000
set_option maxHeartbeats 2000000
namespace MD
open PySem PySem.Spec PyProof.Rows L2

section
variable {K : Fg} {P : Program} {w : World} {mg : Str → Option Value} {base : Heap}
theorem fn_draw {x qual : Str} {st : Stmt} {f : Addr} {fd : FuncData} {N ps : List Str} {k : Nat} {c : DC} (hc : c.ok) (Fn : Fun K x qual st f fd) (S : FnScope N ps (defScope st)) (hN : N.length = 5) (hp : ps.length = 2)
    (hbody : ∀ (cdv : Value) (A : Around) (outer : List Env) (s : Shared) (H : Hp) (E : XK), PSs (cxOf CX0 P w K mg base N qual (defScope st) f cdv A outer s H E).nox (defBody st) (tDraw K c)) : FnG P w K mg base (k + 1) f fd ps (spD K 2 (drawM c)) := by
  refine fnG_of Fn S (fun vs H Q E h => by rw [hp]; exact h.1) fun cdv A outer s H vs Q E hr gd h => ⟨_, hbody cdv A outer s H E, ?_⟩
  obtain ⟨hlv, dk, F, ds, s0, d, s1, wd, r, e, q⟩ := h
  unfold drawM at e
  split at e
  · split at e
    · rename_i hcnd
      cases e
      cases r with
      | cons a b => cases b with
        | cons b c' =>
          cases c'
          cases a
          cases b
          have es : ∀ i : Int, L2.start N [V.ref dk.1, V.int i] = [some (.ref dk.1), some (.int i), none, none, none] := fun i => by
            unfold L2.start
            rw [hN]
            rfl
          rw [es _]
          exact draw_ok hc wd hcnd.1 hcnd.2.1 hcnd.2.2.1 hcnd.2.2.2 fun F' H' x w => q _ F' H' x w (.int _)
    · cases e
  · cases e

/-! ### the deck is made -/
def absI (i : Int) : Int := if i < 0 then -i else i
def spDeck (K : Fg) : Sp := fun vs H Q _ => ∃ (a : Addr) (ns : List Int), vs = [.ref a] ∧ SqL K H a (ns.map V.int) ∧ ns.length ≤ 63 ∧
  ∀ (dk : Dk) (H' : Hp), Lh H H' → Wd K dk ⟨fun _ => none, []⟩ H' ⟨ns.map absI, 0, []⟩ → Q (.ref dk.1) H'
def rAbs1 : List V → Hp → VK → Prop := fun xs H Q => ∃ i, xs = [.int i] ∧ Q (.int (if i < 0 then -i else i)) H
def tDeck (K : Fg) : TS := tRet (tLst (tCons (tLc (iList K (tSl (rSlL K) (tVar 0) tNoPart (tPart (tI 63)))) (gName 1) tYes (tCB rAbs1 (tCons (tVar 1) tNil)) [1]) (tCons (tI 0) tNil)))
theorem deck_ok {H : Hp} {a : Addr} {ns : List Int} {E : Ends} (hs : SqL K H a (ns.map V.int)) (hl : ns.length ≤ 63) (q : ∀ (dk : Dk) (H' : Hp), Lh H H' → Wd K dk ⟨fun _ => none, []⟩ H' ⟨ns.map absI, 0, []⟩ → E.rt (.ref dk.1) H') :
    tDeck K E [some (.ref a), none] H := by
  refine ⟨_, rfl, _, rfl, a, _, rfl, hs, fun p hp => ?_⟩
  have ec : cutV (ns.map V.int) none (some 63) = ns.map V.int := by
    unfold cutV
    have e1 : HT.sIx (ns.map V.int).length 0 none = 0 := rfl
    have e2 : HT.sIx (ns.map V.int).length (ns.map V.int).length (some 63) = ns.length := by
      rw [List.length_map]
      have := HT.sIx_nat ns.length ns.length 63
      rw [show ((63 : Nat) : Int) = 63 from rfl] at this
      rw [this]; omega
    rw [e1, e2, List.drop_zero, Nat.sub_zero]
    exact List.take_of_length_le (by rw [List.length_map]; exact Nat.le_refl _)
  rw [ec]
  refine ⟨p, rfl, ⟨_, SqL.of upd_same⟩, fun c hc => ?_⟩
  have ncp : c ≠ p := fun z => by rw [z, upd_same] at hc; cases hc
  have hcH : H c = none := by rw [upd_ne ncp] at hc; exact hc
  refine lc_list (xs := ns.map V.int) (fun i H' => Lh H H' ∧ H' p = some (.lst (ns.map V.int)) ∧ H' c = some (.lst (((ns.take i).map absI).map V.int))) ⟨(Lh.new hp).trans (Lh.new hc), by rw [upd_ne ncp.symm, upd_same], upd_same⟩ (fun i H' _ h => SqL.of h.2.1) (fun i v H' hv h => ?_) fun H' h => ?_
  · obtain ⟨h1, h2, h3⟩ := h
    rw [List.getElem?_map] at hv
    obtain ⟨n, hn, rfl⟩ := mpd hv
    have hil : i < ns.length := by
      by_cases hi : i < ns.length
      · exact hi
      · rw [List.getElem?_eq_none (by omega)] at hn; cases hn
    refine ⟨rfl, ?_⟩
    show tCB rAbs1 (tCons (tVar 1) tNil) _ H' _
    refine ⟨_, rfl, n, rfl, _, h3, ?_, fun b o e => ?_, ?_, ?_⟩
    · rw [List.length_map, List.length_map, List.length_take]
      exact Nat.lt_of_le_of_lt (Nat.min_le_right _ _) (small1000 (by omega))
    · rw [upd_ne (ne_of_none e hcH)]; exact h1 b o e
    · rw [upd_ne ncp.symm]; exact h2
    · rw [upd_same, List.take_add_one, hn]
      simp [absI]
  · obtain ⟨h1, h2, h3⟩ := h
    rw [List.length_map, List.take_length] at h3
    refine ⟨by show 2 ≤ sizeLine; decide, fun d hd => ?_⟩
    have ndc : d ≠ c := fun z => by rw [z, h3] at hd; cases hd
    have fin := q (d, c) (upd H' d (.lst [.ref c, .int 0])) (h1.trans (Lh.new hd)) ⟨fun _ _ z => (nomatch z), upd_same, (upd_ne (a := d) ndc.symm).trans h3, ⟨rfl, fun z => nomatch z⟩, ⟨rfl, fun z => nomatch z⟩, ndc, rfl, List.nodup_nil, fun n a o z => by simp at z⟩
    exact fin
theorem fn_deck {x qual : Str} {st : Stmt} {f : Addr} {fd : FuncData} {N ps : List Str} {k : Nat} (Fn : Fun K x qual st f fd) (S : FnScope N ps (defScope st)) (hN : N.length = 2) (hp : ps.length = 1)
    (hbody : ∀ (cdv : Value) (A : Around) (outer : List Env) (s : Shared) (H : Hp) (E : XK), PSs (cxOf CX0 P w K mg base N qual (defScope st) f cdv A outer s H E).nox (defBody st) (tDeck K)) : FnG P w K mg base (k + 1) f fd ps (spDeck K) := by
  refine fnG_of Fn S (fun vs H Q E h => ?_) fun cdv A outer s H vs Q E hr gd h => ⟨_, hbody cdv A outer s H E, ?_⟩
  · obtain ⟨a, ns, rfl, _⟩ := h
    rw [hp]; rfl
  · obtain ⟨a, ns, rfl, hs, hl, q⟩ := h
    have es : L2.start N [V.ref a] = [some (.ref a), none] := by
      unfold L2.start
      rw [hN]
      rfl
    rw [es]
    exact deck_ok hs hl fun dk H' le wd => q dk H' le wd

/-! ### the law -/
def spLaw (K : Fg) : Sp := fun vs H Q _ => ∃ (a : Addr) (ns : List Int), vs = [.ref a] ∧ SqL K H a (ns.map V.int) ∧ ns.length ≤ 63 ∧ ∀ H', Q (.bl true) H'
/-- the slots behind the law's first statement: the script, the deck, all else -/
def env0 (n : Nat) : Sg := .un :: .val .deck :: List.replicate (n - 2) .un
theorem fn_law {x qual : Str} {st : Stmt} {f : Addr} {fd : FuncData} {N ps : List Str} {k : Nat} {b : MS} (Fn : Fun K x qual st f fd) (S : FnScope N ps (defScope st)) (hN : 2 ≤ N.length) (hp : ps.length = 1)
    (hb : ∀ ns : List Int, ns.length ≤ 63 → ∃ s1, b (env0 N.length) ⟨ns.map absI, 0, []⟩ = some (.rt (.bl true), s1))
    (hbody : ∀ (cdv : Value) (A : Around) (outer : List Env) (s : Shared) (H : Hp) (E : XK), Room k (A.deeper (envOfC qual (defScope st) s.heap.objs.size f cdv)) → (A.deeper (envOfC qual (defScope st) s.heap.objs.size f cdv)).guards = some [] →
      ∃ t, PSs (cxOf CX0 P w K mg base N qual (defScope st) f cdv A outer s H E).nox (defBody st) (tSeq (tAsg (tCall (spDeck K) [] E0 (tCons (tVar 0) tNil)) (gName 1)) t) ∧ ImS K t b) : FnG P w K mg base (k + 1) f fd ps (spLaw K) := by
  refine fnG_of Fn S (fun vs H Q E h => ?_) fun cdv A outer s H vs Q E hr gd h => ?_
  · obtain ⟨a, ns, rfl, _⟩ := h
    rw [hp]; rfl
  · obtain ⟨a, ns, rfl, hs, hl, q⟩ := h
    obtain ⟨t, h1, h2⟩ := hbody cdv A outer s H E hr gd
    refine ⟨_, h1, ?_⟩
    obtain ⟨m, hm⟩ : ∃ m, N.length = m + 2 := ⟨N.length - 2, by omega⟩
    have es : L2.start N [V.ref a] = some (.ref a) :: none :: List.replicate m none := by
      unfold L2.start
      rw [hm]
      rfl
    rw [es]
    refine ⟨_, rfl, a, ns, rfl, hs, hl, fun dk H' le wd => ?_⟩
    obtain ⟨s1, hr1⟩ := hb ns hl
    have g : Good K dk H' ⟨fun _ => none, []⟩ ⟨fun _ => none, []⟩ (some (.ref a) :: some (.ref dk.1) :: List.replicate m none) H' (env0 N.length) ⟨ns.map absI, 0, []⟩ := by
      refine ⟨wd, Ext.refl _ _, by unfold env0; rw [hm]; simp, fun i s e => ?_, fun i j ds es p hne e1 e2 e3 => ?_⟩
      · unfold env0 at e
        match i with
        | 0 => cases e; trivial
        | 1 => cases e; exact ⟨_, rfl, .deck⟩
        | i + 2 =>
          have e' : (List.replicate (N.length - 2) Sl.un)[i]? = some s := e
          rw [List.getElem?_replicate] at e'
          split at e'
          · cases e'; trivial
          · cases e'
      · exfalso
        unfold env0 at e1
        match i with
        | 0 => cases e1
        | 1 => cases e1
        | i + 2 =>
          have e' : (List.replicate (N.length - 2) Sl.un)[i]? = some (.own ds) := e1
          rw [List.getElem?_replicate] at e'
          split at e' <;> cases e'
    refine h2 dk H' _ _ _ H' _ _ _ s1 g hr1 _ ?_
    intro v F' H2 _ _ r
    cases r
    exact q H2
end
end MD

set_option Elab.async false
set_option linter.all false
set_option maxRecDepth 100000
set_option maxHeartbeats 2000000
namespace MD
open PySem PySem.Spec PyProof.Rows L2

/-- the law's own call, from a heap in which nothing is tracked but the script -/
theorem law_core {P : Program} {w : World} {K : Fg} {mg mb : Str → Option Value} {k : Nat} {fa a : Addr} {fd : FuncData} {x : Str} {sp : Sp} {s1 : Shared} {vs : List Value} (KX : K.In s1.heap) (hns : s1.heap.Ns mainGlobals mg) (hb : s1.heap.Ns builtinsNs mb)
    (hbb : ∀ y : Str, y ≠ "__name__" → mb y = bootBuiltins y) (hlim : s1.heap.NoLimit) (hg : s1.gens = #[]) (ha : s1.heap.get? a = some { cls := .type "list", data := .seq vs.toArray }) (hr : Room k callerA)
    (Fn : ∀ base : Heap, K.In base → base.Ns mainGlobals mg → FnG P w K mg base k fa fd [x] sp) (hbind : ∀ (s : Shared) (u : Value), BindsTo s fd ⟨[u], []⟩ [(x, u)])
    (H : Hp) (hO : Only H) (hok : HOk P w H s1.heap) (hA : ∀ b, H b ≠ none → b = a) (hK : H a ≠ none → K.lookup a = none) (hsp : sp [.ref a] H (fun v _ => v = .bl true) E0) :
    codeAny (model P w) callerA (.call (.ref fa) ⟨[.ref a], []⟩) (fun r s' => r = .ok (.ret (.bool true)) ∧ OldK s1.heap s'.heap ∧ s'.os = s1.os ∧ AllBare s'.gens) s1 := by
  have only : ∀ {b : Addr} {o : Obj} {es : Array DictEntry} {ep : Nat}, s1.heap.get? b = some o → o.data = .dict es ep → H b = none := by
    intro b o es ep e d
    by_cases hz : H b = none
    · exact hz
    · have hba := hA b hz
      rw [hba, ha] at e
      have e' := (Option.some.inj e).symm
      rw [e'] at d
      exact absurd d (fun z => Data.noConfusion z)
  have low : ∀ {b : Addr} {m : Str → Option Value}, s1.heap.Ns b m → (hidT s1.heap H).Ns b m := by
    intro b m hm
    obtain ⟨o, es, ep, e, d, r⟩ := hm
    exact ⟨o, es, ep, hidT_get e (only e d), d, r⟩
  have kin : K.In (hidT s1.heap H) := by
    intro b o e
    refine hidT_get (KX b o e) ?_
    by_cases hz : H b = none
    · exact hz
    · have hba := hA b hz
      rw [hba] at hz e
      rw [hK hz] at e
      cases e
  obtain ⟨mc, l1, l2⟩ := hlim
  have md : Mod K mg (hidT s1.heap H) := ⟨kin, low hns, ⟨mb, low hb, hbb⟩, ⟨mc, low l1, l2⟩⟩
  have en : Env0 P w K mg (hidT s1.heap H) callerA [] s1 H := by
    refine ⟨rfl, md, fun b o e => of_hidT e, Nat.le_of_eq (hidT_size _ _), trivial, fun b z => ?_, hok, .of_eq hg⟩
    exact absurd (show b ∈ ([] : List Addr) from z) (by simp)
  refine codeAny_mono ((Fn _ kin (low hns)).run callerA [] s1 H ⟨[.ref a], []⟩ [.ref a] [.ref a] _ _ hr rfl en (hbind s1 (.ref a)) (.cons rfl .nil) hsp) fun r s' h => ?_
  rcases r with er | fl
  · exact False.elim h
  · cases fl with
    | ret u =>
      obtain ⟨v, H', os, bare, un, hok', r', q⟩ := h
      replace q : v = .bl true := q
      rw [q] at r'
      have hu : u = Value.bool true := r'
      rw [hu]
      refine ⟨rfl, OldK.of_keep fun b o e => ?_, os, bare⟩
      by_cases hz : H b = none
      · exact un.keep b o e hz (fun z => absurd (show b ∈ ([] : List Addr) from z) (by simp)) (by simp)
      · rcases hO b with z | ⟨ob, xs, z⟩
        · exact absurd z hz
        · have k1 := (hok b _ z).1
          have k2 := (hok' b _ (un.frzs b ob _ z)).1
          rw [e] at k1
          rw [k2, k1]
    | next => exact False.elim h
    | brk => exact False.elim h
    | cont => exact False.elim h
theorem law_callG {P : Program} {w : World} {K : Fg} {mg mb : Str → Option Value} {k : Nat} {fa a : Addr} {fd : FuncData} {x : Str} {sp : Sp} {s1 : Shared} {vs : List Value} {ns : List Int} (KX : K.In s1.heap) (hns : s1.heap.Ns mainGlobals mg) (hb : s1.heap.Ns builtinsNs mb)
    (hbb : ∀ y : Str, y ≠ "__name__" → mb y = bootBuiltins y) (hlim : s1.heap.NoLimit) (hg : s1.gens = #[]) (ha : s1.heap.get? a = some { cls := .type "list", data := .seq vs.toArray }) (hi : IntsAre vs ns) (hl : ns.length ≤ sizeLine) (hr : Room k callerA)
    (Fn : ∀ base : Heap, K.In base → base.Ns mainGlobals mg → FnG P w K mg base k fa fd [x] sp) (hbind : ∀ (s : Shared) (u : Value), BindsTo s fd ⟨[u], []⟩ [(x, u)])
    (hsp : ∀ H : Hp, SqL K H a (ns.map V.int) → sp [.ref a] H (fun v _ => v = .bl true) E0) :
    codeAny (model P w) callerA (.call (.ref fa) ⟨[.ref a], []⟩) (fun r s' => r = .ok (.ret (.bool true)) ∧ OldK s1.heap s'.heap ∧ s'.os = s1.os ∧ AllBare s'.gens) s1 := by
  have rv := vals_ints hi
  have lenV := hi.length
  by_cases hk : K.lookup a = none
  · let H : Hp := fun b => if b = a then some (.frz { cls := .type "list", data := .seq vs.toArray } (.lst (ns.map V.int))) else none
    have atA : H a = some (.frz { cls := .type "list", data := .seq vs.toArray } (.lst (ns.map V.int))) := if_pos rfl
    have off : ∀ b, b ≠ a → H b = none := fun b z => if_neg z
    refine law_core KX hns hb hbb hlim hg ha hr Fn hbind H (fun b => ?_) (fun b u z => ?_) (fun b z => ?_) (fun _ => hk) (hsp H (.inl (.inr ⟨_, atA⟩)))
    · by_cases e : b = a
      · rw [e]; exact .inr ⟨_, _, atA⟩
      · exact .inl (off b e)
    · by_cases e : b = a
      · rw [e, atA] at z
        cases z
        rw [e]
        exact ⟨ha, by rw [List.length_map]; exact hl, vs, _, rv, ha⟩
      · rw [off b e] at z; cases z
    · by_cases e : b = a
      · exact e
      · exact absurd (off b e) z
  · obtain ⟨o, ho⟩ : ∃ o, K.lookup a = some o := Option.ne_none_iff_exists'.mp hk
    have e := KX a o ho
    rw [ha] at e
    have eo : o = { cls := .type "list", data := .seq vs.toArray } := (Option.some.inj e).symm
    subst eo
    refine law_core KX hns hb hbb hlim hg ha hr Fn hbind (fun _ => none) (fun _ => .inl rfl) (fun b u z => nomatch (show (none : Option HO) = some u from z)) (fun b z => absurd rfl z) (fun z => absurd rfl z) (hsp _ ?_)
    exact .inr ⟨_, vs.toArray, _, ho, rfl, rfl, rfl, by rw [List.size_toArray, lenV]; exact hl, by simpa using rv⟩
/-- what k_head leaves, from the law's promise -/
theorem walkG {l : PySem.W.OpenLaw} {n k : Nat} {q : Program} {loose : List Str} {XP : (Str → Option Value) → Heap → Prop} {YP : World → Heap → Prop} {d : DefRec} {K : Params → Fg} {x : Str} (hn : l.most = some n) (hn2 : n ≤ 63) (hdf : d.params.defaults = []) (hr : Room k callerA)
    (hY : ∀ (w : World) (h : Heap), YP w h → (K w.params).In h)
    (Fn : ∀ (w : World) (mg : Str → Option Value) (fa : Addr) (h : Heap), (K w.params).In h → h.Ns mainGlobals mg → mg d.name = some (.ref fa) →
      ∃ fd : FuncData, (∀ (s : Shared) (u : Value), BindsTo s fd ⟨[u], []⟩ [(x, u)]) ∧ ∀ base : Heap, (K w.params).In base → base.Ns mainGlobals mg → FnG l.prog w (K w.params) mg base k fa fd [x] (spLaw (K w.params))) :
    PySem.W.WalkO q loose XP YP l.row.toRowW d [] (fun f vs => PySem.call f vs) := by
  refine Att.attach_call hn hdf fun w s₀ s₁ mg mb fa o pm cd doc a vs ns G Y ho hd hcd hmg hobj hints hlen hg => ?_
  have KX := hY w _ Y
  obtain ⟨fd, hb, hF⟩ := Fn w mg fa _ KX G.T.g hmg
  have small : ns.length ≤ sizeLine := Nat.le_trans (Nat.le_trans hlen hn2) (by decide)
  exact law_callG KX G.T.g G.T.b G.T.builtins G.T.nolimit hg hobj hints small hr hF hb fun H hS => ⟨a, ns, rfl, hS, Nat.le_trans hlen hn2, fun _ => rfl⟩
end MD

set_option Elab.async false
set_option linter.all false
set_option maxRecDepth 100000
set_option maxHeartbeats 2000000
namespace MD
open PySem PySem.Spec PyProof.Rows L2

section
variable {K : Fg} {dk : Dk} {F F' F0 : Fz} {H H' H0 : Hp} {X : Cx}
/-! rules of several kinds in one -/
def rAddA (K : Fg) : R2 := fun x y H Q => rI0 (fun i j => .int (i + j)) x y H Q ∨ (∃ i j, x = .str i ∧ y = .str j ∧ i.length + j.length ≤ sizeLine ∧ Q (.str (i ++ j)) H) ∨ rCatA K x y H Q ∨ rCat x y H Q
theorem op_addA : OpR X (binaryOp .Add) (rAddA X.K) := OpR.or op_add (OpR.or op_add_str (OpR.or op_catA op_cat))
def addM : D → D → Option D
  | .int i, .int j => some (.int (i + j))
  | .str i, .str j => if i.length + j.length ≤ sizeLine then some (.str (i ++ j)) else none
  | .tup i, .tup j => if i.length + j.length ≤ sizeLine then some (.tup (i ++ j)) else none
  | .lst i, .lst j => if i.length + j.length ≤ sizeLine then some (.lst (i ++ j)) else none
  | _, _ => none
theorem ro_addA : RO K (rAddA K) addM := by
  intro dk F H st x y d e z w rx ry hz Q q
  unfold addM at hz
  split at hz
  · exact .inl (ro_I0 (fun i j => rc_int (i + j)) dk F H st x y _ _ z w rx ry hz Q q)
  · exact .inr (.inl (ro_strCat dk F H st x y _ _ z w rx ry hz Q q))
  · exact .inr (.inr (.inl (ro_tupCat dk F H st x y _ _ z w rx ry hz Q q)))
  · refine .inr (.inr (.inr (rof_lstCat.ro dk F H st x y _ _ z w rx ry ?_ Q q)))
    unfold lstCat
    split at hz
    · rename_i hc
      simp only [hc, if_true]; exact hz
    · cases hz
  · cases hz
abbrev subM : D → D → Option D := iI fun i j => .int (i - j)
abbrev mulM : D → D → Option D := iIC CMul fun i j => .int (i * j)
abbrev fdivM : D → D → Option D := iIC CDiv fun i j => .int (i / j)
abbrev modM : D → D → Option D := iIC (fun _ j => 0 < j) fun i j => .int (i % j)
abbrev powM : D → D → Option D := iIC CPow fun i j => .int (i ^ j.toNat)
abbrev ltM : D → D → Option D := iI fun i j => .bl (decide (i < j))
abbrev leM : D → D → Option D := iI fun i j => .bl (decide (i ≤ j))
abbrev gtM : D → D → Option D := iI fun i j => .bl (decide (j < i))
abbrev geM : D → D → Option D := iI fun i j => .bl (decide (j ≤ i))
theorem ro_sub : RO K (rI0 fun i j => .int (i - j)) subM := ro_I0 fun i j => rc_int _
theorem ro_mul : RO K (rI CMul fun i j => .int (i * j)) mulM := ro_I fun i j => rc_int _
theorem ro_fdiv : RO K (rI CDiv fun i j => .int (i / j)) fdivM := ro_I fun i j => rc_int _
theorem ro_mod : RO K (rI (fun _ j => 0 < j) fun i j => .int (i % j)) modM := ro_I fun i j => rc_int _
theorem ro_pow : RO K (rI CPow fun i j => .int (i ^ j.toNat)) powM := ro_I fun i j => rc_int _
theorem ro_lt : RO K (rI0 fun i j => .bl (decide (i < j))) ltM := ro_I0 fun i j => rc_bl _
theorem ro_le : RO K (rI0 fun i j => .bl (decide (i ≤ j))) leM := ro_I0 fun i j => rc_bl _
theorem ro_gt : RO K (rI0 fun i j => .bl (decide (j < i))) gtM := ro_I0 fun i j => rc_bl _
theorem ro_ge : RO K (rI0 fun i j => .bl (decide (j ≤ i))) geM := ro_I0 fun i j => rc_bl _
theorem ro_ipAdd : RO K (ipI fun i j => i + j) (iI fun i j => .int (i + j)) := ro_I0 fun i j => rc_int _
theorem ro_ipSub : RO K (ipI fun i j => i - j) (iI fun i j => .int (i - j)) := ro_I0 fun i j => rc_int _
/-! in -/
def rInA (K : Fg) : R2 := fun x y H Q => (∃ (c : Nat) (z : Str), x = .str ⟨#[c]⟩ ∧ y = .str z ∧ Q (.bl (decide (c ∈ z.cps.toList))) H) ∨ rIn K false x y H Q
def rNotInA (K : Fg) : R2 := fun x y H Q => (∃ (c : Nat) (z : Str), x = .str ⟨#[c]⟩ ∧ y = .str z ∧ Q (.bl (!decide (c ∈ z.cps.toList))) H) ∨ rIn K true x y H Q
theorem op_inA : OpR X (compareOp .In) (rInA X.K) := OpR.or op_in_sign op_in_seq
theorem op_notInA : OpR X (compareOp .NotIn) (rNotInA X.K) := OpR.or op_notIn_sign op_notIn_seq
def inM (d e : D) : Option D := match e with
  | .str _ => inSign d e
  | _ => inSeq false d e
def notInM (d e : D) : Option D := match e with
  | .str _ => notInSign d e
  | _ => inSeq true d e
theorem ro_in : RO K (rInA K) inM := by
  intro dk F H st x y d e z w rx ry hz Q q
  unfold inM at hz
  split at hz
  · exact .inl (ro_inSign dk F H st x y _ _ z w rx ry hz Q q)
  · exact .inr (ro_inSeq false dk F H st x y _ _ z w rx ry hz Q q)
theorem ro_notIn : RO K (rNotInA K) notInM := by
  intro dk F H st x y d e z w rx ry hz Q q
  unfold notInM at hz
  split at hz
  · exact .inl (ro_notInSign dk F H st x y _ _ z w rx ry hz Q q)
  · exact .inr (ro_inSeq true dk F H st x y _ _ z w rx ry hz Q q)
/-! tuple(..) of a list, a tuple, a text -/
def rTupA (K : Fg) : List V → Hp → VK → Prop := fun xs H Q => (∃ p ys, xs = [.ref p] ∧ ((SqL K H p ys ∧ ∀ l, H l = none → Q (.ref l) (upd H l (.tup ys))) ∨ (SqT K H p ys ∧ Q (.ref p) H))) ∨
  ∃ x, xs = [.str x] ∧ x.cps.size ≤ sizeLine ∧ ∀ p, H p = none → Q (.ref p) (upd H p (.tup ((signs x).map V.str)))
theorem call_tupA (hc : X.calm = true) : CallR X (.type "tuple") (rTupA X.K) := CallR.or call_tuple_of (call_tupStr hc)
def tupleM : List D → Option D
  | [.lst ds] => some (.tup ds)
  | [.tup ds] => some (.tup ds)
  | [.str x] => if x.cps.size ≤ sizeLine then some (.tup ((signs x).map D.str)) else none
  | _ => none
theorem rc_tupA : RC K (rTupA K) tupleM := by
  intro dk F H st vs ds z w rx hz Q q
  unfold tupleM at hz
  split at hz
  · exact .inl (rc_tupOf dk F H st vs _ z w rx hz Q q)
  · exact .inl (rc_tupOf dk F H st vs _ z w rx hz Q q)
  · exact .inr (rc_tupStr dk F H st vs _ z w rx hz Q q)
  · cases hz
/-! module constants -/
theorem pe_gstr {x : Str} {s : Str} {pos : Pos} (hg : Gl X x) (hm : ∃ t, X.mg x = some (.str s t)) (hd : (x == ("__debug__" : Str)) = false := by decide) : PE X (.Name x pos) (tC (.str s)) := by
  obtain ⟨t, h⟩ := hm
  exact pe_glob hg h ⟨t, rfl⟩ hd
theorem pe_gint {x : Str} {i : Int} {pos : Pos} (hg : Gl X x) (hm : ∃ t, X.mg x = some (.int i t)) (hd : (x == ("__debug__" : Str)) = false := by decide) : PE X (.Name x pos) (tC (.int i)) := by
  obtain ⟨t, h⟩ := hm
  exact pe_glob hg h ⟨t, rfl⟩ hd
end
/-! a def that is known to its callers -/
def Cal (P : Program) (w : World) (K : Fg) (mg : Str → Option Value) (base : Heap) (k : Nat) (x : Str) (ps : List Str) (sp : Sp) : Prop :=
  ∃ f fd, FnG P w K mg base k f fd ps sp ∧ mg x = some (.ref f) ∧ PySem.W.keepIn K (.ref f) = true ∧ Binds K fd ps []
section
variable {X : Cx} {k j : Nat} {ps : List Str} {sp : Sp} {x : Str} {p pos : Pos} {e : Expr} {es : List Expr} {t : TA}
theorem pe_callC (C : Cal X.prog X.w X.K X.mg X.base j x ps sp) (hr : Room k X.A) (gd : X.A.guards = some []) (hg : Gl X x) (ha : PA X (e :: es) t) (hj : j ≤ k := by decide) (hdb : (x == ("__debug__" : Str)) = false := by decide)
    (he : starEach (e :: es) X.env = (false, eval e X.env) :: starEach es X.env := by rfl) (hpl : (backTo pos (starEach es X.env)).any (·.1) = false := by rfl) : PE X (.Call (.Name x p) (e :: es) [] pos) (tCall sp [] E0 t) := by
  obtain ⟨f, fd, F, hm, hk, hb⟩ := C
  exact pe_callG F (hr.mono hj) gd hg hm hk hb ha hdb he hpl
end
end MD

set_option Elab.async false
set_option linter.all false
set_option maxRecDepth 100000
set_option maxHeartbeats 1000000
namespace MD
open PySem L2

/-! ### dicts with ints and texts as keys -/
def keyOf : D → Option Key
  | .int i => some (.inl i)
  | .str x => some (.inr x)
  | _ => none
def keyD : Key → D
  | .inl i => .int i
  | .inr x => .str x
section
variable {K : Fg} {dk : Dk} {F F' F0 : Fz} {H H' H0 : Hp} {σ : L2.St} {env : Sg} {st : S}
theorem keyOf_rw {v : V} {d : D} {k : Key} (r : Rw K dk F H v d) (h : keyOf d = some k) : v = kV k := by
  cases d with
  | int i => cases h; exact r.int
  | str x => cases h; exact r.str
  | _ => cases h
theorem keyD_rp (k : Key) : Rp K dk F (kV k) (keyD k) := by
  cases k with
  | inl i => exact .int i
  | inr x => exact .str x
def getK {α : Type} : List Key → List α → Key → Option α
  | k' :: ks, x :: xs, k => if k' = k then some x else getK ks xs k
  | _, _, _ => none
theorem getK_val : ∀ {vs : List V} {ds : List D} (ks : List Key) (k : Key), Rps K dk F vs ds → ks.length = vs.length →
    (∀ d, getK ks ds k = some d → ∃ v, valV (ks.zip vs) k = some v ∧ Rp K dk F v d) ∧ (getK ks ds k = none → valV (ks.zip vs) k = none)
  | _, _, [], k, .nil, _ => ⟨fun d h => (by cases h), fun _ => rfl⟩
  | _, _, [], k, .cons a r, h => by simp at h
  | _, _, k' :: ks, k, .nil, h => by simp at h
  | v :: vs, d :: ds, k' :: ks, k, .cons a r, h => by
    obtain ⟨i1, i2⟩ := getK_val ks k r (by simpa using h)
    rw [List.zip_cons_cons]
    unfold getK
    by_cases e : k' = k
    · rw [if_pos e, valV_pos (p := (k', v)) e]
      exact ⟨fun d' h => (by cases h; exact ⟨v, rfl, a⟩), fun h => (by cases h)⟩
    · rw [if_neg e, valV_neg (p := (k', v)) e]
      exact ⟨i1, i2⟩
def hasK (ks : List Key) (k : Key) : Bool := ks.any fun k' => decide (k' = k)
def putKs (ks : List Key) (k : Key) : List Key := if hasK ks k = true then ks else ks ++ [k]
def putVs {α : Type} (ks : List Key) (xs : List α) (k : Key) (x : α) : List α := if hasK ks k = true then List.zipWith (fun k' x' => if k' = k then x else x') ks xs else xs ++ [x]
theorem put_len {α : Type} {ks : List Key} {xs : List α} {k : Key} {x : α} (h : ks.length = xs.length) : (putKs ks k).length = (putVs ks xs k x).length := by
  unfold putKs putVs
  by_cases e : hasK ks k = true
  · rw [if_pos e, if_pos e, List.length_zipWith, h, Nat.min_self]
  · rw [if_neg e, if_neg e, List.length_append, List.length_append, h]; rfl
theorem any_zip {vs : List V} (k : Key) : ∀ (ks : List Key) (vs : List V), ks.length = vs.length → ((ks.zip vs).any fun kv => decide (kv.1 = k)) = hasK ks k
  | [], [], _ => rfl
  | k' :: ks, v :: vs, h => by
    rw [List.zip_cons_cons, List.any_cons, any_zip (vs := vs) k ks vs (by simpa using h)]
    rfl
theorem map_zip (k : Key) (v : V) : ∀ (ks : List Key) (vs : List V), (ks.zip vs).map (fun kv => if kv.1 = k then (kv.1, v) else kv) = ks.zip (List.zipWith (fun k' x' => if k' = k then v else x') ks vs)
  | [], _ => rfl
  | _ :: _, [] => rfl
  | k' :: ks, u :: vs => by
    rw [List.zip_cons_cons, List.map_cons, map_zip k v ks vs, List.zipWith_cons_cons, List.zip_cons_cons]
    by_cases e : k' = k
    · simp [e]
    · simp [e]
theorem put_zip {ks : List Key} {vs : List V} {k : Key} {v : V} (h : ks.length = vs.length) : putK (ks.zip vs) k v = (putKs ks k).zip (putVs ks vs k v) := by
  unfold putK putKs putVs
  rw [any_zip (vs := vs) k ks vs h]
  by_cases e : hasK ks k = true
  · rw [if_pos e, if_pos e, if_pos e, map_zip]
  · rw [if_neg e, if_neg e, if_neg e, List.zip_append h]; rfl
theorem put_rps {k : Key} {v : V} {d : D} (r : Rp K dk F v d) : ∀ {vs : List V} {ds : List D} (ks : List Key), Rps K dk F vs ds → Rps K dk F (List.zipWith (fun k' x' => if k' = k then v else x') ks vs) (List.zipWith (fun k' x' => if k' = k then d else x') ks ds)
  | _, _, [], _ => .nil
  | _, _, _ :: _, .nil => .nil
  | _, _, k' :: ks, .cons a b => by
    rw [List.zipWith_cons_cons, List.zipWith_cons_cons]
    refine .cons ?_ (put_rps r ks b)
    by_cases e : k' = k
    · rw [if_pos e, if_pos e]; exact r
    · rw [if_neg e, if_neg e]; exact a
theorem putVs_rps {k : Key} {v : V} {d : D} {vs : List V} {ds : List D} {ks : List Key} (r : Rp K dk F v d) (rs : Rps K dk F vs ds) : Rps K dk F (putVs ks vs k v) (putVs ks ds k d) := by
  unfold putVs
  by_cases e : hasK ks k = true
  · rw [if_pos e, if_pos e]; exact put_rps r ks rs
  · rw [if_neg e, if_neg e]; exact rs.append (Rps.one r)

theorem pe_or {X : Cx} {e : Expr} {t t' : TE} (h : PE X e t) (h' : PE X e t') : PE X e (fun σ H Q => t σ H Q ∨ t' σ H Q) :=
  ⟨fun pins s σ H Q I q => q.elim (h.run pins s σ H Q I) (h'.run pins s σ H Q I)⟩
theorem ps_or {X : Cx} {e : Stmt} {t t' : TS} (h : PS X e t) (h' : PS X e t') : PS X e (fun E σ H => t E σ H ∨ t' E σ H) :=
  ⟨fun pins s σ H E I q => q.elim (h.run pins s σ H E I) (h'.run pins s σ H E I)⟩
/-! e[k], of a list, a tuple, a text, a dict -/
def dgetD : List Key → List D → D → Option D := fun ks ds k => (keyOf k).bind fun k => getK ks ds k
def subD (d e : D) : Option D := match d with
  | .dic ks ds => dgetD ks ds e
  | d => ixM d e
def tSub (K : Fg) (ta tb : TE) : TE := fun σ H Q => tDGet ta tb σ H Q ∨ tOp (rIx K) ta tb σ H Q
theorem pe_sub {X : Cx} {o i : Expr} {pos : Pos} {ta tb : TE} (hu : X.A.units + 1 < cLine) (ho : PE X o ta) (hi : PE X i tb) (hs : NoSl i := by intro _ _; rfl) (hs' : PlainIx i := by intro _ _; rfl) : PE X (.Subscript o i pos) (tSub X.K ta tb) :=
  pe_or (pe_dget hu ho hi hs) (pe_ix ix_seq ho hi hs')
theorem im_sub {ta tb : TE} {fa fb : ME} (ha : ImW K ta fa) (hb : ImW K tb fb) : Im K (tSub K ta tb) (opM subD fa fb) := fun dk H0 F0 F σ H env st d st' g e Q q => by
  obtain ⟨⟨x, s1⟩, h1, e'⟩ := bnd e
  obtain ⟨⟨y, s2⟩, h2, e'⟩ := bnd e'
  obtain ⟨z, h3, e'⟩ := mpd e'
  cases e'
  by_cases hd : ∃ ks ds, dr s2 x = .dic ks ds
  · obtain ⟨ks, ds, hd⟩ := hd
    refine .inl ?_
    refine ha dk H0 F0 F σ H env st x s1 g h1 _ fun v F1 H1 x1 g1 r1 => ?_
    refine hb dk H0 F0 F1 σ H1 env s1 y _ g1 h2 _ fun u F2 H2 x2 g2 r2 => ?_
    have r3 := (r1.ext x2).dr g2.wd
    rw [hd] at r3
    obtain ⟨p, vs, rfl, hr, hl, r⟩ := r3.d g2.wd.sub
    replace h3 : subD (dr s2 x) (dr s2 y) = some d := h3
    rw [hd] at h3
    obtain ⟨k, h4, h5⟩ := bnd (show (keyOf (dr s2 y)).bind (fun k => getK ks ds k) = some d from h3)
    obtain ⟨w, hw, rw'⟩ := (getK_val ks k r hl).1 _ h5
    exact ⟨p, w, rfl, .inl ⟨_, k, hr, keyOf_rw (r2.dr g2.wd) h4, hw.symm⟩, q w F2 H2 (x1.trans x2) g2 rw'⟩
  · refine .inr (im_op ro_ix ha hb dk H0 F0 F σ H env st d s2 g ?_ Q q)
    unfold opM
    rw [h1]
    show ((fb env s1).bind _) = _
    rw [h2]
    show (ixM (dr s2 x) (dr s2 y)).map _ = _
    have : subD (dr s2 x) (dr s2 y) = ixM (dr s2 x) (dr s2 y) := by
      unfold subD
      split
      · rename_i ks ds hx
        exact absurd ⟨ks, ds, hx⟩ hd
      · rfl
    rw [← this, show subD (dr s2 x) (dr s2 y) = some d from h3]
    rfl
/-! k in d, k not in d -/
def cntD (neg : Bool) (d e : D) : Option D := match e with
  | .dic ks ds => (keyOf d).map fun k => .bl (if neg then !(getK ks ds k).isSome else (getK ks ds k).isSome)
  | e => if neg then notInM d e else inM d e
def tIn (K : Fg) (ta tb : TE) : TE := fun σ H Q => tDIn ta tb σ H Q ∨ tOp (rInA K) ta tb σ H Q
def tNotIn (K : Fg) (ta tb : TE) : TE := fun σ H Q => tDNotIn ta tb σ H Q ∨ tOp (rNotInA K) ta tb σ H Q
theorem pe_in {X : Cx} {a b : Expr} {pos : Pos} {ta tb : TE} (hu : X.A.units + 1 < cLine) (ha : PE X a ta) (hb : PE X b tb) (hm : behindInMarks .In b = false := by rfl) : PE X (.Compare a [.In] [b] pos) (tIn X.K ta tb) :=
  pe_or (pe_cmp (pc_din hu ha hb) hm) (pe_cmpR op_inA ha hb hm)
theorem pe_notIn {X : Cx} {a b : Expr} {pos : Pos} {ta tb : TE} (hu : X.A.units + 1 < cLine) (ha : PE X a ta) (hb : PE X b tb) (hm : behindInMarks .NotIn b = false := by rfl) : PE X (.Compare a [.NotIn] [b] pos) (tNotIn X.K ta tb) :=
  pe_or (pe_cmp (pc_dnotin hu ha hb) hm) (pe_cmpR op_notInA ha hb hm)
theorem im_inX (neg : Bool) {ta tb t : TE} {fa fb : ME} (r : R2) (ro : RO K r (fun d e => if neg then notInM d e else inM d e))
    (hin : ∀ σ H Q, (ta σ H fun y H1 => tb σ H1 fun x H2 => ∃ a o, x = .ref a ∧ DGet H2 a y o ∧ Q (.bl (if neg then !o.isSome else o.isSome)) H2) ∨ tOp r ta tb σ H Q → t σ H Q) (ha : ImW K ta fa) (hb : ImW K tb fb) : Im K t (opM (cntD neg) fa fb) := fun dk H0 F0 F σ H env st d st' g e Q q => by
  obtain ⟨⟨x, s1⟩, h1, e'⟩ := bnd e
  obtain ⟨⟨y, s2⟩, h2, e'⟩ := bnd e'
  obtain ⟨z, h3, e'⟩ := mpd e'
  cases e'
  refine hin σ H Q ?_
  by_cases hd : ∃ ks ds, dr s2 y = .dic ks ds
  · obtain ⟨ks, ds, hd⟩ := hd
    refine .inl ?_
    refine ha dk H0 F0 F σ H env st x s1 g h1 _ fun v F1 H1 x1 g1 r1 => ?_
    refine hb dk H0 F0 F1 σ H1 env s1 y _ g1 h2 _ fun u F2 H2 x2 g2 r2 => ?_
    have r3 := r2.dr g2.wd
    rw [hd] at r3
    obtain ⟨p, vs, rfl, hr, hl, r⟩ := r3.d g2.wd.sub
    replace h3 : cntD neg (dr s2 x) (dr s2 y) = some d := h3
    rw [hd] at h3
    obtain ⟨k, h4, h5⟩ := mpd (show (keyOf (dr s2 x)).map (fun k => D.bl (if neg then !(getK ks ds k).isSome else (getK ks ds k).isSome)) = some d from h3)
    subst h5
    obtain ⟨i1, i2⟩ := getK_val ks k r hl
    refine ⟨p, _, rfl, .inl ⟨_, k, hr, keyOf_rw ((r1.ext x2).dr g2.wd) h4, rfl⟩, ?_⟩
    have es : (valV (ks.zip vs) k).isSome = (getK ks ds k).isSome := by
      cases hk : getK ks ds k with
      | none => rw [i2 hk]; rfl
      | some w => obtain ⟨u, hu, _⟩ := i1 w hk; rw [hu]; rfl
    rw [es]
    exact q _ F2 H2 (x1.trans x2) g2 (.bl _)
  · refine .inr (im_op ro ha hb dk H0 F0 F σ H env st d s2 g ?_ Q q)
    unfold opM
    rw [h1]
    show ((fb env s1).bind _) = _
    rw [h2]
    show ((fun d e => if neg then notInM d e else inM d e) (dr s2 x) (dr s2 y)).map _ = _
    have : cntD neg (dr s2 x) (dr s2 y) = if neg then notInM (dr s2 x) (dr s2 y) else inM (dr s2 x) (dr s2 y) := by
      unfold cntD
      split
      · rename_i ks ds hx
        exact absurd ⟨ks, ds, hx⟩ hd
      · rfl
    dsimp only
    rw [← this, show cntD neg (dr s2 x) (dr s2 y) = some d from h3]
    rfl
theorem im_in {ta tb : TE} {fa fb : ME} (ha : ImW K ta fa) (hb : ImW K tb fb) : Im K (tIn K ta tb) (opM (cntD false) fa fb) := im_inX false (rInA K) ro_in (fun σ H Q h => h) ha hb
theorem im_notIn {ta tb : TE} {fa fb : ME} (ha : ImW K ta fa) (hb : ImW K tb fb) : Im K (tNotIn K ta tb) (opM (cntD true) fa fb) := im_inX true (rNotInA K) ro_notIn (fun σ H Q h => h) ha hb
/-! len(d), list(d) -/
theorem call_lenR {X : Cx} : CallR X (.builtin "len") (fun xs H Q => ∃ a kvs, xs = [V.ref a] ∧ Rd H a (.dK kvs) ∧ Q (.int kvs.length) H) := by
  intro pins s σ H xs us Q I r h
  obtain ⟨a, kvs, rfl, ha, q⟩ := h
  obtain ⟨u, rfl, ru⟩ := vals1 r
  cases ru
  exact d_len I ha fun t s' I' => ⟨.int kvs.length, H, I', ⟨t, rfl⟩, q⟩
def lenA : List D → Option D
  | [.dic ks _] => some (.int ks.length)
  | ds => lenM ds
def rLenA (K : Fg) : List V → Hp → VK → Prop := fun xs H Q => (∃ a kvs, xs = [V.ref a] ∧ Rd H a (.dK kvs) ∧ Q (.int kvs.length) H) ∨ ∃ x n, xs = [x] ∧ LenV K x H n ∧ Q (.int n) H
theorem call_lenA {X : Cx} : CallR X (.builtin "len") (rLenA X.K) := CallR.or call_lenR call_len
theorem rc_lenA : RC K (rLenA K) lenA := by
  intro dk F H st vs ds z w rx hz Q q
  unfold lenA at hz
  split at hz
  · cases hz
    obtain ⟨v, rfl, r⟩ := rx.one
    obtain ⟨p, vs, rfl, hr, hl, r⟩ := r.d w.sub
    refine .inl ⟨p, _, rfl, hr, ?_⟩
    rw [List.length_zip, hl, Nat.min_self, ← hl]
    exact q _ F H (Px.refl w.sub) (.int _)
  · exact .inr (rc_len dk F H st vs _ z w rx hz Q q)
/-! d.get(k), d.get(k, x) -/
def isDicD : D → Option (List Key × List D)
  | .dic ks ds => some (ks, ds)
  | _ => none
theorem isDicD_eq {d : D} {q : List Key × List D} (h : isDicD d = some q) : d = .dic q.1 q.2 := by
  cases d <;> first | (cases h; rfl) | cases h
def get1M (fd fk : ME) : ME := fun env st => (fd env st).bind fun p => (isDicD (dr p.2 p.1)).bind fun _ => (fk env p.2).bind fun q => (isDicD (dr q.2 p.1)).bind fun z => (keyOf q.1).map fun k => ((getK z.1 z.2 k).getD .non, q.2)
theorem im_get1 {td ty : TE} {fd fk : ME} (hd : ImW K td fd) (hk : ImW K ty fk) : Im K (tDGet1 td ty) (get1M fd fk) := fun dk H0 F0 F σ H env st d st' g e Q q => by
  obtain ⟨⟨x, s1⟩, h1, e⟩ := bnd e
  obtain ⟨_, h2, e⟩ := bnd e
  obtain ⟨⟨y, s2⟩, h3, e⟩ := bnd e
  obtain ⟨⟨ks, ds⟩, h4, e⟩ := bnd e
  obtain ⟨k, h5, e⟩ := mpd e
  cases e
  refine hd dk H0 F0 F σ H env st x s1 g h1 _ fun v F1 H1 x1 g1 r1 => ?_
  have r1' := r1.dr g1.wd
  rw [isDicD_eq h2] at r1'
  obtain ⟨p, _, rfl, hr, _, _⟩ := r1'.d g1.wd.sub
  refine ⟨p, rfl, .inl ⟨_, hr⟩, ?_⟩
  refine hk dk H0 F0 F1 σ H1 env s1 y _ g1 h3 _ fun u F2 H2 x2 g2 r2 => ?_
  have r3 := (r1.ext x2).dr g2.wd
  rw [isDicD_eq h4] at r3
  obtain ⟨p', vs, e', hr, hl, r⟩ := r3.d g2.wd.sub
  cases e'
  obtain ⟨i1, i2⟩ := getK_val ks k r hl
  refine ⟨_, .inl ⟨_, k, hr, keyOf_rw r2.w h5, rfl⟩, ?_⟩
  dsimp only at q ⊢
  cases hk : getK ks ds k with
  | none =>
    rw [i2 hk]
    rw [hk] at q
    exact q .non F2 H2 (x1.trans x2) g2 .non
  | some d =>
    obtain ⟨u, hu, ru⟩ := i1 d hk
    rw [hu]
    rw [hk] at q
    exact q u F2 H2 (x1.trans x2) g2 ru
def get2M (fd fk fx : ME) : ME := fun env st => (fd env st).bind fun p => (isDicD (dr p.2 p.1)).bind fun _ => (fk env p.2).bind fun q => (fx env q.2).bind fun r => (isDicD (dr r.2 p.1)).bind fun z => (keyOf q.1).map fun k => ((getK z.1 z.2 k).getD r.1, r.2)
theorem im_get2 {td ty tx : TE} {fd fk fx : ME} (hd : ImW K td fd) (hk : ImW K ty fk) (hx : Im K tx fx) : Im K (tDGet2 td ty tx) (get2M fd fk fx) := fun dk H0 F0 F σ H env st d st' g e Q q => by
  obtain ⟨⟨x, s1⟩, h1, e⟩ := bnd e
  obtain ⟨_, h2, e⟩ := bnd e
  obtain ⟨⟨y, s2⟩, h3, e⟩ := bnd e
  obtain ⟨⟨z, s3⟩, h6, e⟩ := bnd e
  obtain ⟨⟨ks, ds⟩, h4, e⟩ := bnd e
  obtain ⟨k, h5, e⟩ := mpd e
  cases e
  refine hd dk H0 F0 F σ H env st x s1 g h1 _ fun v F1 H1 x1 g1 r1 => ?_
  have r1' := r1.dr g1.wd
  rw [isDicD_eq h2] at r1'
  obtain ⟨p, _, rfl, hr, _, _⟩ := r1'.d g1.wd.sub
  refine ⟨p, rfl, .inl ⟨_, hr⟩, ?_⟩
  refine hk dk H0 F0 F1 σ H1 env s1 y _ g1 h3 _ fun u F2 H2 x2 g2 r2 => ?_
  refine hx dk H0 F0 F2 σ H2 env s2 z _ g2 h6 _ fun w F3 H3 x3 g3 rz => ?_
  have x23 := x2.trans x3
  have r3 := (r1.ext x23).dr g3.wd
  rw [isDicD_eq h4] at r3
  obtain ⟨p', vs, e', hr, hl, r⟩ := r3.d g3.wd.sub
  cases e'
  obtain ⟨i1, i2⟩ := getK_val ks k r hl
  refine ⟨_, .inl ⟨_, k, hr, keyOf_rw (r2.ext x3).w h5, rfl⟩, ?_⟩
  dsimp only at q ⊢
  cases hk : getK ks ds k with
  | none =>
    rw [i2 hk]
    rw [hk] at q
    exact q w F3 H3 (x1.trans x23) g3 rz
  | some d =>
    obtain ⟨u, hu, ru⟩ := i1 d hk
    rw [hu]
    rw [hk] at q
    exact q u F3 H3 (x1.trans x23) g3 ru
/-! d[k] = v, of a name's own dict -/
def dputM (i : Nat) (fk fv : ME) : MS := fun env st => match env[i]? with
  | some (.own (.dic ks, ds)) => (fv env st).bind fun p => (fk env p.2).bind fun q => (keyOf q.1).bind fun k => if ds.length < sizeLine then some (.nx (env.set i (.own (.dic (putKs ks k), putVs ks ds k p.1))), q.2) else none
  | _ => none
theorem is_dput {ty tv : TE} {fk fv : ME} (i : Nat) (hk : ImW K ty fk) (hv : Im K tv fv) : ImS K (sDPut (tVar i) ty tv) (dputM i fk fv) := fun dk H0 F0 F σ H env st fl st' g e E hd => by
  unfold dputM at e
  split at e
  · rename_i ks ds he
    obtain ⟨⟨d, s1⟩, e1, e⟩ := bnd e
    obtain ⟨⟨y, s2⟩, e2, e⟩ := bnd e
    obtain ⟨k, e3, e⟩ := bnd e
    split at e
    · rename_i hz
      cases e
      obtain ⟨p, vs, h1, ⟨h2, h2'⟩, h3, h4, h5, h6, h7⟩ := g.sl i _ he
      refine hv dk H0 F0 F σ H env st d s1 g e1 _ fun v F1 H1 x1 g1 r1 => ?_
      refine ⟨.ref p, join_eq h1, hk dk H0 F0 F1 σ H1 env s1 y s2 g1 e2 _ fun u F2 H2 x2 g2 r2 => ?_⟩
      have x12 := x1.trans x2
      have hl := h7.length
      refine ⟨p, _, rfl, .inl ⟨ks.zip vs, k, x12.h _ _ h2 h5 h6 (.inl h3.2), keyOf_rw r2.w e3, ?_, rfl⟩, ?_⟩
      · rw [List.length_zip, h2', Nat.min_self, hl]; exact hz
      · refine hd F2 σ _ x12.f (g2.mut (ds' := (.dic (putKs ks k), putVs ks ds k d)) (vs' := putVs ks vs k v) he (join_eq h1) ⟨?_, put_len h2'⟩ (putVs_rps (r1.mono x2.f) (h7.mono x12.f)))
        rw [upd_same, put_zip h2']
    · cases e
  · cases e
/-! ### new dicts -/
abbrev MK := Sg → S → Option ((List Key × List D) × S)
def ImK (K : Fg) (te : TE) (f : MK) : Prop := ∀ (dk : Dk) (H0 : Hp) (F0 F : Fz) (σ : L2.St) (H : Hp) (env : Sg) (st : S) (q : List Key × List D) (st' : S), Good K dk H0 F0 F σ H env st → f env st = some (q, st') →
  ∀ Q : VK, (∀ p vs F' H', Ext dk F H F' H' → Good K dk H0 F0 F' σ H' env st' → H p = none → F'.out p → H' p = some (.dK (q.1.zip vs)) → q.1.length = vs.length → Rps K dk F' vs q.2 → Q (.ref p) H') → te σ H Q
def frzK (f : MK) : ME := fun env st => (f env st).map fun p => (.dic p.1.1 p.1.2, p.2)
theorem ImK.im {te : TE} {f : MK} (h : ImK K te f) : Im K te (frzK f) := fun dk H0 F0 F σ H env st d st' g e Q q => by
  obtain ⟨⟨⟨ks, ds⟩, s1⟩, h1, h2⟩ := mpd e
  cases h2
  refine h dk H0 F0 F σ H env st _ s1 g h1 Q fun p vs F' H' x g' hp fp hl hl2 r => ?_
  have nd := g.nedk hp
  have le : Le F' (F'.up p (.dK (ks.zip vs))) := Le.new fp.1
  exact q (.ref p) _ H' (x.freeze hp fp) (g'.freeze hl fp (g.fresh0 hp) nd.1 nd.2 (g.noown hp)) (.dic Fz.up_same hl2 (r.mono le))
theorem ImK.w {te : TE} {f : MK} (h : ImK K te f) : ImW K te (frzK f) := h.im.w
def ownK (i : Nat) (f : MK) : MS := fun env st => (f env st).map fun p => (.nx (env.set i (.own (.dic p.1.1, p.1.2))), p.2)
theorem is_ownK {te : TE} {f : MK} (i : Nat) (h : ImK K te f) : ImS K (tAsg te (gName i)) (ownK i f) := fun dk H0 F0 F σ H env st fl st' g e E hd => by
  obtain ⟨⟨⟨ks, ds⟩, s1⟩, e1, e⟩ := mpd e
  cases e
  refine h dk H0 F0 F σ H env st _ s1 g e1 _ fun p vs F1 H1 x1 g1 hp fp hl hl2 r => ?_
  have nd := g.nedk hp
  exact hd F1 _ H1 x1.f (g1.setO (ds := (.dic ks, ds)) ⟨hl, hl2⟩ fp (g.fresh0 hp) nd.1 nd.2 (g.noown hp) r)
/-! {k: v, ..} -/
def mrgL {α : Type} : List Key → List α → List (Key × α) → List Key × List α
  | ks, xs, [] => (ks, xs)
  | ks, xs, (k, x) :: r => mrgL (putKs ks k) (putVs ks xs k x) r
theorem mrg_zip : ∀ (kvs : List (Key × V)) (ks : List Key) (vs : List V), ks.length = vs.length → mergeK (ks.zip vs) kvs = (mrgL ks vs kvs).1.zip (mrgL ks vs kvs).2 ∧ (mrgL ks vs kvs).1.length = (mrgL ks vs kvs).2.length
  | [], ks, vs, h => ⟨rfl, h⟩
  | (k, v) :: r, ks, vs, h => by
    have ih := mrg_zip r (putKs ks k) (putVs ks vs k v) (put_len h)
    rw [← put_zip h] at ih
    exact ih
inductive Rpk (K : Fg) (dk : Dk) (F : Fz) : List (Key × V) → List (Key × D) → Prop
  | nil : Rpk K dk F [] []
  | cons {k : Key} {v : V} {d : D} {kvs : List (Key × V)} {kds : List (Key × D)} : Rp K dk F v d → Rpk K dk F kvs kds → Rpk K dk F ((k, v) :: kvs) ((k, d) :: kds)
theorem Rpk.mono (le : Le F F') : ∀ {kvs : List (Key × V)} {kds : List (Key × D)}, Rpk K dk F kvs kds → Rpk K dk F' kvs kds
  | _, _, .nil => .nil
  | _, _, .cons a b => .cons (a.mono le) (Rpk.mono le b)
theorem Rpk.length : ∀ {kvs : List (Key × V)} {kds : List (Key × D)}, Rpk K dk F kvs kds → kvs.length = kds.length
  | _, _, .nil => rfl
  | _, _, .cons a b => by simp [Rpk.length b]
theorem mrg_rps : ∀ {kvs : List (Key × V)} {kds : List (Key × D)} (ks : List Key) {vs : List V} {ds : List D}, Rpk K dk F kvs kds → Rps K dk F vs ds → (mrgL ks vs kvs).1 = (mrgL ks ds kds).1 ∧ Rps K dk F (mrgL ks vs kvs).2 (mrgL ks ds kds).2
  | _, _, ks, _, _, .nil, r => ⟨rfl, r⟩
  | _, _, ks, _, _, .cons a b, r => mrg_rps (putKs ks _) b (putVs_rps a r)
abbrev MP := Sg → S → Option (List (Key × D) × S)
def ImP (K : Fg) (trs : List (TE × TE)) (f : MP) : Prop := ∀ (dk : Dk) (H0 : Hp) (F0 F : Fz) (σ : L2.St) (H : Hp) (env : Sg) (st : S) (kds : List (Key × D)) (st' : S), Good K dk H0 F0 F σ H env st → f env st = some (kds, st') →
  ∀ Q : List (V × V) → Hp → Prop, (∀ kvs F' H', Ext dk F H F' H' → Good K dk H0 F0 F' σ H' env st' → Rpk K dk F' kvs kds → Q (kvs.map fun kv => (kV kv.1, kv.2)) H') → tPairs trs σ H Q
def pNil : MP := fun _ st => some ([], st)
theorem ip_nil : ImP K [] pNil := fun dk H0 F0 F σ H env st kds st' g e Q q => by
  cases e
  exact q [] F H (Ext.refl F H) g .nil
def pCons (fk fv : ME) (r : MP) : MP := fun env st => (fk env st).bind fun p => (keyOf p.1).bind fun k => (fv env p.2).bind fun q => (r env q.2).map fun z => ((k, q.1) :: z.1, z.2)
theorem ip_cons {tk tv : TE} {trs : List (TE × TE)} {fk fv : ME} {r : MP} (hk : Im K tk fk) (hv : Im K tv fv) (hr : ImP K trs r) : ImP K ((tk, tv) :: trs) (pCons fk fv r) := fun dk H0 F0 F σ H env st kds st' g e Q q => by
  obtain ⟨⟨y, s1⟩, e1, e⟩ := bnd e
  obtain ⟨k, e2, e⟩ := bnd e
  obtain ⟨⟨d, s2⟩, e3, e⟩ := bnd e
  obtain ⟨⟨kds', s3⟩, e4, e⟩ := mpd e
  cases e
  refine hk dk H0 F0 F σ H env st y s1 g e1 _ fun v F1 H1 x1 g1 r1 => ?_
  refine hv dk H0 F0 F1 σ H1 env s1 d s2 g1 e3 _ fun u F2 H2 x2 g2 r2 => ?_
  refine hr dk H0 F0 F2 σ H2 env s2 kds' _ g2 e4 _ fun kvs F3 H3 x3 g3 r3 => ?_
  have := q ((k, u) :: kvs) F3 H3 (x1.trans (x2.trans x3)) g3 (.cons (r2.mono x3.f) r3)
  rw [List.map_cons] at this
  have hv : v = kV k := keyOf_rw (H := H1) (.rp r1) e2
  rw [hv]
  exact this
def dispK (f : MP) : MK := fun env st => (f env st).bind fun p => if p.1.length ≤ 15 then some (mrgL [] [] p.1, p.2) else none
theorem ik_disp {trs : List (TE × TE)} {f : MP} (h : ImP K trs f) : ImK K (tDisp trs) (dispK f) := fun dk H0 F0 F σ H env st kd st' g e Q q => by
  obtain ⟨⟨kds, s1⟩, e1, e⟩ := bnd e
  dsimp only at e
  split at e
  · rename_i hz
    cases e
    intro p hp
    have nd := g.nedk hp
    have px : Px F H F (upd H p (.dK [])) := Px.lay g.wd.sub hp
    have fp := g.wd.out hp
    refine h dk H0 F0 F σ _ env st kds _ (g.px px) e1 _ fun kvs F1 H1 x1 g1 r1 => ?_
    have h1 : H1 p = some (.dK []) := x1.h _ _ upd_same nd.1 nd.2 (.inl fp.2)
    have f1 : F1.out p := x1.out fp (nn upd_same)
    have no := g.noown hp
    refine ⟨h1, kvs, rfl, by rw [r1.length]; exact hz, ?_⟩
    have g2 : Good K dk H0 F0 F1 σ (upd H1 p (.dK (mergeK [] kvs))) env st' := g1.mutT h1 f1 (g.fresh0 hp) nd.1 nd.2 no
    obtain ⟨z1, z2⟩ := mrg_zip kvs [] [] rfl
    obtain ⟨y1, y2⟩ := mrg_rps (K := K) (dk := dk) (F := F1) [] r1 Rps.nil
    refine q p (mrgL [] [] kvs).2 F1 _ ?_ g2 hp f1 (by rw [upd_same, ← y1]; exact congrArg (fun z => some (HO.dK z)) z1) (by rw [← y1]; exact z2) y2
    exact (px.ext.trans x1).upd hp
  · cases e
/-- {} -/
def newK : MK := fun env st => some (([], []), st)
theorem ik_new : ImK K tDNewK newK := fun dk H0 F0 F σ H env st kd st' g e Q q => by
  cases e
  intro p hp
  have px : Px F H F (upd H p (.dK [])) := Px.lay g.wd.sub hp
  exact q p [] F _ px.ext (g.px px) hp (g.wd.out hp) upd_same rfl .nil
/-- dict(d) -/
def cpyK (f : ME) : MK := fun env st => (f env st).bind fun p => (isDicD (dr p.2 p.1)).map fun q => (q, p.2)
theorem ik_cpy {te : TE} {f : ME} (h : ImW K te f) : ImK K (tCB (fun xs H Q => ∃ (a : Addr) (kvs : List (Key × V)), xs = [.ref a] ∧ Rd H a (.dK kvs) ∧ ∀ p, H p = none → Q (.ref p) (upd H p (.dK kvs))) (tCons te tNil)) (cpyK f) := fun dk H0 F0 F σ H env st kd st' g e Q q => by
  obtain ⟨⟨x, s1⟩, h1, e⟩ := bnd e
  obtain ⟨⟨ks, ds⟩, h2, e⟩ := mpd e
  cases e
  refine h dk H0 F0 F σ H env st x s1 g h1 _ fun v F1 H1 x1 g1 r1 => ?_
  have r3 := r1.dr g1.wd
  rw [isDicD_eq h2] at r3
  obtain ⟨p, vs, rfl, hr, hl, r⟩ := r3.d g1.wd.sub
  refine ⟨p, _, rfl, hr, fun p' hp => ?_⟩
  have px : Px F1 H1 F1 (upd H1 p' (.dK (ks.zip vs))) := Px.lay g1.wd.sub hp
  exact q p' vs F1 _ (x1.trans px.ext) (g1.px px) (x1.back hp) (g1.wd.out hp) upd_same hl r
end
end MD

set_option Elab.async false
set_option linter.all false
set_option maxRecDepth 100000
set_option maxHeartbeats 1000000
namespace MD
open PySem L2

/-! ### things of the store, changed -/
def S.put (st : S) (n : Nat) (o : Ob) : S := { st with ob := st.ob.set n o }
section
variable {K : Fg} {dk : Dk} {F F' F0 : Fz} {H H' H0 : Hp} {σ σ' : L2.St} {env env' : Sg} {st st' st'' : S}
theorem mu_lt {n : Nat} {a : Addr} (h : F.mu[n]? = some a) : n < F.mu.length := by
  by_cases hl : n < F.mu.length
  · exact hl
  · rw [List.getElem?_eq_none (by omega)] at h; cases h
theorem Wd.ndk (w : Wd K dk F H st) {a : Addr} (h : a ∈ F.mu) : a ≠ dk.1 ∧ a ≠ dk.2 := ⟨fun z => w.f1.2 (z ▸ h), fun z => w.f2.2 (z ▸ h)⟩
theorem Wd.put {n : Nat} {a : Addr} {o' : HO} {ob' : Ob} (w : Wd K dk F H st) (hn : F.mu[n]? = some a) (ho : ObAt K dk F (L2.upd H a o') a ob') : Wd K dk F (L2.upd H a o') (st.put n ob') := by
  have hm := List.mem_of_getElem? hn
  obtain ⟨n1, n2⟩ := w.ndk hm
  have hln := mu_lt hn
  obtain ⟨fa, _⟩ := w.ob n a _ hn (List.getElem?_eq_getElem (by rw [← w.ml]; exact hln))
  refine ⟨fun b u e => ?_, by rw [upd_ne n1.symm]; exact w.d1, by rw [upd_ne n2.symm]; exact w.d2, w.f1, w.f2, w.ne, by rw [w.ml]; simp [S.put], w.nd, fun m b u h1 h2 => ?_⟩
  · rw [upd_ne (ne_of_none e fa)]; exact w.sub b u e
  · by_cases hmn : n = m
    · subst hmn
      rw [hn] at h1; cases h1
      have h2' : (st.ob.set n ob')[n]? = some u := h2
      rw [List.getElem?_set_self (by rw [← w.ml]; exact hln)] at h2'
      cases h2'
      exact ⟨fa, ho⟩
    · have h2' : (st.ob.set n ob')[m]? = some u := h2
      rw [List.getElem?_set_ne hmn] at h2'
      obtain ⟨q1, q2⟩ := w.ob m b u h1 h2'
      have nb : b ≠ a := fun z => hmn (by
        subst z
        exact (List.getElem?_inj hln w.nd).mp (hn.trans h1.symm))
      exact ⟨q1, q2.keep (fun _ e => by rw [upd_ne nb]; exact e) (Le.refl F)⟩
theorem Ext.put {n : Nat} {a : Addr} {o o' : HO} (x : Ext dk F0 H0 F H) (hn : F.mu[n]? = some a) (ha : H a = some o) (nf : ¬ Fro o) (nf' : ¬ Fro o') : Ext dk F0 H0 F (L2.upd H a o') := by
  have hm := List.mem_of_getElem? hn
  refine ⟨fun b u e n1 n2 n3 => ?_, x.f, x.n, fun b e z => ?_, x.u, fun b u e f => x.k b u (updK nf' b u e f) f⟩
  · have e' := x.h b u e n1 n2 n3
    by_cases nb : b = a
    · subst nb
      rw [ha] at e'; cases e'
      rcases n3 with n3 | n3
      · rcases x.u b hm with q | q
        · exact absurd q n3
        · rw [q] at e; cases e
      · exact absurd n3 nf
    · rw [upd_ne nb]; exact e'
  · by_cases nb : b = a
    · subst nb; rw [upd_same] at z; cases z
    · rw [upd_ne nb] at z; exact x.m b e z
theorem Good.put {n : Nat} {a : Addr} {o o' : HO} {ob' : Ob} (g : Good K dk H0 F0 F σ H env st) (hn : F.mu[n]? = some a) (ha : H a = some o) (nf : ¬ Fro o) (ho : ObAt K dk F (upd H a o') a ob')
    (nf' : ¬ Fro o' := by rintro ⟨_, _, z⟩; cases z) : Good K dk H0 F0 F σ (upd H a o') env (st.put n ob') := by
  refine ⟨g.wd.put hn ho, g.ext.put hn ha nf nf', g.len, fun i s e => ?_, g.dis⟩
  have q := g.sl i s e
  cases s with
  | un => trivial
  | val d => exact q
  | own ds =>
    obtain ⟨p, vs, h1, h2, h3, h4⟩ := q
    have np : p ≠ a := fun z => h3.2 (z ▸ List.mem_of_getElem? hn)
    exact ⟨p, vs, h1, h2.keep fun o e => by rw [upd_ne np]; exact e, h3, h4⟩
/-! new things of the store -/
def Fz.ad (F : Fz) (p : Addr) : Fz := ⟨F.hp, F.mu ++ [p]⟩
def S.ad (st : S) (o : Ob) : S := { st with ob := st.ob ++ [o] }
theorem Le.ad {p : Addr} : Le F (F.ad p) := ⟨Lh.refl _, [p], rfl⟩
theorem Good.ad {p : Addr} {o : HO} {ob : Ob} (g : Good K dk H0 F0 F σ H env st) (hp : H p = some o) (fp : F.out p) (h0 : H0 p = none) (n1 : p ≠ dk.1) (n2 : p ≠ dk.2)
    (no : ∀ (i : Nat) (ds : Own), env[i]? = some (.own ds) → σ[i]? ≠ some (some (.ref p))) (ho : ObAt K dk (F.ad p) H p ob) : Good K dk H0 F0 (F.ad p) σ H env (st.ad ob) := by
  have le : Le F (F.ad p) := Le.ad
  have w := g.wd
  refine ⟨⟨w.sub, w.d1, w.d2, ⟨w.f1.1, fun z => ?_⟩, ⟨w.f2.1, fun z => ?_⟩, w.ne, ?_, ?_, fun n a u h1 h2 => ?_⟩, ⟨g.ext.h, g.ext.f.trans le, g.ext.n, g.ext.m, fun a ha => ?_, g.ext.k⟩, g.len, fun i s e => ?_, g.dis⟩
  · rcases List.mem_append.mp z with z | z
    · exact w.f1.2 z
    · exact n1 (List.mem_singleton.mp z).symm
  · rcases List.mem_append.mp z with z | z
    · exact w.f2.2 z
    · exact n2 (List.mem_singleton.mp z).symm
  · simp [Fz.ad, S.ad, w.ml]
  · show (F.mu ++ [p]).Nodup
    rw [List.nodup_append]
    refine ⟨w.nd, by simp, fun a ha b hb z => fp.2 ?_⟩
    rw [List.mem_singleton.mp hb] at z
    exact z ▸ ha
  · have h1' : (F.mu ++ [p])[n]? = some a := h1
    have h2' : (st.ob ++ [ob])[n]? = some u := h2
    by_cases hl : n < F.mu.length
    · rw [List.getElem?_append_left hl] at h1'
      rw [List.getElem?_append_left (by rw [← w.ml]; exact hl)] at h2'
      obtain ⟨q1, q2⟩ := w.ob n a u h1' h2'
      exact ⟨q1, q2.keep (fun _ e => e) le⟩
    · have hn : n = F.mu.length := by
        have := mu_lt h1
        simp [Fz.ad] at this
        omega
      subst hn
      rw [List.getElem?_append_right (Nat.le_refl _), Nat.sub_self] at h1'
      rw [w.ml, List.getElem?_append_right (Nat.le_refl _), Nat.sub_self] at h2'
      cases h1'; cases h2'
      exact ⟨fp.1, ho⟩
  · have ha' : a ∈ F.mu ++ [p] := ha
    rcases List.mem_append.mp ha' with z | z
    · exact g.ext.u a z
    · rw [List.mem_singleton.mp z]; exact .inr h0
  · have q := g.sl i s e
    cases s with
    | un => trivial
    | val d => obtain ⟨v, h1, h2⟩ := q; exact ⟨v, h1, h2.mono le⟩
    | own ds =>
      obtain ⟨r, vs, h1, h2, h3, h4, h5, h6, h7⟩ := q
      have nr : r ≠ p := fun z => no i ds e (by rw [← z]; exact join_eq h1)
      refine ⟨r, vs, h1, h2, ⟨h3.1, fun z => ?_⟩, h4, h5, h6, h7.mono le⟩
      rcases List.mem_append.mp z with z | z
      · exact h3.2 z
      · exact nr (List.mem_singleton.mp z)
theorem Ext.ad {p : Addr} (x : Ext dk F H F' H') (hp : H p = none) : Ext dk F H (F'.ad p) H' :=
  ⟨x.h, x.f.trans Le.ad, x.n, x.m, fun a ha => by
    have ha' : a ∈ F'.mu ++ [p] := ha
    rcases List.mem_append.mp ha' with z | z
    · exact x.u a z
    · rw [List.mem_singleton.mp z]; exact .inr hp, x.k⟩
theorem ad_at (w : Wd K dk F H st) (p : Addr) : (F.ad p).mu[st.ob.length]? = some p := by
  show (F.mu ++ [p])[st.ob.length]? = some p
  rw [← w.ml, List.getElem?_append_right (Nat.le_refl _), Nat.sub_self]; rfl
/-- a new list, a new dict for the store -/
def stoL (f : MA) : ME := fun env st => (f env st).map fun p => (.ref p.2.ob.length, p.2.ad (.lst p.1))
theorem ImF.sto {te : TE} {f : MA} (h : ImF K te f) : Im K te (stoL f) := fun dk H0 F0 F σ H env st d st' g e Q q => by
  obtain ⟨⟨ds, s1⟩, h1, h2⟩ := mpd e
  cases h2
  refine h dk H0 F0 F σ H env st ds s1 g h1 Q fun p vs F' H' x g' hp fp hl r => ?_
  have nd := g.nedk hp
  exact q (.ref p) _ H' (x.ad hp) (g'.ad hl fp (g.fresh0 hp) nd.1 nd.2 (g.noown hp) (.lst hl (r.mono Le.ad))) (.ref (ad_at g'.wd p))
def stoK (f : MK) : ME := fun env st => (f env st).map fun p => (.ref p.2.ob.length, p.2.ad (.dic false p.1.1 p.1.2))
theorem ImK.sto {te : TE} {f : MK} (h : ImK K te f) : Im K te (stoK f) := fun dk H0 F0 F σ H env st d st' g e Q q => by
  obtain ⟨⟨⟨ks, ds⟩, s1⟩, h1, h2⟩ := mpd e
  cases h2
  refine h dk H0 F0 F σ H env st _ s1 g h1 Q fun p vs F' H' x g' hp fp hl hl2 r => ?_
  have nd := g.nedk hp
  exact q (.ref p) _ H' (x.ad hp) (g'.ad hl fp (g.fresh0 hp) nd.1 nd.2 (g.noown hp) (.dic hl hl2 (r.mono Le.ad))) (.ref (ad_at g'.wd p))
/-! e.append(x), e[k] = x, of a thing of the store -/
def refOf : D → Option Nat
  | .ref n => some n
  | _ => none
theorem refOf_eq {d : D} {n : Nat} (h : refOf d = some n) : d = .ref n := by
  cases d <;> first | (cases h; rfl) | cases h
def lstAt (st : S) (n : Nat) : Option (List D) := match st.ob[n]? with
  | some (.lst ds) => some ds
  | _ => none
theorem lstAt_eq {n : Nat} {ds : List D} (h : lstAt st n = some ds) : st.ob[n]? = some (.lst ds) := by
  unfold lstAt at h
  split at h
  · rename_i e; cases h; exact e
  · cases h
def dicAt (st : S) (n : Nat) : Option (List Key × List D) := match st.ob[n]? with
  | some (.dic false ks ds) => some (ks, ds)
  | _ => none
theorem dicAt_eq {n : Nat} {q : List Key × List D} (h : dicAt st n = some q) : st.ob[n]? = some (.dic false q.1 q.2) := by
  unfold dicAt at h
  split at h
  · rename_i e; cases h; exact e
  · cases h
theorem Wd.lstAt {n : Nat} {a : Addr} {ds : List D} (w : Wd K dk F H st) (hn : F.mu[n]? = some a) (h : lstAt st n = some ds) : ∃ vs, H a = some (.lst vs) ∧ Rps K dk F vs ds := by
  obtain ⟨_, q⟩ := w.ob n a _ hn (lstAt_eq h)
  cases q with
  | lst h r => exact ⟨_, h, r⟩
theorem Wd.dicAt {n : Nat} {a : Addr} {q : List Key × List D} (w : Wd K dk F H st) (hn : F.mu[n]? = some a) (h : dicAt st n = some q) : ∃ vs, H a = some (.dK (q.1.zip vs)) ∧ q.1.length = vs.length ∧ Rps K dk F vs q.2 := by
  obtain ⟨_, q⟩ := w.ob n a _ hn (dicAt_eq h)
  cases q with
  | dic h l r => exact ⟨_, h, l, r⟩
theorem Rp.refn {v : V} {n : Nat} (r : Rp K dk F v (.ref n)) : ∃ a, v = .ref a ∧ F.mu[n]? = some a := by
  cases r with
  | ref h => exact ⟨_, rfl, h⟩
def sappM (fo f : ME) : MS := fun env st => (fo env st).bind fun o => (refOf o.1).bind fun n => (lstAt o.2 n).bind fun _ => (f env o.2).bind fun p => (lstAt p.2 n).bind fun ds => if ds.length < sizeLine then some (.nx env, p.2.put n (.lst (ds ++ [p.1]))) else none
theorem is_sapp {to te : TE} {fo f : ME} (ho : Im K to fo) (h : Im K te f) : ImS K (tDrop (tBM K "list" rAppend to (tCons te tNil))) (sappM fo f) := fun dk H0 F0 F σ H env st fl st' g e E hd => by
  obtain ⟨⟨x, s1⟩, h1, e⟩ := bnd e
  obtain ⟨n, h2, e⟩ := bnd e
  obtain ⟨_, h0, e⟩ := bnd e
  obtain ⟨⟨d, s2⟩, h3, e⟩ := bnd e
  obtain ⟨ds, h4, e⟩ := bnd e
  split at e
  · rename_i hz
    cases e
    refine ho dk H0 F0 F σ H env st x s1 g h1 _ fun v F1 H1 x1 g1 r1 => ?_
    have hx : x = .ref n := refOf_eq h2
    subst hx
    obtain ⟨a, rfl, ha⟩ := r1.refn
    obtain ⟨vs0, hv0, _⟩ := g1.wd.lstAt ha h0
    refine ⟨.inl ⟨rfl, vs0, SqL.of hv0⟩, ?_⟩
    refine h dk H0 F0 F1 σ H1 env s1 d s2 g1 h3 _ fun u F2 H2 x2 g2 r2 => ?_
    have ha2 := x2.f.at ha
    obtain ⟨vs, hv, rv⟩ := g2.wd.lstAt ha2 h4
    refine ⟨a, vs, u, rfl, rfl, hv, by rw [rv.length]; exact hz, ?_⟩
    exact hd F2 σ _ (x1.f.trans x2.f) (g2.put ha2 hv (by rintro ⟨_, _, z⟩; cases z) (.lst upd_same (rv.append (Rps.one r2))))
  · cases e
def sputM (fo fk fv : ME) : MS := fun env st => (fv env st).bind fun p => (fo env p.2).bind fun o => (refOf o.1).bind fun n => (fk env o.2).bind fun q => (keyOf q.1).bind fun k => (dicAt q.2 n).bind fun z => if z.2.length < sizeLine then some (.nx env, q.2.put n (.dic false (putKs z.1 k) (putVs z.1 z.2 k p.1))) else none
theorem is_sput {to ty tv : TE} {fo fk fv : ME} (ho : Im K to fo) (hk : ImW K ty fk) (hv : Im K tv fv) : ImS K (sDPut to ty tv) (sputM fo fk fv) := fun dk H0 F0 F σ H env st fl st' g e E hd => by
  obtain ⟨⟨d, s1⟩, h1, e⟩ := bnd e
  obtain ⟨⟨x, s2⟩, h2, e⟩ := bnd e
  obtain ⟨n, h3, e⟩ := bnd e
  obtain ⟨⟨y, s3⟩, h4, e⟩ := bnd e
  obtain ⟨k, h5, e⟩ := bnd e
  obtain ⟨⟨ks, ds⟩, h6, e⟩ := bnd e
  split at e
  · rename_i hz
    cases e
    refine hv dk H0 F0 F σ H env st d s1 g h1 _ fun v F1 H1 x1 g1 r1 => ?_
    refine ho dk H0 F0 F1 σ H1 env s1 x s2 g1 h2 _ fun u F2 H2 x2 g2 r2 => ?_
    have hx : x = .ref n := refOf_eq h3
    subst hx
    obtain ⟨a, rfl, ha⟩ := r2.refn
    refine hk dk H0 F0 F2 σ H2 env s2 y s3 g2 h4 _ fun w F3 H3 x3 g3 r3 => ?_
    have ha3 := x3.f.at ha
    obtain ⟨vs, hvs, hl, rv⟩ := g3.wd.dicAt ha3 h6
    refine ⟨a, _, rfl, .inl ⟨ks.zip vs, k, hvs, keyOf_rw r3.w h5, ?_, rfl⟩, ?_⟩
    · have := rv.length
      rw [List.length_zip, hl, Nat.min_self, this]; exact hz
    · refine hd F3 σ _ (x1.f.trans (x2.f.trans x3.f)) (g3.put ha3 hvs (by rintro ⟨_, _, z⟩; cases z) ?_)
      exact .dic (by rw [upd_same]; exact congrArg (fun z => some (HO.dK z)) (put_zip hl)) (put_len hl) (putVs_rps (r1.mono (x2.f.trans x3.f)) rv)
  · cases e
/-! ### locks -/
theorem Good.lock {a : Addr} {od : Obj} {u : HO} (g : Good K dk H0 F0 F σ H env st) (no : ∀ (i : Nat) (ds : Own), env[i]? = some (.own ds) → σ[i]? ≠ some (some (.ref a))) (w : Wd K dk F (upd H a (.frz od u)) st') :
    Good K dk (upd H0 a (.frz od u)) F F σ (upd H a (.frz od u)) env st' := by
  refine ⟨w, ⟨fun b o e n1 n2 n3 => ?_, Le.refl F, fun _ h _ => h, fun b e z => ?_, fun _ h => .inl h, fun b o e f => ?_⟩, g.len, fun i s e => ?_, g.dis⟩
  · by_cases nb : b = a
    · subst nb; rw [upd_same] at e ⊢; exact e
    · rw [upd_ne nb] at e ⊢
      exact g.ext.h b o e n1 n2 (n3.imp (fun n3 z => n3 (g.ext.f.mem z)) id)
  · by_cases nb : b = a
    · subst nb; rw [upd_same] at z; cases z
    · rw [upd_ne nb] at e z; exact g.ext.m b e z
  · by_cases nb : b = a
    · subst nb; rw [upd_same] at e ⊢; exact e
    · rw [upd_ne nb] at e ⊢; exact g.ext.k b o e f
  · have q := g.sl i s e
    cases s with
    | un => trivial
    | val d => exact q
    | own ds =>
      obtain ⟨p, vs, h1, h2, h3, h4, h5⟩ := q
      have np : p ≠ a := fun z => no i ds e (by rw [← z]; exact join_eq h1)
      exact ⟨p, vs, h1, h2.keep fun o e => by rw [upd_ne np]; exact e, h3, by rw [upd_ne np]; exact h4, h5⟩
theorem Ext.unlock {a : Addr} {od : Obj} {u : HO} (x : Ext dk F0 H0 F H) (ha : H a = some u) (nf : ¬ Fro u) (y : Ext dk F (L2.upd H0 a (.frz od u)) F' H') : Ext dk F0 H0 F' (L2.upd H' a u) := by
  refine ⟨fun b o e n1 n2 n3 => ?_, x.f.trans y.f, fun b h1 h2 => ?_, fun b e z => ?_, fun b h => ?_, fun b o e f => ?_⟩
  · by_cases nb : b = a
    · subst nb
      have e' := x.h b o e n1 n2 n3
      rw [ha] at e'; rw [upd_same]; exact e'
    · rw [upd_ne nb]
      refine y.h b o (by rw [upd_ne nb]; exact e) n1 n2 (n3.imp (fun n3 z => ?_) id)
      rcases x.u b z with q | q
      · exact n3 q
      · rw [q] at e; cases e
  · refine y.n b (x.n b h1 h2) ?_
    by_cases nb : b = a
    · subst nb; rw [upd_same]; exact fun z => nomatch z
    · rw [upd_ne nb]; exact h2
  · by_cases nb : b = a
    · subst nb; rw [upd_same] at z; cases z
    · rw [upd_ne nb] at z; exact y.m b (by rw [upd_ne nb]; exact e) z
  · rcases y.u b h with q | q
    · exact x.u b q
    · refine .inr ?_
      by_cases nb : b = a
      · subst nb; rw [upd_same] at q; cases q
      · rw [upd_ne nb] at q; exact q
  · by_cases nb : b = a
    · subst nb; rw [upd_same] at e; cases e; exact absurd f nf
    · rw [upd_ne nb] at e
      have := y.k b o e f
      rw [upd_ne nb] at this; exact this
theorem Good.unlock {a : Addr} {od : Obj} {u : HO} (g : Good K dk H0 F0 F σ H env st) (ha : H a = some u) (nf : ¬ Fro u) (g' : Good K dk (upd H0 a (.frz od u)) F F' σ' H' env' st') (w : Wd K dk F' (upd H' a u) st'') : Good K dk H0 F0 F' σ' (upd H' a u) env' st'' := by
  refine ⟨w, g.ext.unlock ha nf g'.ext, g'.len, fun i s e => ?_, g'.dis⟩
  have q := g'.sl i s e
  cases s with
  | un => trivial
  | val d => exact q
  | own ds =>
    obtain ⟨p, vs, h1, h2, h3, h4, h5⟩ := q
    have np : p ≠ a := fun z => by rw [z, upd_same] at h4; cases h4
    exact ⟨p, vs, h1, h2.keep fun o e => by rw [upd_ne np]; exact e, h3, by rw [upd_ne np] at h4; exact h4, h5⟩
/-- what is locked stays -/
theorem Good.stays {a : Addr} {od : Obj} {u : HO} (g : Good K dk H0 F0 F σ H env st) (ha : H a = some (.frz od u)) (g' : Good K dk H0 F0 F' σ' H' env' st') : H' a = some (.frz od u) := by
  have n1 : a ≠ dk.1 := fun z => by rw [z, g.wd.d1] at ha; cases ha
  have n2 : a ≠ dk.2 := fun z => by rw [z, g.wd.d2] at ha; cases ha
  exact g'.ext.h _ _ (g.ext.k _ _ ha ⟨_, _, rfl⟩) n1 n2 (.inr ⟨_, _, rfl⟩)
theorem Wd.lockF {a : Addr} {od : Obj} {kvs : List (Key × V)} (w : Wd K dk F H st) (ha : F a = some (.dK kvs)) : Wd K dk F (L2.upd H a (.frz od (.dK kvs))) st := by
  have n1 : a ≠ dk.1 := fun z => by rw [z, w.f1.1] at ha; cases ha
  have n2 : a ≠ dk.2 := fun z => by rw [z, w.f2.1] at ha; cases ha
  refine ⟨fun b u e => ?_, by rw [upd_ne n1.symm]; exact w.d1, by rw [upd_ne n2.symm]; exact w.d2, w.f1, w.f2, w.ne, w.ml, w.nd, fun m b u h1 h2 => ?_⟩
  · by_cases nb : b = a
    · subst nb; rw [ha] at e; cases e; rw [upd_same]; exact .inr ⟨od, kvs, rfl, rfl⟩
    · rw [upd_ne nb]; exact w.sub b u e
  · obtain ⟨q1, q2⟩ := w.ob m b u h1 h2
    have nb : b ≠ a := fun z => by rw [z, ha] at q1; cases q1
    exact ⟨q1, q2.keep (fun _ e => by rw [upd_ne nb]; exact e) (Le.refl F)⟩
theorem Wd.unlockF {a : Addr} {kvs : List (Key × V)} (w : Wd K dk F H st) (ha : F a = some (.dK kvs)) : Wd K dk F (L2.upd H a (.dK kvs)) st := by
  have n1 : a ≠ dk.1 := fun z => by rw [z, w.f1.1] at ha; cases ha
  have n2 : a ≠ dk.2 := fun z => by rw [z, w.f2.1] at ha; cases ha
  refine ⟨fun b u e => ?_, by rw [upd_ne n1.symm]; exact w.d1, by rw [upd_ne n2.symm]; exact w.d2, w.f1, w.f2, w.ne, w.ml, w.nd, fun m b u h1 h2 => ?_⟩
  · by_cases nb : b = a
    · subst nb; rw [ha] at e; cases e; rw [upd_same]; exact .inl rfl
    · rw [upd_ne nb]; exact w.sub b u e
  · obtain ⟨q1, q2⟩ := w.ob m b u h1 h2
    have nb : b ≠ a := fun z => by rw [z, ha] at q1; cases q1
    exact ⟨q1, q2.keep (fun _ e => by rw [upd_ne nb]; exact e) (Le.refl F)⟩
/-! ### loops -/
/-- a loop over a walk that is good as long as all is good -/
theorem for_core {g : TG} {tb : TS} {t : MG} {b : MS} {is : List Nat} {ds : List D} {fl : Fl} {J : It} {E : Ends} (hg : ImG K g t is) (hb : ImS K tb b) (gd : Good K dk H0 F0 F σ H env st)
    (sd : ∀ (F2 : Fz) (σ2 : L2.St) (H2 : Hp) (env2 : Sg) (st2 : S), Le F F2 → Good K dk H0 F0 F2 σ2 H2 env2 st2 → ∀ i : Nat, (∀ d, ds[i]? = some d → J.go i H2 ∧ ∀ x H3, J.yld i H2 x H3 → ∃ F3, Px F2 H2 F3 H3 ∧ Rp K dk F3 x d) ∧ (ds.length ≤ i → J.stop i H2))
    (e : forL t b ds env st = some (fl, st')) (hd : Dn K dk H0 F0 F E st' fl) : ∀ (R : Prop), ((∃ W : Nat → Nat → L2.St → Hp → Prop, (∃ m, W 0 m σ H) ∧ ∀ i m σ H, W i m σ H → (J.stop i H ∧ E.nx σ H) ∨ (J.go i H ∧ ∃ Nx : L2.St → Hp → Prop, (∀ σ' H', Nx σ' H' → ∃ m', m' < m ∧ W (i + 1) m' σ' H') ∧ ∀ x H', J.yld i H x H' → g x σ H' fun σ2 H2 => tb ⟨Nx, E.rt, E.nx, Nx⟩ σ2 H2)) → R) → R := by
  intro R hR
  refine hR ?_
  let P : Nat → L2.St → Hp → Prop := fun i σ H => ∃ F2 env st, Le F F2 ∧ Good K dk H0 F0 F2 σ H env st ∧ forL t b (ds.drop i) env st = some (fl, st')
  refine ⟨fun i m σ H => m = ds.length - i ∧ i ≤ ds.length ∧ P i σ H, ⟨_, rfl, Nat.zero_le _, F, env, st, Le.refl F, gd, e⟩, ?_⟩
  rintro i m σ2 H2 ⟨rfl, hle, F2, env2, s2, le2, g2, e2⟩
  by_cases hlt : i < ds.length
  · have hdi : ds[i]? = some ds[i] := List.getElem?_eq_getElem hlt
    obtain ⟨hgo, hy⟩ := (sd F2 σ2 H2 env2 s2 le2 g2 i).1 _ hdi
    refine .inr ⟨hgo, P (i + 1), fun σ' H' hp => ⟨_, by omega, rfl, hlt, hp⟩, fun x H3 hx => ?_⟩
    obtain ⟨F3, px, rx⟩ := hy x H3 hx
    have g3 := g2.px px
    rw [List.drop_eq_getElem_cons hlt] at e2
    obtain ⟨env3, e3, e2⟩ := bnd e2
    obtain ⟨⟨fl3, s3⟩, e4, e2⟩ := bnd e2
    refine hg dk H0 F0 F3 σ2 H3 env2 s2 x _ env3 g3 rx e3 _ fun σ4 g4 _ => ?_
    refine hb dk H0 F0 F3 σ4 H3 env3 s2 fl3 s3 g4 e4 _ ?_
    cases fl3 with
    | nx e5 => exact fun F5 σ5 H5 l5 g5 => ⟨F5, e5, s3, (le2.trans px.f).trans l5, g5, e2⟩
    | ct e5 => exact fun F5 σ5 H5 l5 g5 => ⟨F5, e5, s3, (le2.trans px.f).trans l5, g5, e2⟩
    | bk e5 =>
      cases e2
      exact fun F5 σ5 H5 l5 g5 => hd F5 σ5 H5 ((le2.trans px.f).trans l5) g5
    | rt r =>
      cases e2
      exact hd
  · have ei : i = ds.length := by omega
    subst ei
    rw [List.drop_length] at e2
    cases e2
    exact .inl ⟨(sd F2 σ2 H2 env2 _ le2 g2 ds.length).2 (Nat.le_refl _), hd F2 σ2 H2 le2 g2⟩
end
end MD

set_option Elab.async false
set_option linter.all false
set_option maxRecDepth 100000
set_option maxHeartbeats 1000000
namespace MD
open PySem L2

/-- the walk goes through these data, while what stood stays -/
def StdyX (K : Fg) (dk : Dk) (F : Fz) (H : Hp) (J : It) (ds : List D) : Prop := ∀ (F1 : Fz) (H1 : Hp) (st : S), Le F F1 → Ext dk F H F1 H1 → Wd K dk F1 H1 st → ∀ i : Nat,
  (∀ d, ds[i]? = some d → J.go i H1 ∧ ∀ x H2, J.yld i H1 x H2 → ∃ F2, Px F1 H1 F2 H2 ∧ Rp K dk F2 x d) ∧ (ds.length ≤ i → J.stop i H1)
def ImIX (K : Fg) (wi : TI) (f : MI) : Prop := ∀ (dk : Dk) (H0 : Hp) (F0 F : Fz) (σ : L2.St) (H : Hp) (env : Sg) (st : S) (ds : List D) (st' : S), Good K dk H0 F0 F σ H env st → f env st = some (ds, st') →
  ∀ R : It → Hp → Prop, (∀ J F' H', Ext dk F H F' H' → Good K dk H0 F0 F' σ H' env st' → StdyX K dk F' H' J ds → R J H') → wi σ H R
section
variable {K : Fg} {dk : Dk} {F F' F0 : Fz} {H H' H0 : Hp} {σ σ' : L2.St} {env env' : Sg} {st st' st'' : S}
theorem if_compX {wi : TI} {g : TG} {tt : TT} {te : TE} {vs : List Nat} {it : MI} {t : MG} {c : MT} {f : ME} {is : List Nat} (hi : ImIX K wi it) (hg : ImG K g t is) (ht : ImT K tt c) (he : Im K te f) (hv : ∀ i ∈ is, i ∈ vs) :
    ImF K (tLc wi g tt te vs) (compM it t c f vs) := fun dk H0 F0 F σ H env st out st' gd e Q q => by
  obtain ⟨⟨ds, s1⟩, e1, e⟩ := bnd e
  replace e : (if ds.length ≤ sizeLine then compL t c f (wipeE env vs) ds s1 else none) = some (out, st') := e
  split at e
  · rename_i hz
    refine hi dk H0 F0 F σ H env st ds s1 gd e1 _ fun J F1 H1 x1 g1 sd Dn hD => ?_
    have hDH : H Dn = none := by
      cases w : H Dn with
      | none => rfl
      | some o => exact absurd hD (x1.m Dn (by rw [w]; exact fun z => nomatch z))
    have nd := g1.nedk hD
    have h0D := g1.fresh0 hD
    have noD := g1.noown hD
    have noW : ∀ (j : Nat) (es : Own), (wipeE env vs)[j]? = some (.own es) → (wipe σ vs)[j]? ≠ some (some (.ref Dn)) := fun j es e => by
      rcases wipeE_get e with z | ⟨z1, z2⟩
      · cases z
      · rw [wipe_off z2]; exact noD j es z1
    let P : Nat → Hp → Prop := fun i H => ∃ F2 st2 acc done rest, Le F1 F2 ∧ Ext dk F1 H1 F2 H ∧ Good K dk H0 F0 F2 (wipe σ vs) H (wipeE env vs) st2 ∧ H Dn = some (.lst acc) ∧ F2.out Dn ∧ acc.length ≤ i ∧ Rps K dk F2 acc done ∧
      compL t c f (wipeE env vs) (ds.drop i) st2 = some (rest, st') ∧ done ++ rest = out
    have px0 : Px F1 H1 F1 (upd H1 Dn (.lst [])) := Px.lay g1.wd.sub hD
    refine ⟨fun i m H => m = ds.length - i ∧ i ≤ ds.length ∧ P i H, ⟨_, rfl, Nat.zero_le _, F1, s1, [], [], out, Le.refl F1, px0.ext, (g1.wiped).px px0, upd_same, g1.wd.out hD, Nat.zero_le _, .nil, e, rfl⟩, ?_⟩
    rintro i m H2 ⟨rfl, hle, F2, s2, acc, done, rest, le2, x2, g2, hacc, f2, hal, racc, e2, eo⟩
    by_cases hlt : i < ds.length
    · have hdi : ds[i]? = some ds[i] := List.getElem?_eq_getElem hlt
      obtain ⟨hgo, hy⟩ := (sd F2 H2 s2 le2 x2 g2.wd i).1 _ hdi
      refine .inr ⟨hgo, P (i + 1), fun H' hp => ⟨_, by omega, rfl, hlt, hp⟩, fun x H3 hx => ?_⟩
      obtain ⟨F3, px, rx⟩ := hy x H3 hx
      have g3 := g2.px px
      rw [List.drop_eq_getElem_cons hlt] at e2
      obtain ⟨env3, e3, e2⟩ := bnd e2
      obtain ⟨⟨b, s4⟩, e4, e2⟩ := bnd e2
      refine hg dk H0 F0 F3 (wipe σ vs) H3 (wipeE env vs) s2 x _ env3 g3 rx e3 _ fun σ4 g4 tg => ?_
      have same : ∀ j : Nat, j ∉ vs → σ4[j]? = (wipe σ vs)[j]? ∧ env3[j]? = (wipeE env vs)[j]? := fun j hj => tg.same j fun z => hj (hv j z)
      have weq : wipe σ4 vs = wipe σ vs := by
        rw [wipe_eq tg.len fun j hj => (same j hj).1, wipe_wipe]
      have nD3 : H2 Dn ≠ none := by rw [hacc]; exact fun z => nomatch z
      have back : ∀ {F5 : Fz} {H5 : Hp} {st5 : S}, Good K dk H0 F0 F5 σ4 H5 env3 st5 → Good K dk H0 F0 F5 (wipe σ vs) H5 (wipeE env vs) st5 := fun {F5 H5 st5} g5 =>
        g5.reslot (by rw [wipe_length, wipeE_length]; exact gd.len) fun j s es => by
          rcases wipeE_get es with z | ⟨z1, z2⟩
          · exact .inl z
          · exact .inr ⟨(same j z2).2.trans es, (same j z2).1.symm⟩
      refine ⟨weq, ?_⟩
      refine ht dk H0 F0 F3 σ4 H3 env3 s2 b s4 g4 e4 _ fun F5 H5 x5 g5 => ?_
      have x25 : Ext dk F2 H2 F5 H5 := px.ext.trans x5
      have a5 : H5 Dn = some (.lst acc) := x25.h _ _ hacc nd.1 nd.2 (.inl f2.2)
      have f5 : F5.out Dn := x25.out f2 nD3
      cases b with
      | false =>
        exact ⟨F5, s4, acc, done, rest, le2.trans x25.f, x2.trans x25, back g5, a5, f5, by omega, racc.mono x25.f, e2, eo⟩
      | true =>
        replace e2 : ((f env3 s4).bind fun q => (compL t c f (wipeE env vs) (ds.drop (i + 1)) q.2).map fun r => (q.1 :: r.1, r.2)) = some (rest, st') := e2
        obtain ⟨⟨y, s6⟩, e6, e2⟩ := bnd e2
        obtain ⟨⟨rest', s7⟩, e7, e2⟩ := mpd e2
        cases e2
        refine he dk H0 F0 F5 σ4 H5 env3 s4 y s6 g5 e6 _ fun v F6 H6 x6 g6 r6 => ?_
        have x26 := x25.trans x6
        have a6 : H6 Dn = some (.lst acc) := x26.h _ _ hacc nd.1 nd.2 (.inl f2.2)
        have f6 : F6.out Dn := x26.out f2 nD3
        refine ⟨acc, a6, by omega, F6, s6, acc ++ [v], done ++ [y], rest', le2.trans x26.f, ?_, (back g6).mutT a6 f6 h0D nd.1 nd.2 noW, upd_same, f6, by simp; omega, (racc.mono x26.f).append (Rps.one r6), e7, by rw [← eo]; simp⟩
        exact (x2.trans x26).upd hD
    · have ei : i = ds.length := by omega
      subst ei
      rw [List.drop_length] at e2
      cases e2
      refine .inl ⟨(sd F2 H2 _ le2 x2 g2.wd ds.length).2 (Nat.le_refl _), ?_⟩
      rw [List.append_nil] at eo
      subst eo
      have g9 : Good K dk H0 F0 F2 σ H2 env st' := by
        have gx := g1.step x2 g2.wd
        exact gx
      exact q Dn acc F2 H2 (x1.trans x2) g9 hDH f2 hacc racc
  · cases e
/-! ### {k: v for ..} -/
def dcL (t : MG) (c : MT) (fk fv : ME) (env : Sg) : List D → List Key × List D → S → Option ((List Key × List D) × S)
  | [], a, st => some (a, st)
  | d :: ds, a, st => (t d env).bind fun e => (c e st).bind fun p => if p.1 then (fk e p.2).bind fun x => (keyOf x.1).bind fun k => (fv e x.2).bind fun y => dcL t c fk fv env ds (putKs a.1 k, putVs a.1 a.2 k y.1) y.2 else dcL t c fk fv env ds a p.2
def dcM (it : MI) (t : MG) (c : MT) (fk fv : ME) (vs : List Nat) : MK := fun env st => (it env st).bind fun p => if p.1.length ≤ sizeLine then dcL t c fk fv (wipeE env vs) p.1 ([], []) p.2 else none
theorem putKs_len {ks : List Key} {k : Key} : (putKs ks k).length ≤ ks.length + 1 := by
  unfold putKs
  split
  · omega
  · simp
theorem ik_dc {wi : TI} {g : TG} {tt : TT} {tk tv : TE} {vs : List Nat} {it : MI} {t : MG} {c : MT} {fk fv : ME} {is : List Nat} (hi : ImI K wi it) (hg : ImG K g t is) (ht : ImT K tt c) (hk : Im K tk fk) (he : Im K tv fv) (hv : ∀ i ∈ is, i ∈ vs) :
    ImK K (tDc wi g tt tk tv vs) (dcM it t c fk fv vs) := fun dk H0 F0 F σ H env st out st' gd e Q q => by
  obtain ⟨⟨ds, s1⟩, e1, e⟩ := bnd e
  replace e : (if ds.length ≤ sizeLine then dcL t c fk fv (wipeE env vs) ds ([], []) s1 else none) = some (out, st') := e
  split at e
  · rename_i hz
    refine hi dk H0 F0 F σ H env st ds s1 gd e1 _ fun J F1 H1 x1 g1 sd Dn hD => ?_
    have hDH : H Dn = none := x1.back hD
    have nd := g1.nedk hD
    have h0D := g1.fresh0 hD
    have noD := g1.noown hD
    have noW : ∀ (j : Nat) (es : Own), (wipeE env vs)[j]? = some (.own es) → (wipe σ vs)[j]? ≠ some (some (.ref Dn)) := fun j es e => by
      rcases wipeE_get e with z | ⟨z1, z2⟩
      · cases z
      · rw [wipe_off z2]; exact noD j es z1
    let P : Nat → Hp → Prop := fun i H => ∃ F2 st2 acc ks ks', Le F1 F2 ∧ Ext dk F1 H1 F2 H ∧ Good K dk H0 F0 F2 (wipe σ vs) H (wipeE env vs) st2 ∧ H Dn = some (.dK (ks.zip acc)) ∧ ks.length = acc.length ∧ F2.out Dn ∧ acc.length ≤ i ∧ Rps K dk F2 acc ks' ∧
      dcL t c fk fv (wipeE env vs) (ds.drop i) (ks, ks') st2 = some (out, st')
    have px0 : Px F1 H1 F1 (upd H1 Dn (.dK [])) := Px.lay g1.wd.sub hD
    refine ⟨fun i m H => m = ds.length - i ∧ i ≤ ds.length ∧ P i H, ⟨_, rfl, Nat.zero_le _, F1, s1, [], [], [], Le.refl F1, px0.ext, (g1.wiped).px px0, upd_same, rfl, g1.wd.out hD, Nat.zero_le _, .nil, e⟩, ?_⟩
    rintro i m H2 ⟨rfl, hle, F2, s2, acc, ks, ks', le2, x2, g2, hacc, hkl, f2, hal, racc, e2⟩
    by_cases hlt : i < ds.length
    · have hdi : ds[i]? = some ds[i] := List.getElem?_eq_getElem hlt
      obtain ⟨hgo, hy⟩ := (sd F2 H2 s2 le2 g2.wd i).1 _ hdi
      refine .inr ⟨hgo, P (i + 1), fun H' hp => ⟨_, by omega, rfl, hlt, hp⟩, fun x H3 hx => ?_⟩
      obtain ⟨F3, px, rx⟩ := hy x H3 hx
      have g3 := g2.px px
      rw [List.drop_eq_getElem_cons hlt] at e2
      obtain ⟨env3, e3, e2⟩ := bnd e2
      obtain ⟨⟨b, s4⟩, e4, e2⟩ := bnd e2
      refine hg dk H0 F0 F3 (wipe σ vs) H3 (wipeE env vs) s2 x _ env3 g3 rx e3 _ fun σ4 g4 tg => ?_
      have same : ∀ j : Nat, j ∉ vs → σ4[j]? = (wipe σ vs)[j]? ∧ env3[j]? = (wipeE env vs)[j]? := fun j hj => tg.same j fun z => hj (hv j z)
      have weq : wipe σ4 vs = wipe σ vs := by
        rw [wipe_eq tg.len fun j hj => (same j hj).1, wipe_wipe]
      have nD3 : H2 Dn ≠ none := nn hacc
      have back : ∀ {F5 : Fz} {H5 : Hp} {st5 : S}, Good K dk H0 F0 F5 σ4 H5 env3 st5 → Good K dk H0 F0 F5 (wipe σ vs) H5 (wipeE env vs) st5 := fun {F5 H5 st5} g5 =>
        g5.reslot (by rw [wipe_length, wipeE_length]; exact gd.len) fun j s es => by
          rcases wipeE_get es with z | ⟨z1, z2⟩
          · exact .inl z
          · exact .inr ⟨(same j z2).2.trans es, (same j z2).1.symm⟩
      refine ⟨weq, ?_⟩
      refine ht dk H0 F0 F3 σ4 H3 env3 s2 b s4 g4 e4 _ fun F5 H5 x5 g5 => ?_
      have x25 : Ext dk F2 H2 F5 H5 := px.ext.trans x5
      have a5 : H5 Dn = some (.dK (ks.zip acc)) := x25.h _ _ hacc nd.1 nd.2 (.inl f2.2)
      have f5 : F5.out Dn := x25.out f2 nD3
      cases b with
      | false =>
        exact ⟨F5, s4, acc, ks, ks', le2.trans x25.f, x2.trans x25, back g5, a5, hkl, f5, by omega, racc.mono x25.f, e2⟩
      | true =>
        replace e2 : ((fk env3 s4).bind fun x => (keyOf x.1).bind fun k => (fv env3 x.2).bind fun y => dcL t c fk fv (wipeE env vs) (ds.drop (i + 1)) (putKs ks k, putVs ks ks' k y.1) y.2) = some (out, st') := e2
        obtain ⟨⟨y, s6⟩, e6, e2⟩ := bnd e2
        obtain ⟨k, ek, e2⟩ := bnd e2
        obtain ⟨⟨z, s7⟩, e7, e2⟩ := bnd e2
        refine hk dk H0 F0 F5 σ4 H5 env3 s4 y s6 g5 e6 _ fun v F6 H6 x6 g6 r6 => ?_
        refine he dk H0 F0 F6 σ4 H6 env3 s6 z s7 g6 e7 _ fun u F7 H7 x7 g7 r7 => ?_
        have x27 := (x25.trans x6).trans x7
        have a7 : H7 Dn = some (.dK (ks.zip acc)) := x27.h _ _ hacc nd.1 nd.2 (.inl f2.2)
        have f7 : F7.out Dn := x27.out f2 nD3
        have hzl : (ks.zip acc).length = acc.length := by rw [List.length_zip, hkl, Nat.min_self]
        refine ⟨ks.zip acc, k, keyOf_rw (H := H6) (.rp r6) ek, a7, by rw [hzl]; omega, F7, s7, putVs ks acc k u, putKs ks k, putVs ks ks' k z, le2.trans x27.f, (x2.trans x27).upd hD, (back g7).mutT a7 f7 h0D nd.1 nd.2 noW, by rw [upd_same]; exact congrArg (fun z => some (HO.dK z)) (put_zip hkl), put_len hkl, f7, ?_, putVs_rps r7 (racc.mono x27.f), e2⟩
        rw [← put_len hkl]
        have := putKs_len (ks := ks) (k := k)
        omega
    · have ei : i = ds.length := by omega
      subst ei
      rw [List.drop_length] at e2
      cases e2
      refine .inl ⟨(sd F2 H2 _ le2 g2.wd ds.length).2 (Nat.le_refl _), ?_⟩
      have g9 : Good K dk H0 F0 F2 σ H2 env st' := g1.step x2 g2.wd
      exact q Dn acc F2 H2 (x1.trans x2) g9 hDH f2 hacc hkl racc
  · cases e
/-! ### walks over the keys of a dict -/
/-- an expression that only looks: a name, a field -/
def Pth (K : Fg) (te : TE) (f : ME) : Prop := ∀ (dk : Dk) (H0 : Hp) (F0 F : Fz) (σ : L2.St) (H : Hp) (env : Sg) (st : S) (d : D) (st' : S), Good K dk H0 F0 F σ H env st → f env st = some (d, st') →
  st' = st ∧ ∃ v, Rp K dk F v d ∧ (∀ Q : VK, Q v H → te σ H Q) ∧ ∀ (a : Addr) (od : Obj) (kvs : List (Key × V)), H a = some (.dK kvs) → ∀ Q : VK, Q v (upd H a (.frz od (.dK kvs))) → te σ (upd H a (.frz od (.dK kvs))) Q
theorem pth_var (i : Nat) : Pth K (tVar i) (rd i) := fun dk H0 F0 F σ H env st d st' g e => by
  unfold rd at e
  split at e
  · rename_i d' he
    cases e
    obtain ⟨v, h1, h2⟩ := g.sl i _ he
    exact ⟨rfl, v, h2, fun Q q => ⟨v, join_eq h1, q⟩, fun a od kvs _ Q q => ⟨v, join_eq h1, q⟩⟩
  · cases e
theorem itk_ok {a : Addr} {od : Obj} {ks : List Key} {vs : List V} (hl : ks.length = vs.length) (w : Wd K dk F H st) (ha : H a = some (.frz od (.dK (ks.zip vs)))) (i : Nat) :
    (∀ d, (ks.map keyD)[i]? = some d → (Itk a od (ks.zip vs)).go i H ∧ ∀ x H3, (Itk a od (ks.zip vs)).yld i H x H3 → ∃ F3, Px F H F3 H3 ∧ Rp K dk F3 x d) ∧ ((ks.map keyD).length ≤ i → (Itk a od (ks.zip vs)).stop i H) := by
  have hz : (ks.zip vs).length = ks.length := by rw [List.length_zip, hl, Nat.min_self]
  refine ⟨fun d hd => ?_, fun h => ⟨ha, by rw [hz]; simpa using h⟩⟩
  rw [List.getElem?_map] at hd
  obtain ⟨k, hk, rfl⟩ := mpd hd
  have hj : i < ks.length := by
    by_cases hl : i < ks.length
    · exact hl
    · rw [List.getElem?_eq_none (by omega)] at hk; cases hk
  refine ⟨⟨ha, by rw [hz]; exact hj⟩, fun y H2 hy => ?_⟩
  obtain ⟨e1, k', v', hkv, e2⟩ := hy
  subst e1 e2
  have : k' = k := by
    have hh := congrArg (Option.map Prod.fst) hkv
    rw [← List.getElem?_map, List.map_fst_zip (by omega), hk] at hh
    exact (Option.some.inj hh).symm
  subst this
  exact ⟨F, Px.refl w.sub, keyD_rp k'⟩
theorem for_keys {te : TE} {g : TG} {tb : TS} {t : MG} {b : MS} {is : List Nat} {a : Addr} {od : Obj} {ks : List Key} {vs : List V} {fl : Fl} {E : Ends} (hg : ImG K g t is) (hb : ImS K tb b) (gd : Good K dk H0 F0 F σ H env st)
    (ha : H a = some (.frz od (.dK (ks.zip vs)))) (hl : ks.length = vs.length) (hte : ∀ Q : VK, Q (.ref a) H → te σ H Q) (e : forL t b (ks.map keyD) env st = some (fl, st')) (hd : Dn K dk H0 F0 F E st' fl) : tFor (iKeys te) g tb E σ H := by
  refine hte _ ⟨a, od, rfl, .inl ⟨_, ha, ?_⟩⟩
  exact for_core hg hb gd (fun F2 σ2 H2 env2 st2 le g2 i => itk_ok hl g2.wd (gd.stays ha g2) i) e hd _ id
def tForK (te : TE) (g : TG) (tb : TS) : TS := fun E σ H => tLock (tFor (iKeys te) g tb) E σ H ∨ tFor (iKeys te) g tb E σ H
def unl (st : S) (n : Nat) : S := match st.ob[n]? with
  | some (.dic _ ks ds) => st.put n (.dic false ks ds)
  | _ => st
def lck (st : S) (n : Nat) : S := match st.ob[n]? with
  | some (.dic _ ks ds) => st.put n (.dic true ks ds)
  | _ => st
def forK (f : ME) (t : MG) (b : MS) : MS := fun env st => (f env st).bind fun p => match p.1 with
  | .dic ks _ => forL t b (ks.map keyD) env st
  | .ref n => match st.ob[n]? with
    | some (.dic false ks _) => (forL t b (ks.map keyD) env (lck st n)).map fun r => (r.1, unl r.2 n)
    | some (.dic true ks _) => forL t b (ks.map keyD) env st
    | _ => none
  | _ => none
theorem nfk {kvs : List (Key × V)} : ¬ Fro (.dK kvs) := by rintro ⟨_, _, z⟩; cases z
theorem Wd.lckS {n : Nat} {a : Addr} {od : Obj} {ks : List Key} {vs : List V} {ds : List D} (w : Wd K dk F H st) (hn : F.mu[n]? = some a) (ho : st.ob[n]? = some (.dic false ks ds)) (hl : ks.length = vs.length) (r : Rps K dk F vs ds) :
    Wd K dk F (L2.upd H a (.frz od (.dK (ks.zip vs)))) (lck st n) := by
  unfold lck
  rw [ho]
  exact w.put hn (.lck upd_same hl r)
theorem Wd.unlS {n : Nat} {a : Addr} {od : Obj} {kvs : List (Key × V)} (w : Wd K dk F H st) (hn : F.mu[n]? = some a) (ha : H a = some (.frz od (.dK kvs))) : Wd K dk F (L2.upd H a (.dK kvs)) (unl st n) := by
  have hlt : n < st.ob.length := by rw [← w.ml]; exact mu_lt hn
  obtain ⟨q1, q2⟩ := w.ob n a _ hn (List.getElem?_eq_getElem hlt)
  unfold unl
  rw [List.getElem?_eq_getElem hlt]
  generalize st.ob[n] = o at q2
  cases q2 with
  | lst h r => rw [ha] at h; cases h
  | dic h l r => rw [ha] at h; cases h
  | lck h l r =>
    rw [ha] at h
    cases h
    exact w.put hn (.dic upd_same l r)
  | ins c h l r => rw [ha] at h; cases h
  | nkd h _ _ _ _ _ _ => rw [ha] at h; cases h
theorem Dn.unlock {a : Addr} {od : Obj} {u : HO} {fl : Fl} {E : Ends} (g : Good K dk H0 F0 F σ H env st) (ha : H a = some u) (nf : ¬ Fro u) (hs : ∀ F' H', Wd K dk F' H' st' → Le F F' → H' a = some (.frz od u) → Wd K dk F' (L2.upd H' a u) st'')
    (n1 : a ≠ dk.1) (n2 : a ≠ dk.2) (hd : Dn K dk H0 F0 F E st'' fl) :
    Dn K dk (L2.upd H0 a (.frz od u)) F F ⟨fun σ' H' => H' a = some (.frz od u) ∧ E.nx σ' (L2.upd H' a u), fun v H' => H' a = some (.frz od u) ∧ E.rt v (L2.upd H' a u), fun σ' H' => H' a = some (.frz od u) ∧ E.bk σ' (L2.upd H' a u), fun σ' H' => H' a = some (.frz od u) ∧ E.ct σ' (L2.upd H' a u)⟩ st' fl := by
  have key : ∀ {F' : Fz} {H' : Hp}, Ext dk F (L2.upd H0 a (.frz od u)) F' H' → H' a = some (.frz od u) := fun x => x.h _ _ upd_same n1 n2 (.inr ⟨_, _, rfl⟩)
  cases fl with
  | nx env' => exact fun F' σ' H' le g' => ⟨key g'.ext, hd F' σ' _ le (g.unlock ha nf g' (hs F' H' g'.wd le (key g'.ext)))⟩
  | bk env' => exact fun F' σ' H' le g' => ⟨key g'.ext, hd F' σ' _ le (g.unlock ha nf g' (hs F' H' g'.wd le (key g'.ext)))⟩
  | ct env' => exact fun F' σ' H' le g' => ⟨key g'.ext, hd F' σ' _ le (g.unlock ha nf g' (hs F' H' g'.wd le (key g'.ext)))⟩
  | rt d => exact fun v F' H' x w r => ⟨key x, hd v F' _ (g.ext.unlock ha nf x) (hs F' H' w x.f (key x)) r⟩
theorem is_forK {te : TE} {f : ME} {g : TG} {tb : TS} {t : MG} {b : MS} {is : List Nat} (hp : Pth K te f) (hg : ImG K g t is) (hb : ImS K tb b) : ImS K (tForK te g tb) (forK f t b) := fun dk H0 F0 F σ H env st fl st' gd e E hd => by
  obtain ⟨⟨d, s1⟩, e1, e⟩ := bnd e
  obtain ⟨es, v, r, q1, q2⟩ := hp dk H0 F0 F σ H env st d s1 gd e1
  cases d with
  | dic ks ds =>
    dsimp only at e
    cases r with
    | @dic a _ vs _ ha hl r =>
      have n1 : a ≠ dk.1 := fun z => by rw [z, gd.wd.f1.1] at ha; cases ha
      have n2 : a ≠ dk.2 := fun z => by rw [z, gd.wd.f2.1] at ha; cases ha
      have no : ∀ (i : Nat) (ds : Own), env[i]? = some (.own ds) → σ[i]? ≠ some (some (.ref a)) := fun i ds hi hs => by
        obtain ⟨p, _, h1, _, h3, _⟩ := gd.sl i _ hi
        rw [hs] at h1
        cases h1
        have h31 := h3.1
        rw [ha] at h31; cases h31
      rcases gd.wd.sub a _ ha with hH | ⟨od, kvs, ek, hH⟩
      · refine .inl ⟨a, _, hH, trivial, fun od => ?_⟩
        have gl := gd.lock (od := od) no (gd.wd.lockF ha)
        refine for_keys hg hb gl upd_same hl (q2 a od _ hH) e (Dn.unlock gd hH nfk (fun F' H' w le _ => w.unlockF (le.h _ _ ha)) n1 n2 hd)
      · exact .inr (for_keys hg hb gd hH hl q1 e hd)
  | ref n =>
    cases r with
    | @ref a _ hn =>
      have hm := List.mem_of_getElem? hn
      obtain ⟨n1, n2⟩ := gd.wd.ndk hm
      have no : ∀ (i : Nat) (ds : Own), env[i]? = some (.own ds) → σ[i]? ≠ some (some (.ref a)) := fun i ds hi hs => by
        obtain ⟨p, _, h1, _, h3, _⟩ := gd.sl i _ hi
        rw [hs] at h1
        cases h1
        exact h3.2 hm
      dsimp only at e
      split at e
      · rename_i ks ds ho
        obtain ⟨⟨fl2, s2⟩, e2, e⟩ := mpd e
        cases e
        obtain ⟨_, ob⟩ := gd.wd.ob n a _ hn ho
        cases ob with
        | @dic _ vs _ hH hl r =>
          refine .inl ⟨a, _, hH, trivial, fun od => ?_⟩
          have gl := gd.lock (od := od) no (gd.wd.lckS hn ho hl r)
          refine for_keys hg hb gl upd_same hl (q2 a od _ hH) e2 (Dn.unlock gd hH nfk (fun F' H' w le hf => w.unlS (le.at hn) hf) n1 n2 hd)
      · rename_i ks ds ho
        obtain ⟨_, ob⟩ := gd.wd.ob n a _ hn ho
        cases ob with
        | lck hH hl r => exact .inr (for_keys hg hb gd hH hl q1 e hd)
      · cases e
  | _ => cases e
/-! comprehensions over the keys of a frozen dict -/
def keysI (f : ME) : MI := fun env st => (f env st).bind fun p => (isDicD p.1).map fun q => (q.1.map keyD, p.2)
def tLcK (te : TE) (g : TG) (tt : TT) (tv : TE) (vs : List Nat) : TE := fun σ H Q => tLockE (tLc (iKeys te) g tt tv vs) σ H Q ∨ tLc (iKeys te) g tt tv vs σ H Q
/-- the walk over a locked dict -/
def wK (te : TE) : TI := iKeys te
theorem if_compK {te : TE} {f : ME} {g : TG} {tt : TT} {tv : TE} {vs : List Nat} {t : MG} {c : MT} {fv : ME} {is : List Nat} (hp : Pth K te f) (hg : ImG K g t is) (ht : ImT K tt c) (he : Im K tv fv) (hv : ∀ i ∈ is, i ∈ vs) :
    ImF K (tLcK te g tt tv vs) (compM (keysI f) t c fv vs) := fun dk H0 F0 F σ H env st out st' gd e Q q => by
  obtain ⟨⟨ds, s1⟩, e1, e'⟩ := bnd e
  obtain ⟨⟨d, s2⟩, e2, e3⟩ := bnd e1
  obtain ⟨⟨ks, es⟩, e4, e5⟩ := mpd e3
  cases e5
  obtain ⟨hs, v, r, q1, q2⟩ := hp dk H0 F0 F σ H env st d _ gd e2
  have hs' : s2 = st := hs
  subst hs'
  have hd' : d = .dic ks es := isDicD_eq e4
  subst hd'
  -- the comprehension at a heap where the dict is locked
  have core : ∀ {a : Addr} {od : Obj} {us : List V} {H0' H1 : Hp} {F0' : Fz} (Q' : VK), Good K dk H0' F0' F σ H1 env s2 → H1 a = some (.frz od (.dK (ks.zip us))) → ks.length = us.length → (∀ Q : VK, Q (.ref a) H1 → te σ H1 Q) →
      (∀ p vs F' H', Ext dk F H1 F' H' → Good K dk H0' F0' F' σ H' env st' → H1 p = none → F'.out p → H' p = some (.lst vs) → Rps K dk F' vs out → Q' (.ref p) H') → tLc (iKeys te) g tt tv vs σ H1 Q' := by
    intro a od us H0' H1 F0' Q' g1 ha hl hte hq
    have n1 : a ≠ dk.1 := fun z => by rw [z, g1.wd.d1] at ha; cases ha
    have n2 : a ≠ dk.2 := fun z => by rw [z, g1.wd.d2] at ha; cases ha
    let wi : TI := fun σ' H' R => σ' = σ → H' = H1 → iKeys te σ' H' R
    have hx : tLc wi g tt tv vs σ H1 Q' := if_compX (wi := fun σ' H' R => σ' = σ → H' = H1 → iKeys te σ' H' R) (it := fun _ s => some (ks.map keyD, s)) (fun dk2 H02 F02 F2 σ2 H2 env2 st2 ds2 st2' gd2 ee2 R qq => by
        intro z1 z2
        cases ee2
        subst z1 z2
        exact hte _ ⟨a, od, rfl, .inl ⟨_, ha, qq _ F2 _ (Ext.refl _ _) gd2 fun F3 H3 st3 le x w i => by
          have n1' : a ≠ dk2.1 := fun z => by rw [z, gd2.wd.d1] at ha; cases ha
          have n2' : a ≠ dk2.2 := fun z => by rw [z, gd2.wd.d2] at ha; cases ha
          exact itk_ok hl w (x.h _ _ ha n1' n2' (.inr ⟨_, _, rfl⟩)) i⟩⟩) hg ht he hv dk H0' F0' F σ H1 env s2 out st' g1 e' Q' hq
    exact hx rfl rfl
  cases r with
  | @dic a _ us _ ha hl r =>
    rcases gd.wd.sub a _ ha with hH | ⟨od, kvs, ek, hH⟩
    · have no : ∀ (i : Nat) (ds : Own), env[i]? = some (.own ds) → σ[i]? ≠ some (some (.ref a)) := fun i ds hi hs => by
        obtain ⟨p, _, h1, _, h3, _⟩ := gd.sl i _ hi
        rw [hs] at h1
        cases h1
        have h31 := h3.1
        rw [ha] at h31; cases h31
      have n1 : a ≠ dk.1 := fun z => by rw [z, gd.wd.f1.1] at ha; cases ha
      have n2 : a ≠ dk.2 := fun z => by rw [z, gd.wd.f2.1] at ha; cases ha
      refine .inl ⟨a, _, hH, trivial, fun od => ?_⟩
      have gl := gd.lock (od := od) no (gd.wd.lockF ha)
      refine core _ gl upd_same hl (q2 a od _ hH) fun p ws F' H' x g' hp' fp' hl' r' => ?_
      have hk : H' a = some (.frz od (.dK (ks.zip us))) := x.h _ _ upd_same n1 n2 (.inr ⟨_, _, rfl⟩)
      have np : p ≠ a := fun z => by rw [z, upd_same] at hp'; cases hp'
      have hpH : H p = none := by rw [upd_ne np] at hp'; exact hp'
      refine ⟨hk, q p ws F' _ ?_ (gd.unlock hH nfk g' (g'.wd.unlockF (x.f.h _ _ ha))) hpH fp' (by rw [upd_ne np]; exact hl') r'⟩
      refine ⟨fun b o e m1 m2 m3 => ?_, x.f, fun b h1 h2 => ?_, fun b h z => ?_, fun b h => ?_, fun b o e fo => ?_⟩
      · by_cases nb : b = a
        · subst nb; rw [upd_same, ← e, hH]
        · rw [upd_ne nb]; exact x.h b o (by rw [upd_ne nb]; exact e) m1 m2 m3
      · refine x.n b h1 ?_
        by_cases nb : b = a
        · subst nb; exact nn upd_same
        · rw [upd_ne nb]; exact h2
      · by_cases nb : b = a
        · subst nb; rw [upd_same] at z; cases z
        · rw [upd_ne nb] at z; exact x.m b (by rw [upd_ne nb]; exact h) z
      · rcases x.u b h with z | z
        · exact .inl z
        · by_cases nb : b = a
          · subst nb; rw [upd_same] at z; cases z
          · rw [upd_ne nb] at z; exact .inr z
      · by_cases nb : b = a
        · subst nb; rw [upd_same] at e; cases e; exact absurd fo nfk
        · rw [upd_ne nb] at e
          have := x.k b o e fo
          rw [upd_ne nb] at this; exact this
    · exact .inr (core _ gd hH hl q1 q)
end
end MD

set_option Elab.async false
set_option linter.all false
set_option maxRecDepth 100000
set_option maxHeartbeats 4000000
namespace MD
open PySem PySem.Spec PyProof.Rows L2

/-! ### tuple * int, where the tuple itself or no item comes out -/
theorem tuple_mulS (l : Addr) (items : Array Value) (n : Nat) (dd : Option Addr) (sl : Array (Option Value)) (x : Int) (u : Tok) (c0 : (decide (x < -(2 ^ 63)) || decide (x ≥ 2 ^ 63)) = false) (c1 : (items.isEmpty || x == 1) = true) :
    Meets (Builtin.«tuple.__mul__» ⟨[.ref l, .int x u], []⟩) (fun _ R s => s.heap.get? l = some { cls := .type "tuple", dict := dd, data := .seq items n, slots := sl } ∧ R (.ok (.ret (Value.ref l))) s) :=
  .of_wp fun prog w A R s h => by
    obtain ⟨hp, g, d, tk, os⟩ := s
    obtain ⟨hl, h⟩ := h
    have f1 := AutoSeq1.idx_int
    wp_walk using wpAny_loadPart' hl
    repeat (first
      | (refine wpAny_ite_false (decide_eq_false (by rw [c0]; exact Bool.false_ne_true)) ?_; wp_walk using wpAny_loadPart' hl)
      | (refine wpAny_ite_true (decide_eq_true c1) ?_; wp_walk using wpAny_loadPart' hl))
    exact ⟨_, rfl, h⟩
theorem tuple_mulE (l : Addr) (items : Array Value) (n : Nat) (dd : Option Addr) (sl : Array (Option Value)) (x : Int) (u : Tok) (c0 : (decide (x < -(2 ^ 63)) || decide (x ≥ 2 ^ 63)) = false) (c1 : (items.isEmpty || x == 1) = false) (c2 : (decide (x ≤ 0) || items.isEmpty) = true) :
    Meets (Builtin.«tuple.__mul__» ⟨[.ref l, .int x u], []⟩) (fun _ R s => s.heap.get? l = some { cls := .type "tuple", dict := dd, data := .seq items n, slots := sl } ∧
      R (.ok (.ret (Value.ref s.heap.objs.size))) { s with heap := s.heap.push { cls := Value.type "tuple", data := Data.seq #[] }, toks := s.toks }) :=
  .of_wp fun prog w A R s h => by
    obtain ⟨hp, g, d, tk, os⟩ := s
    obtain ⟨hl, h⟩ := h
    have f1 := AutoSeq1.idx_int
    wp_walk using wpAny_loadPart' hl
    repeat (first
      | (refine wpAny_ite_false (decide_eq_false (by rw [c0]; exact Bool.false_ne_true)) ?_; wp_walk using wpAny_loadPart' hl)
      | (refine wpAny_ite_false (decide_eq_false (by rw [c1]; exact Bool.false_ne_true)) ?_; wp_walk using wpAny_loadPart' hl)
      | (refine wpAny_ite_true (decide_eq_true c2) ?_; wp_walk using wpAny_loadPart' hl))
    exact ⟨_, rfl, h⟩
def rRepS (K : Fg) : R2 := fun x y H Q => ∃ l k xs, x = .ref l ∧ y = .int k ∧ SqT K H l xs ∧ -1000 ≤ k ∧ k ≤ 1000 ∧ (((xs = [] ∨ k = 1) ∧ Q (.ref l) H) ∨ (xs ≠ [] ∧ k ≤ 0 ∧ ∀ p, H p = none → Q (.ref p) (upd H p (.tup []))))
theorem op_repS {X : Cx} : OpR X (binaryOp .Mult) (rRepS X.K) := by
  intro pins s σ H x y v u Q I rx ry h
  obtain ⟨l, k, xs, rfl, rfl, hT, h1, h2, q⟩ := h
  cases rx
  obtain ⟨t, rfl⟩ := ry
  obtain ⟨its, r, ⟨⟨cls, dd, data, sl⟩, ho, hc, n, hd⟩, hs⟩ := I.tuple hT
  simp only at hc hd
  subst hc hd
  have hle : its.length = xs.length := r.length.symm
  have c0 : (decide (k < -(2 ^ 63)) || decide (k ≥ 2 ^ 63)) = false := by
    rw [decide_eq_false (by omega), decide_eq_false (by omega)] <;> rfl
  rcases q with ⟨hc, q⟩ | ⟨hne, hk, q⟩
  · have c1 : (its.toArray.isEmpty || k == 1) = true := by
      rcases hc with hc | hc
      · have : its = [] := List.eq_nil_of_length_eq_zero (by rw [hle, hc]; rfl)
        subst this; rfl
      · subst hc; simp
    refine wpAny_binaryOp_repeat_ref (T := "tuple") (U := "int") (by decide) ⟨_, ho, rfl⟩ (fun s' => typeIs_int s' k t) noFill_tuple_mul F.fills_int_mul F.slot_int_rmul repeat_tuple F.slot_int_index.lookup
      (call_meets F.slot_int_rmul (typeIs_int s k t) F.entry_int_rmul (F.args_int_rmul_2 _ _) (int_rmul_tuple k t l its.toArray n dd sl)
        ⟨ho, rfl, ⟨_, ho, rfl⟩, call_meets F.slot_tuple_mul ⟨_, ho, rfl⟩ F.entry_tuple_mul (F.args_tuple_mul_2 _ _) (tuple_mulS l its.toArray n dd sl k t c0 c1) ⟨ho, ?_⟩⟩)
    exact ⟨.ref l, H, I, rfl, q⟩
  · have hn : its ≠ [] := fun e => hne (by
      rw [e] at hle
      exact List.eq_nil_of_length_eq_zero hle.symm)
    have hi : its.toArray.isEmpty = false := by
      cases its with
      | nil => exact absurd rfl hn
      | cons a b => rfl
    have c1 : (its.toArray.isEmpty || k == 1) = false := by
      rw [hi, Bool.false_or]
      exact beq_eq_false_iff_ne.mpr (by omega)
    have c2 : (decide (k ≤ 0) || its.toArray.isEmpty) = true := by rw [decide_eq_true hk]; rfl
    refine wpAny_binaryOp_repeat_ref (T := "tuple") (U := "int") (by decide) ⟨_, ho, rfl⟩ (fun s' => typeIs_int s' k t) noFill_tuple_mul F.fills_int_mul F.slot_int_rmul repeat_tuple F.slot_int_index.lookup
      (call_meets F.slot_int_rmul (typeIs_int s k t) F.entry_int_rmul (F.args_int_rmul_2 _ _) (int_rmul_tuple k t l its.toArray n dd sl)
        ⟨ho, rfl, ⟨_, ho, rfl⟩, call_meets F.slot_tuple_mul ⟨_, ho, rfl⟩ F.entry_tuple_mul (F.args_tuple_mul_2 _ _) (tuple_mulE l its.toArray n dd sl k t c0 c1 c2) ⟨ho, ?_⟩⟩)
    refine ⟨.ref s.heap.objs.size, _, I.laid (t' := s.toks) (o := .tup []) (fun b ob q => Heap.get?_push_of_some _ q) (Nat.le_refl _) ?_, rfl, q _ (I.hok.fresh (Nat.le_refl _))⟩
    exact ⟨by show 0 ≤ sizeLine; exact Nat.zero_le _, [], .nil, IsTup.new _ _⟩
section
variable {K : Fg} {dk : Dk} {F F' F0 : Fz} {H H' H0 : Hp} {σ σ' : L2.St} {env env' : Sg} {st st' st'' : S}
def rMulA (K : Fg) : R2 := fun x y H Q => rI CMul (fun i j => .int (i * j)) x y H Q ∨ rRepT K x y H Q ∨ rRepS K x y H Q ∨ rRep x y H Q
theorem op_mulA {X : Cx} : OpR X (binaryOp .Mult) (rMulA X.K) := OpR.or op_mul (OpR.or op_repT (OpR.or op_repS op_rep))
def mulA : D → D → Option D
  | .tup ds, .int k => if ds.length ≤ 1000 ∧ -1000 ≤ k ∧ k ≤ 1000 then some (.tup (List.replicate k.toNat ds).flatten) else none
  | .lst ds, .int k => if ds.length ≤ 1000 ∧ -1000 ≤ k ∧ k ≤ 1000 then some (.lst (List.replicate k.toNat ds).flatten) else none
  | d, e => mulM d e
theorem Rps.rep {vs : List V} {ds : List D} (r : Rps K dk F vs ds) : ∀ (n : Nat), Rps K dk F (List.replicate n vs).flatten (List.replicate n ds).flatten
  | 0 => .nil
  | n + 1 => by
    rw [List.replicate_succ, List.replicate_succ, List.flatten_cons, List.flatten_cons]
    exact r.append (Rps.rep r n)
theorem flat_nil {α : Type} (n : Nat) : (List.replicate n ([] : List α)).flatten = [] := by
  induction n with
  | zero => rfl
  | succ n ih => rw [List.replicate_succ, List.flatten_cons, ih]; rfl
theorem ro_mulA : RO K (rMulA K) mulA := by
  intro dk F H st x y d e z w rx ry hz Q q
  unfold mulA at hz
  split at hz
  · rename_i ds k
    split at hz
    · rename_i hc
      cases hz
      obtain ⟨p, vs, rfl, hp, r⟩ := rx.tup w.sub
      cases ry.int
      by_cases h1 : ds = [] ∨ k = 1
      · refine .inr (.inr (.inl ⟨p, k, vs, rfl, rfl, hp, hc.2.1, hc.2.2, .inl ⟨?_, ?_⟩⟩))
        · rcases h1 with h1 | h1
          · subst h1; cases r; exact .inl rfl
          · exact .inr h1
        · have e : (List.replicate k.toNat ds).flatten = ds := by
            rcases h1 with h1 | h1
            · subst h1; exact flat_nil _
            · subst h1; simp
          rw [e] at q
          exact q _ F H (Px.refl w.sub) rx.tp
      · have hn : vs ≠ [] := fun z => h1 (.inl (by subst z; cases r; rfl))
        by_cases h2 : k ≤ 0
        · refine .inr (.inr (.inl ⟨p, k, vs, rfl, rfl, hp, hc.2.1, hc.2.2, .inr ⟨hn, h2, fun a ha => ?_⟩⟩))
          have px : Px F H (F.up a (.tup [])) (upd H a (.tup [])) := Px.new w.sub ha
          have e : k.toNat = 0 := by omega
          rw [e] at q
          exact q _ _ _ px (.tup (SqT.of Fz.up_same) .nil)
        · have h3 : k ≠ 1 := fun z => h1 (.inr z)
          refine .inr (.inl ⟨p, k, vs, rfl, rfl, hp, hn, by omega, hc.2.2, by rw [r.length]; exact hc.1, fun a ha => ?_⟩)
          have px : Px F H (F.up a (.tup (List.replicate k.toNat vs).flatten)) (upd H a (.tup (List.replicate k.toNat vs).flatten)) := Px.new w.sub ha
          exact q _ _ _ px (.tup (SqT.of Fz.up_same) ((r.rep k.toNat).mono px.f))
    · cases hz
  · rename_i ds k
    split at hz
    · rename_i hc
      cases hz
      obtain ⟨p, vs, rfl, hp, r⟩ := rx.l w.sub
      cases ry.int
      refine .inr (.inr (.inr ⟨p, k, vs, rfl, rfl, hp, by omega, by omega, ?_, fun a ha => ?_⟩))
      · rw [r.length, sizeLine_eq]
        have a1 : ds.length * k.toNat ≤ 1000 * 1000 := Nat.mul_le_mul hc.1 (by omega)
        omega
      · have px : Px F H (F.up a (.lst (List.replicate k.toNat vs).flatten)) (upd H a (.lst (List.replicate k.toNat vs).flatten)) := Px.new w.sub ha
        exact q _ _ _ px (.lst Fz.up_same ((r.rep k.toNat).mono px.f))
    · cases hz
  · exact .inl (ro_mul dk F H st x y _ _ z w rx ry hz Q q)
/-! ### list(..) -/
def rListA (K : Fg) : List V → Hp → VK → Prop := fun xs H Q => (∃ p ys, xs = [.ref p] ∧ (SqL K H p ys ∨ SqT K H p ys) ∧ ∀ l, H l = none → Q (.ref l) (upd H l (.lst ys))) ∨
  ∃ (a : Addr) (kvs : List (Key × V)), xs = [.ref a] ∧ Rd H a (.dK kvs) ∧ ∀ p, H p = none → Q (.ref p) (upd H p (.lst (kvs.map fun kv => kV kv.1)))
theorem call_listA {X : Cx} (hc : X.calm = true) : CallR X (.type "list") (rListA X.K) := CallR.or call_list_of (call_listD hc)
def listD : List D → Option (List D)
  | [.lst ds] => some ds
  | [.tup ds] => some ds
  | [.dic ks _] => some (ks.map keyD)
  | _ => none
def listM (a : MA) : MA := fun env st => (a env st).bind fun p => (listD (p.1.map (dr p.2))).map fun z => (z, p.2)
theorem keys_rps : ∀ {ks : List Key} {vs : List V}, ks.length = vs.length → Rps K dk F ((ks.zip vs).map fun kv => kV kv.1) (ks.map keyD)
  | [], [], _ => .nil
  | k :: ks, v :: vs, h => .cons (keyD_rp k) (keys_rps (by simpa using h))
theorem if_list {ta : TA} {a : MA} (ha : ImAW K ta a) : ImF K (tCB (rListA K) ta) (listM a) := fun dk H0 F0 F σ H env st d st' g e Q q => by
  obtain ⟨⟨xs, s1⟩, h1, e⟩ := bnd e
  obtain ⟨z, h2, e⟩ := mpd e
  cases e
  refine ha dk H0 F0 F σ H env st xs s1 g h1 _ fun vs F1 H1 x1 g1 r1 => ?_
  have r2 := r1.dr g1.wd
  have fin : ∀ (us : List V) (p : Addr), H1 p = none → Rps K dk F1 us d → Q (.ref p) (upd H1 p (.lst us)) := fun us p hp r => by
    have px : Px F1 H1 F1 (upd H1 p (.lst us)) := Px.lay g1.wd.sub hp
    exact q p us F1 _ (x1.trans px.ext) (g1.px px) (x1.back hp) (g1.wd.out hp) upd_same r
  replace h2 : listD (xs.map (dr s1)) = some d := h2
  generalize xs.map (dr s1) = ys at h2 r2
  unfold listD at h2
  split at h2
  · cases h2
    obtain ⟨v, rfl, r⟩ := r2.one
    obtain ⟨p, us, rfl, hl, r⟩ := r.l g1.wd.sub
    exact .inl ⟨p, us, rfl, .inl (SqL.of hl), fun l hl => fin us l hl r⟩
  · cases h2
    obtain ⟨v, rfl, r⟩ := r2.one
    obtain ⟨p, us, rfl, hl, r⟩ := r.tup g1.wd.sub
    exact .inl ⟨p, us, rfl, .inr hl, fun l hl => fin us l hl r⟩
  · cases h2
    obtain ⟨v, rfl, r⟩ := r2.one
    obtain ⟨p, us, rfl, hr, hl, r⟩ := r.d g1.wd.sub
    exact .inr ⟨p, _, rfl, hr, fun l h => fin _ l h (keys_rps hl)⟩
  · cases h2
/-! ### isinstance(e, T), T a built-in class -/
def tTy (T : String) : TE := fun _ H Q => Q (.ty T) H
theorem pe_tyName {X : Cx} {x : Str} {T : String} {pos : Pos} (hg : Gl X x) (hm : X.mg x = none) (hv : bootBuiltins x = some (.type T)) (hn : x ≠ "__name__" := by decide) (hdb : (x == ("__debug__" : Str)) = false := by decide) : PE X (.Name x pos) (tTy T) :=
  ⟨fun pins s σ H Q I h => ld_blt I hg hm hv ⟨.ty T, H, I, rfl, h⟩ hn hdb⟩
def tyD : D → Option String
  | .non => some "NoneType"
  | .bl _ => some "bool"
  | .int _ => some "int"
  | .str _ => some "str"
  | .lst _ => some "list"
  | .tup _ => some "tuple"
  | .dic _ _ => some "dict"
  | _ => none
def isiM (T : String) (f : ME) : ME := fun env st => (f env st).bind fun p => (tyD (dr p.2 p.1)).bind fun t => (kitB t T).map fun b => (.bl b, p.2)
theorem sqT_ty {a : Addr} {vs : List V} (h : SqT K H a vs) : TyX K H (.ref a) (.type "tuple") := by
  rcases h with h | h
  · rcases h with h | ⟨o, h⟩
    · exact .base (.tup h)
    · exact .fTuple h
  · obtain ⟨o, its, n, h1, h2, _⟩ := h
    exact .kTuple h1 h2
theorem tyX_of {v : V} {d : D} {t : String} (s : Sb F H) (r : Rw K dk F H v d) (h : tyD d = some t) : TyX K H v (.type t) := by
  cases d with
  | non => cases h; rw [r.non]; exact .base .non
  | bl b => cases h; rw [r.bl]; exact .base (.bl b)
  | int i => cases h; rw [r.int]; exact .base (.int i)
  | str x => cases h; rw [r.str]; exact .base (.str x)
  | lst ds =>
    cases h
    obtain ⟨p, vs, rfl, h1, _⟩ := r.l s
    exact .base (.lst h1)
  | tup ds =>
    cases h
    obtain ⟨p, vs, rfl, h1, _⟩ := r.tup s
    exact sqT_ty h1
  | dic ks ds =>
    cases h
    obtain ⟨p, vs, rfl, h1, _⟩ := r.d s
    rcases h1 with h1 | ⟨o, h1⟩
    · exact .base (.dK h1)
    · exact .fDict h1
  | _ => cases h
theorem im_isi {te : TE} {f : ME} (T : String) (h : ImW K te f) : Im K (tCB (rIsi K) (tCons te (tCons (tTy T) tNil))) (isiM T f) := fun dk H0 F0 F σ H env st d st' g e Q q => by
  obtain ⟨⟨x, s1⟩, e1, e⟩ := bnd e
  obtain ⟨t, e2, e⟩ := bnd e
  obtain ⟨b, e3, e⟩ := mpd e
  cases e
  refine h dk H0 F0 F σ H env st x _ g e1 _ fun v F1 H1 x1 g1 r1 => ?_
  exact ⟨v, .ty T, .type t, .type T, b, rfl, .ty T, tyX_of g1.wd.sub (r1.dr g1.wd) e2, kit_ty e3, q (.bl b) F1 H1 x1 g1 (.bl b)⟩
/-! ### x = xs.pop(), x = xs.pop(i), of a name's own list: as an expression it changes the name -/
def popL (i : Nat) (t : MG) : MS := fun env st => match env[i]? with
  | some (.own (.lst, ds)) => (ds[ds.length - 1]?).bind fun d => (t d (env.set i (.own (.lst, ds.dropLast)))).map fun e => (.nx e, st)
  | _ => none
theorem Rps.dropLast {vs : List V} {ds : List D} (r : Rps K dk F vs ds) : Rps K dk F vs.dropLast ds.dropLast := by
  rw [List.dropLast_eq_take, List.dropLast_eq_take, r.length]
  exact r.take _
theorem is_popL {g : TG} {t : MG} {is : List Nat} (i : Nat) (hg : ImG K g t is) : ImS K (tAsg (tBM0 K "list" rPop (tVar i)) g) (popL i t) := fun dk H0 F0 F σ H env st fl st' gd e E hd => by
  unfold popL at e
  split at e
  · rename_i ds he
    obtain ⟨d, e1, e⟩ := bnd e
    obtain ⟨en, e2, e⟩ := mpd e
    cases e
    obtain ⟨p, vs, h1, h2, h3, h4, h5, h6, h7⟩ := gd.sl i _ he
    obtain ⟨v, k1, k2⟩ := h7.get e1
    refine ⟨.ref p, join_eq h1, .inl ⟨rfl, vs, SqL.of h2⟩, p, vs, v, rfl, rfl, h2, by rw [h7.length]; exact k1, ?_⟩
    have g2 : Good K dk H0 F0 F σ (upd H p (.lst vs.dropLast)) (env.set i (.own (.lst, ds.dropLast))) st := gd.mut (ds' := (.lst, ds.dropLast)) he (join_eq h1) upd_same h7.dropLast
    exact hg dk H0 F0 F σ _ _ st v d en g2 k2 e2 _ fun σ' g3 _ => hd F σ' _ (Le.refl F) g3
  · cases e
/-! e.pop(), e.pop(i), of a list of the store -/
def spopM (fo : ME) : ME := fun env st => (fo env st).bind fun o => (refOf o.1).bind fun n => (lstAt o.2 n).bind fun ds => (ds[ds.length - 1]?).map fun d => (d, o.2.put n (.lst ds.dropLast))
theorem im_spop {to : TE} {fo : ME} (ho : Im K to fo) : Im K (tBM0 K "list" rPop to) (spopM fo) := fun dk H0 F0 F σ H env st d st' g e Q q => by
  obtain ⟨⟨x, s1⟩, h1, e⟩ := bnd e
  obtain ⟨n, h2, e⟩ := bnd e
  obtain ⟨ds, h3, e⟩ := bnd e
  obtain ⟨d', h4, e⟩ := mpd e
  cases e
  refine ho dk H0 F0 F σ H env st x s1 g h1 _ fun v F1 H1 x1 g1 r1 => ?_
  have hx : x = .ref n := refOf_eq h2
  subst hx
  obtain ⟨a, rfl, ha⟩ := r1.refn
  obtain ⟨vs, hv, rv⟩ := g1.wd.lstAt ha h3
  obtain ⟨u, k1, k2⟩ := rv.get h4
  refine ⟨.inl ⟨rfl, vs, SqL.of hv⟩, a, vs, u, rfl, rfl, hv, by rw [rv.length]; exact k1, ?_⟩
  have nf : ¬ Fro (.lst vs) := by rintro ⟨_, _, z⟩; cases z
  have nf' : ¬ Fro (.lst vs.dropLast) := by rintro ⟨_, _, z⟩; cases z
  exact q u F1 _ (x1.put ha hv nf nf') (g1.put ha hv nf (.lst upd_same rv.dropLast) nf') k2
theorem Rps.erase : ∀ {vs : List V} {ds : List D} (n : Nat), Rps K dk F vs ds → Rps K dk F (vs.eraseIdx n) (ds.eraseIdx n)
  | _, _, _, .nil => .nil
  | _, _, 0, .cons _ r => r
  | _, _, n + 1, .cons a r => .cons a (Rps.erase n r)
def spopAt (fo fi : ME) : ME := fun env st => (fo env st).bind fun o => (refOf o.1).bind fun n => (lstAt o.2 n).bind fun _ => (fi env o.2).bind fun p => (intOf p.1).bind fun i => (lstAt p.2 n).bind fun ds => if 0 ≤ i ∧ i < ds.length ∧ ds.length ≤ sizeLine then (ds[i.toNat]?).map fun d => (d, p.2.put n (.lst (ds.eraseIdx i.toNat))) else none
theorem im_spopAt {to ti : TE} {fo fi : ME} (ho : Im K to fo) (hi : ImW K ti fi) : Im K (tBM K "list" rPopAt to (tCons ti tNil)) (spopAt fo fi) := fun dk H0 F0 F σ H env st d st' g e Q q => by
  obtain ⟨⟨x, s1⟩, h1, e⟩ := bnd e
  obtain ⟨n, h2, e⟩ := bnd e
  obtain ⟨_, h0, e⟩ := bnd e
  obtain ⟨⟨y, s2⟩, h3, e⟩ := bnd e
  obtain ⟨i, h4, e⟩ := bnd e
  obtain ⟨ds, h5, e⟩ := bnd e
  split at e
  · rename_i hz
    obtain ⟨d', h6, e⟩ := mpd e
    cases e
    refine ho dk H0 F0 F σ H env st x s1 g h1 _ fun v F1 H1 x1 g1 r1 => ?_
    have hx : x = .ref n := refOf_eq h2
    subst hx
    obtain ⟨a, rfl, ha⟩ := r1.refn
    obtain ⟨vs0, hv0, _⟩ := g1.wd.lstAt ha h0
    refine ⟨.inl ⟨rfl, vs0, SqL.of hv0⟩, ?_⟩
    refine hi dk H0 F0 F1 σ H1 env s1 y s2 g1 h3 _ fun u F2 H2 x2 g2 r2 => ?_
    have hy : y = .int i := by
      cases y <;> first | (cases h4; rfl) | cases h4
    subst hy
    have ha2 := x2.f.at ha
    obtain ⟨vs, hv, rv⟩ := g2.wd.lstAt ha2 h5
    obtain ⟨w, k1, k2⟩ := rv.get h6
    have hl := rv.length
    have hs : ds.length ≤ 16777216 := Nat.le_trans hz.2.2 (by rw [sizeLine_eq]; omega)
    refine ⟨a, vs, i, i.toNat, w, rfl, by rw [r2.w.int], hv, by omega, by omega, ?_, k1, ?_⟩
    · unfold seqIndex?
      rw [hl]
      have e1 : ¬ i < 0 := by omega
      have e2 : (decide (0 ≤ i) && decide (i < (ds.length : Int))) = true := by simp [hz.1, hz.2.1]
      simp [e1, hz.1, hz.2.1]
    · have nf : ¬ Fro (.lst vs) := by rintro ⟨_, _, z⟩; cases z
      have nf' : ¬ Fro (.lst (vs.eraseIdx i.toNat)) := by rintro ⟨_, _, z⟩; cases z
      exact q w F2 _ ((x1.trans x2).put ha2 hv nf nf') (g2.put ha2 hv nf (.lst upd_same (rv.erase i.toNat)) nf') k2
  · cases e
end
end MD

set_option Elab.async false
set_option linter.all false
set_option maxRecDepth 100000
set_option maxHeartbeats 1000000
namespace MD
open PySem L2
/-- where a thing is so -/
noncomputable def cif {α : Type} (p : Prop) (o : Option α) : Option α := @ite _ p (Classical.propDecidable p) o none
theorem cif_eq {α : Type} (p : Prop) [d : Decidable p] (o : Option α) : (if p then o else none) = cif p o := by
  unfold cif
  by_cases h : p
  · rw [if_pos h, if_pos h]
  · rw [if_neg h, if_neg h]
theorem cif_of {α : Type} {p : Prop} {o : Option α} (h : p) : cif p o = o := if_pos h
theorem of_cif {α : Type} {p : Prop} {o : Option α} {a : α} (h : cif p o = some a) : p ∧ o = some a := by
  unfold cif at h
  by_cases hp : p
  · rw [if_pos hp] at h; exact ⟨hp, h⟩
  · rw [if_neg hp] at h; cases h
section
variable {K : Fg} {dk : Dk} {F F' F0 : Fz} {H H' H0 : Hp} {σ σ' : L2.St} {env env' : Sg} {st st' st'' : S}
/-! ### for x in e, e a list of the store that stays meanwhile -/
noncomputable def forLc (n : Nat) (ds0 : List D) (t : MG) (b : MS) : List D → MS
  | [], env, st => cif (lstAt st n = some ds0) (some (.nx env, st))
  | d :: ds, env, st => cif (lstAt st n = some ds0) ((t d env).bind fun env1 => (b env1 st).bind fun p => match p.1 with
    | .nx e => forLc n ds0 t b ds e p.2
    | .ct e => forLc n ds0 t b ds e p.2
    | .bk e => some (.nx e, p.2)
    | .rt r => some (.rt r, p.2))
noncomputable def forR (f : ME) (t : MG) (b : MS) : MS := fun env st => (f env st).bind fun p => match p.1 with
  | .ref n => (lstAt p.2 n).bind fun ds => forLc n ds t b ds env p.2
  | d => (seqOf d).bind fun ds => forL t b ds env p.2
theorem is_forR {te : TE} {f : ME} {g : TG} {tb : TS} {t : MG} {b : MS} {is : List Nat} (h : Im K te f) (hg : ImG K g t is) (hb : ImS K tb b) : ImS K (tFor (iSeq K te) g tb) (forR f t b) := fun dk H0 F0 F σ H env st fl st' gd e E hd => by
  obtain ⟨⟨d, s1⟩, e1, e⟩ := bnd e
  by_cases hr : ∃ n, d = .ref n
  · obtain ⟨n, rfl⟩ := hr
    obtain ⟨ds, e2, e⟩ := bnd (show ((lstAt s1 n).bind fun ds => forLc n ds t b ds env s1) = some (fl, st') from e)
    refine h dk H0 F0 F σ H env st _ s1 gd e1 _ fun v F1 H1 x1 g1 r1 => ?_
    obtain ⟨a, rfl, ha⟩ := r1.refn
    obtain ⟨vs, hv, rv⟩ := g1.wd.lstAt ha e2
    refine .inl ⟨a, rfl, ⟨vs, SqL.of hv⟩, ?_⟩
    have hd1 := hd.mono x1.f
    let P : Nat → L2.St → Hp → Prop := fun i σ H => ∃ F2 env st, Le F1 F2 ∧ Good K dk H0 F0 F2 σ H env st ∧ forLc n ds t b (ds.drop i) env st = some (fl, st')
    refine ⟨fun i m σ H => m = ds.length - i ∧ i ≤ ds.length ∧ P i σ H, ⟨_, rfl, Nat.zero_le _, F1, env, s1, Le.refl F1, g1, e⟩, ?_⟩
    rintro i m σ2 H2 ⟨rfl, hle, F2, env2, s2, le2, g2, e3⟩
    by_cases hlt : i < ds.length
    · have hdi : ds[i]? = some ds[i] := List.getElem?_eq_getElem hlt
      rw [List.drop_eq_getElem_cons hlt] at e3
      obtain ⟨ck, e3⟩ := of_cif e3
      obtain ⟨us, hu, ru⟩ := g2.wd.lstAt (le2.at ha) ck
      obtain ⟨w, k1, k2⟩ := ru.get hdi
      refine .inr ⟨⟨us, w, SqL.of hu, k1⟩, P (i + 1), fun σ' H' hp => ⟨_, by omega, rfl, hlt, hp⟩, fun x H3 hx => ?_⟩
      obtain ⟨ee, e4⟩ := hx
      subst ee
      have ev := e4 us (SqL.of hu)
      rw [k1] at ev
      cases ev
      obtain ⟨env3, e5, e3⟩ := bnd e3
      obtain ⟨⟨fl3, s3⟩, e6, e3⟩ := bnd e3
      refine hg dk H0 F0 F2 σ2 _ env2 s2 w _ env3 g2 k2 e5 _ fun σ4 g4 _ => ?_
      refine hb dk H0 F0 F2 σ4 _ env3 s2 fl3 s3 g4 e6 _ ?_
      cases fl3 with
      | nx e7 => exact fun F5 σ5 H5 l5 g5 => ⟨F5, e7, s3, le2.trans l5, g5, e3⟩
      | ct e7 => exact fun F5 σ5 H5 l5 g5 => ⟨F5, e7, s3, le2.trans l5, g5, e3⟩
      | bk e7 =>
        cases e3
        exact fun F5 σ5 H5 l5 g5 => hd1 F5 σ5 H5 (le2.trans l5) g5
      | rt r =>
        cases e3
        exact hd1
    · have ei : i = ds.length := by omega
      subst ei
      rw [List.drop_length] at e3
      obtain ⟨ck, e3⟩ := of_cif e3
      cases e3
      obtain ⟨us, hu, ru⟩ := g2.wd.lstAt (le2.at ha) ck
      exact .inl ⟨⟨us, SqL.of hu, by rw [ru.length]; exact Nat.le_refl _⟩, hd1 F2 σ2 H2 le2 g2⟩
  · refine is_for (ii_seq h) hg hb dk H0 F0 F σ H env st fl st' gd ?_ E hd
    have ee : ((seqOf d).bind fun ds => forL t b ds env s1) = some (fl, st') := by
      cases d with
      | ref n => exact absurd ⟨n, rfl⟩ hr
      | _ => exact e
    obtain ⟨ds, e2, e3⟩ := bnd ee
    show ((seqI f env st).bind fun p => forL t b p.1 env p.2) = _
    have : seqI f env st = some (ds, s1) := by
      unfold seqI
      rw [e1]
      show (seqOf d).map _ = _
      rw [e2]; rfl
    rw [this]
    exact e3
end
end MD

set_option Elab.async false
set_option linter.all false
set_option maxRecDepth 100000
set_option maxHeartbeats 1000000
namespace MD
open PySem L2
/-! ### an expression whose value goes to a name: data, or a new thing of its own -/
abbrev MX := Sg → S → Option (Sl × S)
/-- what an argument gives, as it stands at F, H -/
def XOk (K : Fg) (dk : Dk) (F : Fz) (H H0 : Hp) (v : V) : Sl → Prop
  | .un => False
  | .val d => Rp K dk F v d
  | .own w => ∃ p vs, v = .ref p ∧ w.1.At H p vs ∧ F.out p ∧ H0 p = none ∧ p ≠ dk.1 ∧ p ≠ dk.2 ∧ Rps K dk F vs w.2
def ImX (K : Fg) (te : TE) (f : MX) : Prop := ∀ (dk : Dk) (H0 : Hp) (F0 F : Fz) (σ : L2.St) (H : Hp) (env : Sg) (st : S) (s : Sl) (st' : S), Good K dk H0 F0 F σ H env st → f env st = some (s, st') →
  ∀ Q : VK, (∀ v F' H', Ext dk F H F' H' → Good K dk H0 F0 F' σ H' env st' → XOk K dk F' H' H v s → Q v H') → te σ H Q
def xV (f : ME) : MX := fun env st => (f env st).map fun p => (.val p.1, p.2)
def xL (f : MA) : MX := fun env st => (f env st).map fun p => (.own (.lst, p.1), p.2)
def xK (f : MK) : MX := fun env st => (f env st).map fun p => (.own (.dic p.1.1, p.1.2), p.2)
section
variable {K : Fg} {dk : Dk} {F F' F0 : Fz} {H H' H0 : Hp} {σ σ' : L2.St} {env env' : Sg} {st st' st'' : S}
theorem Im.x {te : TE} {f : ME} (h : Im K te f) : ImX K te (xV f) := fun dk H0 F0 F σ H env st s st' g e Q q => by
  obtain ⟨⟨d, s1⟩, e1, e⟩ := mpd e
  cases e
  exact h dk H0 F0 F σ H env st d s1 g e1 Q fun v F1 H1 x1 g1 r1 => q v F1 H1 x1 g1 r1
theorem ImF.x {te : TE} {f : MA} (h : ImF K te f) : ImX K te (xL f) := fun dk H0 F0 F σ H env st s st' g e Q q => by
  obtain ⟨⟨ds, s1⟩, e1, e⟩ := mpd e
  cases e
  refine h dk H0 F0 F σ H env st ds s1 g e1 Q fun p vs F1 H1 x1 g1 hp fp hl r => ?_
  have nd := g.nedk hp
  exact q _ F1 H1 x1 g1 ⟨p, vs, rfl, hl, fp, hp, nd.1, nd.2, r⟩
theorem ImK.x {te : TE} {f : MK} (h : ImK K te f) : ImX K te (xK f) := fun dk H0 F0 F σ H env st s st' g e Q q => by
  obtain ⟨⟨⟨ks, ds⟩, s1⟩, e1, e⟩ := mpd e
  cases e
  refine h dk H0 F0 F σ H env st _ s1 g e1 Q fun p vs F1 H1 x1 g1 hp fp hl hl2 r => ?_
  have nd := g.nedk hp
  exact q _ F1 H1 x1 g1 ⟨p, vs, rfl, ⟨hl, hl2⟩, fp, hp, nd.1, nd.2, r⟩
theorem XOk.ext {v : V} {s : Sl} (h : XOk K dk F H H0 v s) (x : Ext dk F H F' H') : XOk K dk F' H' H0 v s := by
  cases s with
  | un => exact h
  | val d => exact Rp.mono x.f h
  | own w =>
    obtain ⟨p, vs, h1, h2, h3, h4, h5, h6, h7⟩ := h
    exact ⟨p, vs, h1, h2.keep fun o e => x.h _ _ e h5 h6 (.inl h3.2), x.out h3 (by obtain ⟨o, ho⟩ := h2.some; exact nn ho), h4, h5, h6, h7.mono x.f⟩
/-- a slot gets it -/
theorem Good.setX {i : Nat} {v : V} {s : Sl} {Hb : Hp} (g : Good K dk H0 F0 F σ H env st) (h : XOk K dk F H Hb v s) (hb : ∀ p, Hb p = none → H0 p = none) (no : ∀ p, Hb p = none → ∀ (j : Nat) (es : Own), env[j]? = some (.own es) → σ[j]? ≠ some (some (.ref p))) :
    Good K dk H0 F0 F (σ.set i (some v)) H (env.set i s) st := by
  cases s with
  | un => exact h.elim
  | val d => exact g.set h
  | own w =>
    obtain ⟨p, vs, rfl, h2, h3, h4, h5, h6, h7⟩ := h
    exact g.setO h2 h3 (hb p h4) h5 h6 (no p h4) h7
def par2 (i j : Nat) (fa fb : MX) : MS := fun env st => (fa env st).bind fun p => (fb env p.2).map fun q => (.nx ((env.set i p.1).set j q.1), q.2)
theorem is_par2 {ta tb : TE} {fa fb : MX} (i j : Nat) (ha : ImX K ta fa) (hb : ImX K tb fb) : ImS K (tPar i j (tCons ta (tCons tb tNil))) (par2 i j fa fb) := fun dk H0 F0 F σ H env st fl st' g e E hd => by
  obtain ⟨⟨s1, t1⟩, e1, e⟩ := bnd e
  obtain ⟨⟨s2, t2⟩, e2, e⟩ := mpd e
  cases e
  refine ha dk H0 F0 F σ H env st s1 t1 g e1 _ fun v F1 H1 x1 g1 k1 => ?_
  refine hb dk H0 F0 F1 σ H1 env t1 s2 t2 g1 e2 _ fun u F2 H2 x2 g2 k2 => ?_
  refine ⟨v, u, rfl, hd F2 _ H2 (x1.f.trans x2.f) ?_⟩
  have g3 : Good K dk H0 F0 F2 (σ.set i (some v)) H2 (env.set i s1) t2 := g2.setX (k1.ext x2) (fun p hp => g.fresh0 hp) fun p hp => g.noown hp
  refine g3.setX k2 (fun p hp => g1.fresh0 hp) fun p hp jj es hj z => ?_
  by_cases hi : i = jj
  · subst hi
    have hl : i < env.length := by
      by_cases hl : i < env.length
      · exact hl
      · rw [List.getElem?_eq_none (by rw [List.length_set]; omega)] at hj; cases hj
    rw [List.getElem?_set_self hl] at hj
    rw [List.getElem?_set_self (by rw [g.len]; exact hl)] at z
    cases hj
    cases z
    obtain ⟨p', vs, ep, h2, _⟩ := k1
    cases ep
    obtain ⟨o, ho⟩ := h2.some
    rw [hp] at ho; cases ho
  · rw [List.getElem?_set_ne hi] at hj z
    exact g1.noown hp jj es hj z
end
end MD

set_option Elab.async false
set_option linter.all false
set_option maxRecDepth 100000
set_option maxHeartbeats 1000000
namespace MD
open PySem PyProof.Rows L2
theorem units1 {n : Nat} (h : n + 64 < cLine) : n + 1 < cLine := by omega
theorem ps_or2 {X : Cx} {st : Stmt} {t : TE} {i : Nat} (h : PS X st (tLock (tAsg t (gName i)))) (h' : PS X st (tAsg t (gName i))) : PS X st (tAsg (fun σ H Q => tLockE t σ H Q ∨ t σ H Q) (gName i)) := ps_or h h'
/-- a def that is not yet known to keep anything -/
theorem fn0 {P : Program} {w : World} {K : Fg} {mg : Str → Option Value} {base : Heap} {k n : Nat} {f : Addr} {fd : FuncData} {ps : List Str} (h : n = ps.length) : FnG P w K mg base k f fd ps (spD K n fun _ _ => none) :=
  ⟨fun vs H Q E q => q.1.trans h, fun A outer s H args us vs Q E _ _ _ _ _ q => by
    obtain ⟨_, _, _, _, _, _, _, _, _, z, _⟩ := q
    cases z⟩
section
variable {K : Fg} {dk : Dk} {F F' F0 : Fz} {H H' H0 : Hp} {σ σ' : L2.St} {env env' : Sg} {st st' st'' : S}
def min2M : List D → Option D
  | [.int m, .int n] => some (.int (if n < m then n else m))
  | _ => none
def max2M : List D → Option D
  | [.int m, .int n] => some (.int (if n > m then n else m))
  | _ => none
theorem rc_min2 : RC K (fun xs H Q => ∃ m n, xs = [V.int m, V.int n] ∧ Q (.int (if n < m then n else m)) H) min2M := by
  intro dk F H st vs ds z w rx hz Q q
  unfold min2M at hz
  split at hz
  · cases hz
    obtain ⟨v, u, rfl, r1, r2⟩ := rx.two
    cases r1.int
    cases r2.int
    exact ⟨_, _, rfl, q _ F H (Px.refl w.sub) (.int _)⟩
  · cases hz
theorem rc_max2 : RC K (fun xs H Q => ∃ m n, xs = [V.int m, V.int n] ∧ Q (.int (if n > m then n else m)) H) max2M := by
  intro dk F H st vs ds z w rx hz Q q
  unfold max2M at hz
  split at hz
  · cases hz
    obtain ⟨v, u, rfl, r1, r2⟩ := rx.two
    cases r1.int
    cases r2.int
    exact ⟨_, _, rfl, q _ F H (Px.refl w.sub) (.int _)⟩
  · cases hz
/-! a new list by * -/
def lstMul : D → D → Option (List D)
  | .lst ds, .int k => if ds.length ≤ 1000 ∧ -1000 ≤ k ∧ k ≤ 1000 then some (List.replicate k.toNat ds).flatten else none
  | _, _ => none
theorem rof_mul : ROF K rRep lstMul := by
  intro dk F H st x y d e z w rx ry hz Q q
  unfold lstMul at hz
  split at hz
  · rename_i ds k
    split at hz
    · rename_i hc
      cases hz
      obtain ⟨p, vs, rfl, hp, r⟩ := rx.l w.sub
      cases ry.int
      refine ⟨p, k, vs, rfl, rfl, hp, by omega, by omega, ?_, fun a ha => q a _ ha (r.rep k.toNat)⟩
      rw [r.length, sizeLine_eq]
      have a1 : ds.length * k.toNat ≤ 1000 * 1000 := Nat.mul_le_mul hc.1 (by omega)
      omega
    · cases hz
  · cases hz
@[simp] theorem v_opF {g : D → D → Option (List D)} {fa fb : ME} {env : Sg} {st : S} : opF g fa fb env st = (fa env st).bind fun p => (fb env p.2).bind fun q => (g (dr q.2 p.1) (dr q.2 q.1)).map fun z => (z, q.2) := (rfl)
/-! xs[i] = e, of a name's own list -/
def lsetM (i : Nat) (fk fv : ME) : MS := fun env st => match env[i]? with
  | some (.own (.lst, ds)) => (fv env st).bind fun p => (fk env p.2).bind fun q => (intOf q.1).bind fun k => (ixN ds.length k).map fun j => (.nx (env.set i (.own (.lst, ds.set j p.1))), q.2)
  | _ => none
@[simp] theorem v_lsetM {i : Nat} {fk fv : ME} {env : Sg} {st : S} : lsetM i fk fv env st = (match env[i]? with
  | some (.own (.lst, ds)) => (fv env st).bind fun p => (fk env p.2).bind fun q => (intOf q.1).bind fun k => (ixN ds.length k).map fun j => (.nx (env.set i (.own (.lst, ds.set j p.1))), q.2)
  | _ => none) := (rfl)
theorem is_lset {ty tv : TE} {fk fv : ME} (i : Nat) (hk : ImW K ty fk) (hv : Im K tv fv) : ImS K (tAsg tv (gSub (tVar i) ty rSetL)) (lsetM i fk fv) := fun dk H0 F0 F σ H env st fl st' g e E hd => by
  unfold lsetM at e
  split at e
  · rename_i ds he
    obtain ⟨⟨d, s1⟩, e1, e⟩ := bnd e
    obtain ⟨⟨y, s2⟩, e2, e⟩ := bnd e
    obtain ⟨k, e3, e⟩ := bnd e
    obtain ⟨j, e4, e⟩ := mpd e
    cases e
    obtain ⟨p, vs, h1, h2, h3, h4, h5, h6, h7⟩ := g.sl i _ he
    refine hv dk H0 F0 F σ H env st d s1 g e1 _ fun v F1 H1 x1 g1 r1 => ?_
    refine ⟨.ref p, join_eq h1, hk dk H0 F0 F1 σ H1 env s1 y s2 g1 e2 _ fun u F2 H2 x2 g2 r2 => ?_⟩
    have x12 := x1.trans x2
    have hy : y = .int k := by
      cases y <;> first | (cases e3; rfl) | cases e3
    subst hy
    refine ⟨p, vs, k, j, rfl, r2.w.int, x12.h _ _ h2 h5 h6 (.inl h3.2), by rw [h7.length]; exact e4, ?_⟩
    exact hd F2 σ _ x12.f (g2.mut (ds' := (.lst, ds.set j d)) he (join_eq h1) upd_same (Rps.set (r1.mono x2.f) j (h7.mono x12.f)))
  · cases e
@[simp] theorem v_par2 {i j : Nat} {fa fb : MX} {env : Sg} {st : S} : par2 i j fa fb env st = (fa env st).bind fun p => (fb env p.2).map fun q => (.nx ((env.set i p.1).set j q.1), q.2) := (rfl)
@[simp] theorem v_xV {f : ME} {env : Sg} {st : S} : xV f env st = (f env st).map fun p => (Sl.val p.1, p.2) := (rfl)
@[simp] theorem v_xL {f : MA} {env : Sg} {st : S} : xL f env st = (f env st).map fun p => (Sl.own (.lst, p.1), p.2) := (rfl)
@[simp] theorem v_xK {f : MK} {env : Sg} {st : S} : xK f env st = (f env st).map fun p => (Sl.own (.dic p.1.1, p.1.2), p.2) := (rfl)
/-! dict(list of pairs) -/
def prsD : List D → Option (List (Key × D))
  | [] => some []
  | .tup [k, d] :: r => (keyOf k).bind fun k => (prsD r).map ((k, d) :: ·)
  | _ => none
def prsK (f : ME) : MK := fun env st => (f env st).bind fun p => match p.1 with
  | .lst ds => (prsD ds).map fun l => (mrgL [] [] l, p.2)
  | _ => none
theorem prs_ok (s : Sb F H) : ∀ {vs : List V} {ds : List D} {l : List (Key × D)}, Rps K dk F vs ds → prsD ds = some l → ∃ (ps : List Addr) (kvs : List (Key × V)), vs = ps.map V.ref ∧ Paired (fun p kv => SqT K H p [kV kv.1, kv.2]) ps kvs ∧ Rpk K dk F kvs l
  | _, [], l, .nil, h => by cases h; exact ⟨[], [], rfl, .nil, .nil⟩
  | v :: vs, d :: ds, l, .cons a b, h => by
    unfold prsD at h
    split at h
    · rename_i hh; cases hh
    · rename_i k e r hh
      cases hh
      obtain ⟨k', h1, h⟩ := bnd h
      obtain ⟨l', h2, h⟩ := mpd h
      subst h
      cases a with
      | tup hq rr =>
        cases rr with
        | cons q1 q2 => cases q2 with
          | cons q2 q3 =>
            cases q3
            obtain ⟨ps, kvs, e1, e2, e3⟩ := prs_ok s b h2
            refine ⟨_ :: ps, (k', _) :: kvs, by rw [e1]; rfl, .cons ?_ e2, .cons q2 e3⟩
            have := keyOf_rw (H := H) (.rp q1) h1
            rw [← this]
            exact s.sqT hq
    · cases h
theorem ik_prs {te : TE} {f : ME} (h : Im K te f) : ImK K (tCB (fun xs H Q => ∃ (a : Addr) (ps : List Addr) (kvs : List (Key × V)), xs = [.ref a] ∧ SqL K H a (ps.map V.ref) ∧ Paired (fun p kv => SqT K H p [kV kv.1, kv.2]) ps kvs ∧
    ∀ p, H p = none → Q (.ref p) (upd H p (.dK (mergeK [] kvs)))) (tCons te tNil)) (prsK f) := fun dk H0 F0 F σ H env st kd st' g e Q q => by
  obtain ⟨⟨x, s1⟩, h1, e⟩ := bnd e
  refine h dk H0 F0 F σ H env st x s1 g h1 _ fun v F1 H1 x1 g1 r1 => ?_
  cases x with
  | lst ds =>
    obtain ⟨l, h2, e⟩ := mpd (show (prsD ds).map (fun l => (mrgL [] [] l, s1)) = some (kd, st') from e)
    cases e
    cases r1 with
    | lst ha r =>
      obtain ⟨ps, kvs, e1, e2, e3⟩ := prs_ok g1.wd.sub r h2
      subst e1
      refine ⟨_, ps, kvs, rfl, SqL.of (g1.wd.sub.lst ha), e2, fun p hp => ?_⟩
      have px : Px F1 H1 F1 (upd H1 p (.dK (mergeK [] kvs))) := Px.lay g1.wd.sub hp
      obtain ⟨z1, z2⟩ := mrg_zip kvs [] [] rfl
      obtain ⟨y1, y2⟩ := mrg_rps (K := K) (dk := dk) (F := F1) [] e3 Rps.nil
      exact q p (mrgL [] [] kvs).2 F1 _ (x1.trans px.ext) (g1.px px) (x1.back hp) (g1.wd.out hp) (by rw [upd_same, ← y1]; exact congrArg (fun z => some (HO.dK z)) z1) (by rw [← y1]; exact z2) y2
  | _ => cases e
end
end MD

set_option Elab.async false
set_option linter.all false
set_option maxRecDepth 100000
set_option maxHeartbeats 1000000
namespace MD
open PySem L2
/-! ### a < b of data -/
def rLtD (K : Fg) : R2 := fun x y H Q => ∃ d e, Dp K H x d ∧ Dp K H y e ∧ PySem.W.alike d e = true ∧ d ≠ .none ∧ d.depth ≤ 60 ∧ Q (.bl (PySem.W.dataLt d e)) H
theorem op_ltD {X : Cx} (hu : X.A.units + 64 < cLine) : OpR X (compareOp .Lt) (rLtD X.K) := by
  intro pins s σ H x y v u Q I rx ry h
  obtain ⟨d, e, hd, he, hal, hn, hdp, q⟩ := h
  obtain ⟨as, r1⟩ := Dp.reads I _ _ _ hd rx
  obtain ⟨bs, r2⟩ := Dp.reads I _ _ _ he ry
  exact PySem.W.rcLt_alike d e X.A s v u as bs r1 r2 hal hn (by omega) X.prog X.w _ _ ⟨.bl _, H, I, rfl, q⟩
def rLtA (K : Fg) : R2 := fun x y H Q => rI0 (fun i j => .bl (decide (i < j))) x y H Q ∨ rLtD K x y H Q
theorem op_ltA {X : Cx} (hu : X.A.units + 64 < cLine) : OpR X (compareOp .Lt) (rLtA X.K) := OpR.or op_lt (op_ltD hu)
def ltA : D → D → Option D
  | .int i, .int j => some (.bl (decide (i < j)))
  | .tup a, .tup b => if (D.tup a).pl && (D.tup b).pl && PySem.W.alike (D.tup a).py (D.tup b).py && decide ((D.tup a).py.depth ≤ 60) then some (.bl (PySem.W.dataLt (D.tup a).py (D.tup b).py)) else none
  | _, _ => none
section
variable {K : Fg} {dk : Dk} {F F' F0 : Fz} {H H' H0 : Hp}
theorem ro_ltA : RO K (rLtA K) ltA := by
  intro dk F H st x y d e z w rx ry hz Q q
  unfold ltA at hz
  split at hz
  · exact .inl (ro_lt dk F H st x y _ _ z w rx ry hz Q q)
  · split at hz
    · rename_i ho
      cases hz
      simp only [Bool.and_eq_true, decide_eq_true_eq] at ho
      refine .inr ⟨_, _, rx.dp w.sub ho.1.1.1, ry.dp w.sub ho.1.1.2, ho.1.2, ?_, ho.2, q _ F H (Px.refl w.sub) (.bl _)⟩
      intro z
      rw [D.py] at z
      cases z
    · cases hz
  · cases hz
end
/-! (number, text) < (number, text) -/
@[simp] theorem v_ltI {i j : Int} : ltA (.int i) (.int j) = some (.bl (decide (i < j))) := (rfl)
theorem lt_pair (i j : Int) (x y : Str) : ltA (.tup [.int i, .str x]) (.tup [.int j, .str y]) = some (.bl (decide (i < j ∨ (i = j ∧ x.cps.toList < y.cps.toList)))) := by
  have e : PySem.W.dataLt (D.tup [.int i, .str x]).py (D.tup [.int j, .str y]).py = decide (i < j ∨ (i = j ∧ x.cps.toList < y.cps.toList)) := by
    show PyProof.Rows.lexLt PyProof.Rows.itemOrd [.inl 1, .inl i, .inl 1, .inr x.cps.toList, .inl 0] [.inl 1, .inl j, .inl 1, .inr y.cps.toList, .inl 0] = _
    rw [PyProof.Rows.lex_self]
    by_cases hij : i = j
    · subst hij
      rw [PyProof.Rows.lex_self, PyProof.Rows.lex_self]
      by_cases hxy : x.cps.toList = y.cps.toList
      · rw [hxy, PyProof.Rows.lex_self, PyProof.Rows.lex_irrefl]
        have h1 : ¬ y.cps.toList < y.cps.toList := List.lt_irrefl _
        simp [h1]
      · rw [PyProof.Rows.lex_diff (fun z => hxy (Sum.inr.inj z))]
        show decide (x.cps.toList < y.cps.toList) = _
        simp
    · rw [PyProof.Rows.lex_diff (fun z => hij (Sum.inl.inj z))]
      show decide (i < j) = _
      simp [hij]
  show (if (D.tup [.int i, .str x]).pl && (D.tup [.int j, .str y]).pl && PySem.W.alike (D.tup [.int i, .str x]).py (D.tup [.int j, .str y]).py && decide ((D.tup [.int i, .str x]).py.depth ≤ 60) then some (D.bl (PySem.W.dataLt (D.tup [.int i, .str x]).py (D.tup [.int j, .str y]).py)) else none) = _
  rw [e, if_pos]
  have h2 : (D.tup [.int i, .str x]).py.depth ≤ 60 := by simp [D.py, pyAll, PyData.depth, PyData.depthAll]
  rw [decide_eq_true h2]
  simp [D.pl, plAll, D.py, pyAll, PySem.W.alike, PySem.W.alikeAll]
end MD

set_option Elab.async false
set_option linter.all false
namespace MD
open PySem PySem.Spec PyProof.Rows L2
variable {K : Fg} {dk : Dk} {F : Fz}
/-! ### list(range(..)) -/
theorem rps_rg (a b : Int) : Rps K dk F (rgV a b) (rngD a (b - a).toNat) := by
  unfold rgV rngD
  generalize List.range (b - a).toNat = xs
  induction xs with
  | nil => exact .nil
  | cons x xs ih => exact .cons (.int _) ih
theorem fin_rg {H0 : Hp} {F0 : Fz} {σ : L2.St} {H : Hp} {env : Sg} {st : S} {a b : Int} (g : Good K dk H0 F0 F σ H env st) {Q : VK}
    (q : ∀ p vs F' H', Ext dk F H F' H' → Good K dk H0 F0 F' σ H' env st → H p = none → F'.out p → H' p = some (.lst vs) → Rps K dk F' vs (rngD a (b - a).toNat) → Q (.ref p) H') :
    ∀ p, H p = none → Q (.ref p) (upd H p (.lst (rgV a b))) := fun p hp => by
  have px : Px F H F (upd H p (.lst (rgV a b))) := Px.lay g.wd.sub hp
  exact q p _ F _ px.ext (g.px px) hp (g.wd.out hp) upd_same (rps_rg a b)
def lrg1M (a : ME) : MA := fun env st => (a env st).bind fun p => match p.1 with
  | .int j => if 0 ≤ j ∧ j ≤ 1000000 then some (rngD 0 (j - 0).toNat, p.2) else none
  | _ => none
def lrg2M (a b : ME) : MA := fun env st => (a env st).bind fun p => (b env p.2).bind fun r => match p.1, r.1 with
  | .int i, .int j => if 0 ≤ i ∧ i ≤ 1000000 ∧ 0 ≤ j ∧ j ≤ 1000000 then some (rngD i (j - i).toNat, r.2) else none
  | _, _ => none
theorem if_lrg1 {ta : TE} {a : ME} (ha : Im K ta a) : ImF K (tLstRg (tRg1 ta)) (lrg1M a) := fun dk H0 F0 F σ H env st d st' g e Q q => by
  obtain ⟨⟨x, s1⟩, h1, e⟩ := bnd e
  refine ha dk H0 F0 F σ H env st x s1 g h1 _ fun v F1 H1 x1 g1 r1 => ?_
  dsimp only at e
  split at e
  · split at e
    · rename_i j hj
      cases e
      cases r1
      exact ⟨j, rfl, RgOk.of_le (by omega) (by omega) (by omega) (by omega), fin_rg g1 fun p vs F' H' x2 g2 hp => q p vs F' H' (x1.trans x2) g2 (x1.back hp)⟩
    · cases e
  · cases e
theorem if_lrg2 {ta tb : TE} {a b : ME} (ha : Im K ta a) (hb : Im K tb b) : ImF K (tLstRg (tRg2 ta tb)) (lrg2M a b) := fun dk H0 F0 F σ H env st d st' g e Q q => by
  obtain ⟨⟨x, s1⟩, h1, e⟩ := bnd e
  obtain ⟨⟨y, s2⟩, h2, e'⟩ := bnd e
  clear e
  refine ha dk H0 F0 F σ H env st x s1 g h1 _ fun v F1 H1 x1 g1 r1 => ?_
  refine hb dk H0 F0 F1 σ H1 env s1 y s2 g1 h2 _ fun u F2 H2 x2 g2 r2 => ?_
  dsimp only at e'
  split at e'
  · split at e'
    · rename_i i j hj
      cases e'
      cases r1
      cases r2
      exact ⟨i, j, rfl, rfl, RgOk.of_le (by omega) (by omega) (by omega) (by omega), fin_rg g2 fun p vs F' H' x3 g3 hp => q p vs F' H' ((x1.trans x2).trans x3) g3 ((x1.trans x2).back hp)⟩
    · cases e'
  · cases e'
end MD

set_option Elab.async false
set_option linter.all false
namespace MD
open PySem PySem.Spec PyProof.Rows L2
/-! ### tests of k in d, k not in d -/
theorem pt_or {X : Cx} {e : Expr} {t t' : TE} (h : PT X e (tTest t)) (h' : PT X e (tTest t')) : PT X e (tTest fun σ H Q => t σ H Q ∨ t' σ H Q) :=
  ⟨fun pins s σ H Q I q => q.elim (h.run pins s σ H Q I) (h'.run pins s σ H Q I)⟩
theorem pt_in {X : Cx} {a b : Expr} {pos : Pos} {ta tb : TE} (hu : X.A.units + 1 < cLine) (ha : PE X a ta) (hb : PE X b tb) (hm : behindInMarks .In b = false := by rfl) : PT X (.Compare a [.In] [b] pos) (tTest (tIn X.K ta tb)) :=
  pt_or (pt_cmp (pc_din hu ha hb) hm) (pt_cmpR op_inA ha hb hm)
theorem pt_notIn {X : Cx} {a b : Expr} {pos : Pos} {ta tb : TE} (hu : X.A.units + 1 < cLine) (ha : PE X a ta) (hb : PE X b tb) (hm : behindInMarks .NotIn b = false := by rfl) : PT X (.Compare a [.NotIn] [b] pos) (tTest (tNotIn X.K ta tb)) :=
  pt_or (pt_cmp (pc_dnotin hu ha hb) hm) (pt_cmpR op_notInA ha hb hm)
/-! ### name = {..}, a comprehension, the name a local -/
section
variable {X : Cx}
theorem sw_trueD {kx vx : Expr} {gs : List Comprehension} {scope : Scope} {pos py : Pos} {y : Str} {l : Nat} {env : Env} (hk : env.scope.kind = .function) (hy : env.scope.names.lookup y = some .local) (hl : (py.line == pos.line) = true)
    (ha : (scope.names.any fun (n, k) => n == y && (k == .local || k == .cell)) = false) : swapsWith (.DictComp kx vx gs scope pos) (some (.Name y py)) l env = pure true := by
  have ky : env.kindOf y = some .local := hy
  have hb : env.blockKind = .function := by unfold Env.blockKind; rw [hk]; rfl
  unfold swapsWith
  simp only [hb, ky, ha, Expr.pos, hl]
  rfl
theorem ps_setDc {i : Nat} {y : Str} {py : Pos} {kx vx tg iter : Expr} {ifs : List Expr} {scope : Scope} {own : List (Str × Nat)} {pos spos : Pos} {wi : TI} {g : TG} {tt : TT} {tk tv : TE} (hc : X.calm = true) (hN : X.N.Nodup) (hy : X.N[i]? = some y) (hyl : X.env.scope.names.lookup y = some .local)
    (hsw : swapsWith (.DictComp kx vx [⟨tg, iter, ifs, 0⟩] scope pos) (some (.Name y py)) spos.line X.env = pure true) (hi : PI X tg iter wi) (ok : BlkOk X.N X.env.scope scope own)
    (hg : ∀ (s : Shared) (H : Hp) (C : Addr) (cl : List (Str × Addr)) (fp : List Addr), PG (X.blk s H scope (compEnvC scope cl C X.env) fp) tg g) (ht : ∀ (s : Shared) (H : Hp) (C : Addr) (cl : List (Str × Addr)) (fp : List Addr), PTs (X.blk s H scope (compEnvC scope cl C X.env) fp) ifs tt)
    (hk : ∀ (s : Shared) (H : Hp) (C : Addr) (cl : List (Str × Addr)) (fp : List Addr), PE (X.blk s H scope (compEnvC scope cl C X.env) fp) kx tk)
    (he : ∀ (s : Shared) (H : Hp) (C : Addr) (cl : List (Str × Addr)) (fp : List Addr), PE (X.blk s H scope (compEnvC scope cl C X.env) fp) vx tv) (hs : ∀ x, foldedSetIterable iter X.env x = pure x := by intro _; rfl) :
    PS X (.Assign [.Name y py] (.DictComp kx vx [⟨tg, iter, ifs, 0⟩] scope pos) spos) (tAsg (tDc wi g tt tk tv (own.map (·.2))) (gName i)) := by
  refine ⟨fun pins s σ H D I h => ?_⟩
  rw [exec_Assign_Name_used _ _ _ _ hsw]
  refine wpAny_bind (wpAny_standAt (wpAny_bind ?_))
  show wpAny _ X.A (do let _ ← comprehension (.DictComp kx vx [⟨tg, iter, ifs, 0⟩] scope pos) scope X.env (firstIterPos [⟨tg, iter, ifs, 0⟩] pos) newDict false (eval iter X.env) (some (assign (.Name y py) X.env))) _ _ s
  have h : tDc wi g tt tk tv (own.map (·.2)) σ H (fun x H1 => gName i x σ H1 D.nx) := h
  refine wpAny_bind (thn (dc_core (Qf := fun _ s' => SP X pins D .next s') hc hN I hi ok hg ht hk he hs h fun L C s' m H' I' q hn f => ?_) fun _ s' hq => wpAny_pure (wpAny_pure hq))
  show wpAny _ _ (assign (.Name y py) X.env (.ref L)) _ _ _
  refine wpAny_assign_Name (store_ok2 (v := V.ref L) I' hN hy (.inl hyl) rfl (fun s2 I2 ⟨a, sb, ha⟩ => ?_) (.inr hyl))
  obtain ⟨f0, f1, f2, f3, f4, f5⟩ := f
  have haC : C ≠ a := by
    rcases ha with z | z
    · rw [z]; exact f1
    · exact fun e => f4 y a z e.symm
  refine ⟨m, hn.sameBut sb haC, fun h3 sb3 => ?_⟩
  exact ⟨_, H', I2.turned (t' := s2.toks) (fun b o hb e => (sb3.2 b hb).trans e) f0 f1 f3 f4 f5, q⟩
end
end MD

set_option Elab.async false
set_option linter.all false
set_option maxRecDepth 100000
set_option maxHeartbeats 1000000
namespace MD
open PySem PySem.Spec PyProof.Rows L2

/-! ### == with an empty list or tuple, whatever the other holds -/
def emE : D → D → Option Bool
  | .lst ds, .lst [] => some ds.isEmpty
  | .tup ds, .tup [] => some ds.isEmpty
  | _, _ => none
def eqN (d e : D) : Option D := (eqM d e).orElse fun _ => (emE d e).map D.bl
def neN (d e : D) : Option D := (neM d e).orElse fun _ => (emE d e).map fun b => D.bl (!b)
def Emp (K : Fg) (x y : V) (H : Hp) (b : Bool) : Prop :=
  ∃ a c xs, x = .ref a ∧ y = .ref c ∧ b = List.isEmpty xs ∧ ((SqL K H a xs ∧ SqL K H c []) ∨ (SqT K H a xs ∧ SqT K H c []))
def rEqE (K : Fg) : R2 := fun x y H Q => ∃ b, Emp K x y H b ∧ Q (.bl b) H
def rNeE (K : Fg) : R2 := fun x y H Q => ∃ b, Emp K x y H b ∧ Q (.bl (!b)) H
theorem vals_nil {its : List Value} (r : Vals [] its) : its = [] := by cases r; rfl
theorem emp_at {X : Cx} {pins : List (Addr × Obj)} {σ : List (Option V)} {H : Hp} {s : Shared} (I : Inv X pins σ H s) (hu : X.A.units + 64 < cLine) {x y : V} {v u : Value} {b : Bool} (h : Emp X.K x y H b) (rx : RelV x v) (ry : RelV y u) :
    SeqAt.RcAt X.A s v u b ∧ SeqAt.RcNeAt X.A s v u (!b) := by
  obtain ⟨a, c, xs, rfl, rfl, rfl, hh⟩ := h
  cases rx
  cases ry
  have hu1 : X.A.units < cLine := by omega
  rcases hh with ⟨h1, h2⟩ | ⟨h1, h2⟩
  · obtain ⟨its, r1, ⟨o, n, ho, hc, _, hd⟩, _⟩ := I.list h1
    obtain ⟨its2, r2, ⟨o2, n2, ho2, hc2, _, hd2⟩, _⟩ := I.list h2
    cases vals_nil r2
    have l1 : s.heap.IsList a its.toArray := ⟨o, ho, hc, n, hd⟩
    have l2 : s.heap.IsList c #[] := ⟨o2, ho2, hc2, n2, hd2⟩
    have hl := r1.length
    cases xs with
    | nil =>
      cases vals_nil r1
      exact ⟨SeqAt.RcAt.lists (e := fun _ => true) l1 l2 rfl hu1 (fun j h1 _ => absurd h1 (by simp)), SeqAt.RcNeAt.lists (e := fun _ => true) l1 l2 rfl hu1 (fun j h1 _ => absurd h1 (by simp))⟩
    | cons x xs =>
      have hz : (its.toArray.size != (#[] : Array Value).size) = true := by
        simp at hl ⊢
        intro z
        rw [z] at hl
        simp at hl
      exact ⟨SeqAt.RcAt.lists_lengths l1 l2 hz hu1, SeqAt.RcNeAt.lists_lengths l1 l2 hz hu1⟩
  · obtain ⟨its, r1, ⟨o, ho, hc, n, hd⟩, _⟩ := I.tuple h1
    obtain ⟨its2, r2, ⟨o2, ho2, hc2, n2, hd2⟩, _⟩ := I.tuple h2
    cases vals_nil r2
    have l1 : s.heap.IsTuple a its.toArray := ⟨o, ho, hc, n, hd⟩
    have l2 : s.heap.IsTuple c #[] := ⟨o2, ho2, hc2, n2, hd2⟩
    have hl := r1.length
    have q1 := SeqAt.RcAt.tuples (e := fun _ => true) l1 l2 hu1 (fun j _ h2 => absurd h2 (by simp))
    have q2 := SeqAt.RcNeAt.tuples (e := fun _ => true) l1 l2 hu1 (fun j _ h2 => absurd h2 (by simp))
    have hb : ((List.range (min its.toArray.size (#[] : Array Value).size)).all (fun _ => true) && its.toArray.size == (#[] : Array Value).size) = xs.isEmpty := by
      cases xs with
      | nil => cases vals_nil r1; rfl
      | cons x xs =>
        have : its ≠ [] := fun z => by rw [z] at hl; simp at hl
        cases its with
        | nil => exact absurd rfl this
        | cons _ _ => simp
    rw [hb] at q1 q2
    exact ⟨q1, q2⟩
theorem op_eqE {X : Cx} (hu : X.A.units + 64 < cLine) : OpR X (compareOp .Eq) (rEqE X.K) := by
  intro pins s σ H x y v u Q I rx ry h
  obtain ⟨b, hb, q⟩ := h
  exact (emp_at I hu hb rx ry).1 X.prog X.w _ _ ⟨.bl b, H, I, rfl, q⟩
theorem op_neE {X : Cx} (hu : X.A.units + 64 < cLine) : OpR X (compareOp .NotEq) (rNeE X.K) := by
  intro pins s σ H x y v u Q I rx ry h
  obtain ⟨b, hb, q⟩ := h
  exact (emp_at I hu hb rx ry).2 X.prog X.w _ _ ⟨.bl (!b), H, I, rfl, q⟩
section
variable {K : Fg}
theorem emE_ok {dk : Dk} {F : Fz} {H : Hp} (s : Sb F H) {x y : V} {d e : D} {b : Bool} (rx : Rw K dk F H x d) (ry : Rw K dk F H y e) (h : emE d e = some b) : Emp K x y H b := by
  unfold emE at h
  split at h
  · cases h
    obtain ⟨p, vs, rfl, h1, r1⟩ := rx.l s
    obtain ⟨q, us, rfl, h2, r2⟩ := ry.l s
    cases r2
    refine ⟨p, q, vs, rfl, rfl, ?_, .inl ⟨SqL.of h1, SqL.of h2⟩⟩
    cases r1 <;> rfl
  · cases h
    obtain ⟨p, vs, rfl, h1, r1⟩ := rx.tup s
    obtain ⟨q, us, rfl, h2, r2⟩ := ry.tup s
    cases r2
    refine ⟨p, q, vs, rfl, rfl, ?_, .inr ⟨h1, h2⟩⟩
    cases r1 <;> rfl
  · cases h
theorem ro_eqE : RO K (rEqE K) (fun d e => (emE d e).map D.bl) := by
  intro dk F H st x y d e z w rx ry hz Q q
  obtain ⟨b, hb, rfl⟩ := mpd hz
  exact ⟨b, emE_ok w.sub rx ry hb, q (.bl b) F H (Px.refl w.sub) (.bl b)⟩
theorem ro_neE : RO K (rNeE K) (fun d e => (emE d e).map fun b => D.bl (!b)) := by
  intro dk F H st x y d e z w rx ry hz Q q
  obtain ⟨b, hb, rfl⟩ := mpd hz
  exact ⟨b, emE_ok w.sub rx ry hb, q (.bl (!b)) F H (Px.refl w.sub) (.bl (!b))⟩
def rEqN (K : Fg) : R2 := fun x y H Q => rEqA K x y H Q ∨ rEqE K x y H Q
def rNeN (K : Fg) : R2 := fun x y H Q => rNeA K x y H Q ∨ rNeE K x y H Q
theorem ro_eqN : RO K (rEqN K) eqN := ro_eq.or ro_eqE
theorem ro_neN : RO K (rNeN K) neN := ro_ne.or ro_neE
end
theorem op_eqN {X : Cx} (hu : X.A.units + 64 < cLine) : OpR X (compareOp .Eq) (rEqN X.K) := OpR.or (op_eqA hu) (op_eqE hu)
theorem op_neN {X : Cx} (hu : X.A.units + 64 < cLine) : OpR X (compareOp .NotEq) (rNeN X.K) := OpR.or (op_neA hu) (op_neE hu)

/-! ### repr of data in which empty dicts lie -/
mutual
inductive Rds (h : Heap) : Value → PyData → Prop
  | none : Rds h .none .none
  | bool (b : Bool) : Rds h (.bool b) (.bool b)
  | int (i : Int) (t : Tok) : Rds h (.int i t) (.int i)
  | str (x : Str) (t : Tok) : Rds h (.str x t) (.str x)
  | list {a : Addr} {o : Obj} {vs : List Value} {n : Nat} {xs : List PyData} : h.get? a = some o → o.cls = .type "list" → o.data = .seq vs.toArray n → RdsAll h vs xs → Rds h (.ref a) (.list xs)
  | tuple {a : Addr} {o : Obj} {vs : List Value} {n : Nat} {xs : List PyData} : h.get? a = some o → o.cls = .type "tuple" → o.data = .seq vs.toArray n → RdsAll h vs xs → Rds h (.ref a) (.tuple xs)
  | dict0 {a : Addr} {o : Obj} {n : Nat} : h.get? a = some o → o.cls = .type "dict" → o.data = .dict #[] n → (a == sysModules) = false → Rds h (.ref a) (.dict [])
inductive RdsAll (h : Heap) : List Value → List PyData → Prop
  | nil : RdsAll h [] []
  | cons {v : Value} {vs : List Value} {d : PyData} {ds : List PyData} : Rds h v d → RdsAll h vs ds → RdsAll h (v :: vs) (d :: ds)
end
mutual
theorem Rds.reads {h : Heap} : ∀ {v : Value} {d : PyData}, Rds h v d → ∃ as, Reads h v d as
  | _, _, .none => ⟨_, .none⟩
  | _, _, .bool b => ⟨_, .bool b⟩
  | _, _, .int i t => ⟨_, .int i t⟩
  | _, _, .str x t => ⟨_, .str x t⟩
  | _, _, .list h1 h2 h3 h4 => by
    obtain ⟨as, r⟩ := h4.reads
    exact ⟨_, .list h1 h2 h3 (by simpa using r)⟩
  | _, _, .tuple h1 h2 h3 h4 => by
    obtain ⟨as, r⟩ := h4.reads
    exact ⟨_, .tuple h1 h2 h3 (by simpa using r)⟩
  | _, _, .dict0 h1 h2 h3 _ => ⟨_, .dict (kvs := []) h1 h2 h3 .nil .nil⟩
theorem RdsAll.reads {h : Heap} : ∀ {vs : List Value} {ds : List PyData}, RdsAll h vs ds → ∃ as, ReadsAll h vs ds as
  | _, _, .nil => ⟨_, .nil⟩
  | _, _, .cons r rs => by
    obtain ⟨as, q⟩ := r.reads
    obtain ⟨bs, qs⟩ := rs.reads
    exact ⟨_, .cons q qs⟩
end
section
variable {prog : Program} {w : World} {h₀ : Heap}
mutual
theorem reprK_of {h₀ : Heap} : ∀ {v : Value} {d : PyData}, Rds h₀ v d → d.showable = true → d.shown.length ≤ sizeLine → ∃ bs, ReadAtMost h₀ d.depth bs ∧ ReprK prog w bs h₀ d.depth v d.shown
  | _, _, .none, _, _ => ⟨[], (fun _ h => nomatch h), by simp only [PyData.shown]; exact .of_is ReprIs.none _ _ _⟩
  | _, _, .bool b, _, _ => ⟨[], (fun _ h => nomatch h), by simp only [PyData.shown]; exact .of_is (ReprIs.bool b) _ _ _⟩
  | _, _, .int i t, hs, _ => ⟨[], (fun _ h => nomatch h), by simp only [PyData.shown]; exact .of_is (ReprIs.int t (by simpa [PyData.showable] using hs)) _ _ _⟩
  | _, _, .str x t, _, hz => ⟨[], (fun _ h => nomatch h), by simp only [PyData.shown]; exact .of_is (ReprIs.str x t (by simpa only [PyData.shown] using hz)) _ _ _⟩
  | _, _, .list (a := a) (vs := vs) (xs := xs) h1 h2 h3 h4, hs, hz => by
    have hz' : (listText (PyData.shownAll xs)).length ≤ sizeLine := by simpa only [PyData.shown] using hz
    obtain ⟨bs, hb, hk⟩ := reprAllK_of h4 (by simpa [PyData.showable] using hs) (fun t ht => Nat.le_trans (listText_mem_le ht) hz')
    obtain ⟨as, r⟩ := (Rds.list h1 h2 h3 h4).reads
    have hna : a ∉ bs := not_mem_of_deeper r (by simp only [PyData.depth]; omega) hb
    refine ⟨a :: bs, ReadAtMost.cons r (by simp only [PyData.depth]; omega) hb, ?_⟩
    simp only [PyData.depth, PyData.shown]
    cases h4 with
    | nil =>
      simp only [PyData.shownAll, listText_nil]
      exact ReprK.listEmpty h1 h2 h3
    | cons q qs => exact ReprK.list h1 h2 h3 hna (by simpa using hk.length_eq) (fun i y e => hk.item i y (by simpa using e))
  | _, _, .tuple (a := a) (xs := xs) h1 h2 h3 h4, hs, hz => by
    have hz' : (tupleText (PyData.shownAll xs)).length ≤ sizeLine := by simpa only [PyData.shown] using hz
    obtain ⟨bs, hb, hk⟩ := reprAllK_of h4 (by simpa [PyData.showable] using hs) (fun t ht => Nat.le_trans (tupleText_mem_le ht) hz')
    obtain ⟨as, r⟩ := (Rds.tuple h1 h2 h3 h4).reads
    have hna : a ∉ bs := not_mem_of_deeper r (by simp only [PyData.depth]; omega) hb
    refine ⟨a :: bs, ReadAtMost.cons r (by simp only [PyData.depth]; omega) hb, ?_⟩
    simp only [PyData.depth, PyData.shown]
    exact ReprK.tuple h1 h2 h3 hna (by simpa using hk)
  | _, _, .dict0 (a := a) h1 h2 h3 hsys, _, _ => by
    obtain ⟨as, r⟩ := (Rds.dict0 h1 h2 h3 hsys).reads
    refine ⟨a :: [], ReadAtMost.cons (n := 0) r (Nat.zero_le _) (fun _ h => nomatch h), ?_⟩
    have := ReprK.dict (prog := prog) (w := w) (as := []) (d := 0) (ps := []) h1 h2 h3 hsys (fun h => nomatch h) .nil
    simpa [PyData.depth, PyData.depthKv, PyData.shown, PyData.shownKv] using this
theorem reprAllK_of {h₀ : Heap} : ∀ {vs : List Value} {ds : List PyData}, RdsAll h₀ vs ds → PyData.showableAll ds = true → (∀ t ∈ PyData.shownAll ds, t.length ≤ sizeLine) →
    ∃ bs, ReadAtMost h₀ (PyData.depthAll ds) bs ∧ ReprAllK prog w bs h₀ (PyData.depthAll ds) vs (PyData.shownAll ds)
  | _, _, .nil, _, _ => ⟨[], (fun _ h => nomatch h), by simp only [PyData.shownAll]; exact .nil⟩
  | _, _, .cons (d := d) (ds := ds) r rs, hs, hz => by
    have hs' : d.showable = true ∧ PyData.showableAll ds = true := by simpa [PyData.showableAll] using hs
    obtain ⟨b1, hb1, k1⟩ := reprK_of r hs'.1 (hz _ (by simp only [PyData.shownAll]; exact List.mem_cons_self ..))
    obtain ⟨b2, hb2, k2⟩ := reprAllK_of rs hs'.2 (fun t ht => hz t (by simp only [PyData.shownAll]; exact List.mem_cons_of_mem _ ht))
    refine ⟨b1 ++ b2, ?_, ?_⟩
    · simp only [PyData.depthAll]
      exact (hb1.mono (Nat.le_max_left _ _)).append (hb2.mono (Nat.le_max_right _ _))
    · simp only [PyData.depthAll, PyData.shownAll]
      exact .cons ((k1.more fun b hb => List.mem_append_left _ hb).level_le (Nat.le_max_left _ _)) (k2.more_le (fun b hb => List.mem_append_right _ hb) (Nat.le_max_right _ _))
end
theorem showsBy_of {a : Addr} {d : PyData} (r : Rds h₀ (.ref a) d) (hs : d.showable = true) (hz : d.shown.length ≤ sizeLine) : ∃ T idr, ShowsBy prog w h₀ a d T idr := by
  cases r with
  | @list _ o vs n xs h1 h2 h3 h4 =>
    have hz' : (listText (PyData.shownAll xs)).length ≤ sizeLine := by simpa only [PyData.shown] using hz
    obtain ⟨bs, hb, hk⟩ := reprAllK_of (prog := prog) (w := w) h4 (by simpa [PyData.showable] using hs) (fun t ht => Nat.le_trans (listText_mem_le ht) hz')
    obtain ⟨as, r⟩ := (Rds.list h1 h2 h3 h4).reads
    have hna : a ∉ bs := not_mem_of_deeper r (by simp only [PyData.depth]; omega) hb
    refine ⟨"list", "list.__repr__", F.slot_list_repr.toG, F.slot_list_str, F.slot_list_format, fun s hk0 => ⟨o, hk0 _ _ h1, h2⟩, fun A E s Q hg hu hk0 hQ => ?_⟩
    simp only [PyData.depth] at hu
    simp only [PyData.shown] at hQ
    cases h4 with
    | nil =>
      simp only [PyData.shownAll, listText_nil] at hQ
      exact call_list_repr_empty ⟨o, hk0 _ _ h1, h2⟩ (hk0 _ _ h1) h3 (hQ s.heap _ _ fun _ _ e => e)
    | cons q qs => exact call_list_reprK h1 h2 h3 hna (by simpa using hk.length_eq) (fun i y e => hk.item i y (by simpa using e)) hg (fun b _ => Clear.nil b) hu hk0 hQ hz'
  | @tuple _ o vs n xs h1 h2 h3 h4 =>
    have hz' : (tupleText (PyData.shownAll xs)).length ≤ sizeLine := by simpa only [PyData.shown] using hz
    obtain ⟨bs, hb, hk⟩ := reprAllK_of (prog := prog) (w := w) h4 (by simpa [PyData.showable] using hs) (fun t ht => Nat.le_trans (tupleText_mem_le ht) hz')
    obtain ⟨as, r⟩ := (Rds.tuple h1 h2 h3 h4).reads
    have hna : a ∉ bs := not_mem_of_deeper r (by simp only [PyData.depth]; omega) hb
    refine ⟨"tuple", "tuple.__repr__", F.slot_tuple_repr, F.slot_tuple_str, F.slot_tuple_format, fun s hk0 => ⟨o, hk0 _ _ h1, h2⟩, fun A E s Q hg hu hk0 hQ => ?_⟩
    simp only [PyData.depth] at hu
    simp only [PyData.shown] at hQ
    exact call_tuple_reprK h1 h2 h3 hna (by simpa using hk) hg (fun b _ => Clear.nil b) hu hk0 hQ hz'
  | @dict0 _ o n h1 h2 h3 hsys =>
    refine ⟨"dict", "dict.__repr__", F.slot_dict_repr, F.slot_dict_str, F.slot_dict_format, fun s hk0 => ⟨o, hk0 _ _ h1, h2⟩, fun A E s Q hg hu hk0 hQ => ?_⟩
    simp only [PyData.depth, PyData.depthKv] at hu
    simp only [PyData.shown, PyData.shownKv] at hQ
    have hz' : (dictText []).length ≤ sizeLine := by simpa only [PyData.shown, PyData.shownKv] using hz
    exact call_dict_reprK (as := []) (d := 0) (ps := []) h1 h2 h3 hsys (fun h => nomatch h) .nil hg (fun b _ => Clear.nil b) hu hk0 hQ hz'
theorem repr_of_rds {a : Addr} {d : PyData} {A : Around} {E : Value → Shared → Prop} {s : Shared} {Q : Value → Shared → Prop} (r : Rds s.heap (.ref a) d) (hs : d.showable = true) (hg : A.guards = some []) (hu : A.units + (d.depth + 1) < cLine)
    (hQ : ∀ h' u tk, (∀ b o, s.heap.get? b = some o → h'.get? b = some o) → Q (.str d.shown u) { s with heap := h', toks := tk })
    (hz : d.shown.length ≤ sizeLine) : wpAny (model prog w) A (call (.builtin "repr") [.ref a]) Q E s := by
  obtain ⟨T, idr, S⟩ := showsBy_of (prog := prog) (w := w) r hs hz
  exact call_repr_slot (by omega) (S.typeIs s fun _ _ e => e) S.slotRepr (S.call A.in1 E s _ hg (by show A.units + 1 + d.depth < cLine; omega) (fun _ _ e => e) fun h' u tk hk => ⟨_, _, rfl, hQ h' u tk hk⟩)
end
/-! data of values, empty dicts among them -/
mutual
inductive Dq (K : Fg) (H : Hp) : V → PyData → Prop
  | non : Dq K H .non .none
  | bl (b : Bool) : Dq K H (.bl b) (.bool b)
  | int (i : Int) : Dq K H (.int i) (.int i)
  | str (x : Str) : Dq K H (.str x) (.str x)
  | lst {a : Addr} {xs : List V} {ds : List PyData} : SqL K H a xs → DqAll K H xs ds → Dq K H (.ref a) (.list ds)
  | tup {a : Addr} {xs : List V} {ds : List PyData} : SqT K H a xs → DqAll K H xs ds → Dq K H (.ref a) (.tuple ds)
  | dic {a : Addr} : Rd H a (.dK []) → Dq K H (.ref a) (.dict [])
inductive DqAll (K : Fg) (H : Hp) : List V → List PyData → Prop
  | nil : DqAll K H [] []
  | cons {v : V} {vs : List V} {d : PyData} {ds : List PyData} : Dq K H v d → DqAll K H vs ds → DqAll K H (v :: vs) (d :: ds)
end
section
variable {X : Cx} {pins : List (Addr × Obj)} {σ : List (Option V)} {H : Hp} {s : Shared}
mutual
theorem Dq.rds (I : Inv X pins σ H s) : ∀ {v : V} {d : PyData} {u : Value}, Dq X.K H v d → RelV v u → Rds s.heap u d
  | _, _, _, .non, r => by cases r; exact .none
  | _, _, _, .bl b, r => by cases r; exact .bool b
  | _, _, _, .int i, r => by obtain ⟨t, rfl⟩ := r; exact .int i t
  | _, _, _, .str x, r => by obtain ⟨t, rfl⟩ := r; exact .str x t
  | _, _, _, .lst h1 h2, r => by
    cases r
    obtain ⟨its, rv, ⟨o, n, ho, hc, _, hd⟩, _⟩ := I.list h1
    exact .list ho hc hd (DqAll.rds I h2 rv)
  | _, _, _, .tup h1 h2, r => by
    cases r
    obtain ⟨its, rv, ⟨o, ho, hc, n, hd⟩, _⟩ := I.tuple h1
    exact .tuple ho hc hd (DqAll.rds I h2 rv)
  | _, _, _, .dic h, r => by
    cases r
    obtain ⟨_, hs, vs, kv, o, es, ep, ho, hx, hd, _, hp, _⟩ := dk_rd I.hok h
    cases kv
    have he : es = #[] := by
      have := hp.length
      apply Array.eq_empty_of_size_eq_zero
      simpa using this
    subst he
    exact .dict0 ho hx.1 hd hs
theorem DqAll.rds (I : Inv X pins σ H s) : ∀ {vs : List V} {ds : List PyData} {us : List Value}, DqAll X.K H vs ds → Vals vs us → RdsAll s.heap us ds
  | _, _, _, .nil, r => by cases r; exact .nil
  | _, _, _, .cons h1 h2, r => by
    cases r with
    | cons r1 r2 => exact .cons (Dq.rds I h1 r1) (DqAll.rds I h2 r2)
end
end
def rReprQ (K : Fg) : List V → Hp → VK → Prop := fun xs H Q => ∃ x d, xs = [x] ∧ Dq K H x d ∧ d.showable = true ∧ d.depth ≤ 60 ∧ d.shown.length ≤ sizeLine ∧ Q (.str d.shown) H
theorem call_reprQ {X : Cx} (hg : X.A.guards = some []) (hu : X.A.units + 64 < cLine) : CallR X (.builtin "repr") (rReprQ X.K) := by
  intro pins s σ H xs us Q I rs h
  obtain ⟨x, d, rfl, hd, hs, hdp, hz, q⟩ := h
  obtain ⟨u, rfl, rx⟩ := vals1 rs
  have hr := Dq.rds I hd rx
  cases id hd with
  | non => cases rx; exact PySem.P.repr_of_none ⟨.str _, H, I.tok _, ⟨_, rfl⟩, q⟩
  | bl b => cases rx; exact PySem.P.repr_of_bool ⟨.str _, H, I.tok _, ⟨_, rfl⟩, q⟩
  | int i =>
    obtain ⟨t, rfl⟩ := rx
    exact PySem.P.repr_of_int (by simpa [PyData.showable] using hs) ⟨.str _, H, I.tok _, ⟨_, rfl⟩, q⟩
  | str y =>
    obtain ⟨t, rfl⟩ := rx
    exact PySem.P.repr_of_str ⟨.str _, H, I.tok _, ⟨_, rfl⟩, q⟩ hz
  | lst h1 h2 =>
    cases rx
    exact repr_of_rds hr hs hg (by omega) (fun h' u tk hk => ⟨.str _, H, I.kept hk, ⟨_, rfl⟩, q⟩) hz
  | tup h1 h2 =>
    cases rx
    exact repr_of_rds hr hs hg (by omega) (fun h' u tk hk => ⟨.str _, H, I.kept hk, ⟨_, rfl⟩, q⟩) hz
  | dic h1 =>
    cases rx
    exact repr_of_rds hr hs hg (by omega) (fun h' u tk hk => ⟨.str _, H, I.kept hk, ⟨_, rfl⟩, q⟩) hz
mutual
def D.qy : D → PyData
  | .non => .none
  | .bl b => .bool b
  | .int i => .int i
  | .str s => .str s
  | .lst xs => .list (qyAll xs)
  | .tup xs => .tuple (qyAll xs)
  | .deck => .none
  | .dic _ _ => .dict []
  | .ref _ => .none
def qyAll : List D → List PyData
  | [] => []
  | x :: xs => D.qy x :: qyAll xs
end
mutual
def D.ql : D → Bool
  | .lst xs => qlAll xs
  | .tup xs => qlAll xs
  | .deck => false
  | .dic ks ds => ks.isEmpty && ds.isEmpty
  | .ref _ => false
  | .non => true
  | .bl _ => true
  | .int _ => true
  | .str _ => true
def qlAll : List D → Bool
  | [] => true
  | x :: xs => D.ql x && qlAll xs
end
section
variable {K : Fg} {dk : Dk} {F : Fz} {H : Hp}
mutual
theorem Rp.dq (le : Sb F H) : ∀ {v : V} {d : D}, Rp K dk F v d → d.ql = true → Dq K H v d.qy
  | _, _, .non, _ => .non
  | _, _, .bl b, _ => .bl b
  | _, _, .int i, _ => .int i
  | _, _, .str x, _ => .str x
  | _, _, .lst h r, p => .lst (SqL.of (le.lst h)) (Rps.dq le r (by simpa [D.ql] using p))
  | _, _, .tup h r, p => .tup (le.sqT h) (Rps.dq le r (by simpa [D.ql] using p))
  | _, _, .deck, p => by simp [D.ql] at p
  | _, _, .dic (ks := ks) h hl r, p => by
    have p' : ks = [] := by
      simp [D.ql] at p
      exact p.1
    subst p'
    exact .dic (le.dK h)
  | _, _, .ref _, p => by simp [D.ql] at p
theorem Rps.dq (le : Sb F H) : ∀ {vs : List V} {ds : List D}, Rps K dk F vs ds → qlAll ds = true → DqAll K H vs (qyAll ds)
  | _, _, .nil, _ => .nil
  | _, _, .cons a b, p => by
    simp only [qlAll, Bool.and_eq_true] at p
    exact .cons (Rp.dq le a p.1) (Rps.dq le b p.2)
end
theorem Rw.dq (le : Sb F H) {v : V} {d : D} (r : Rw K dk F H v d) (p : d.ql = true) : Dq K H v d.qy := by
  cases r with
  | rp r => exact r.dq le p
  | lst h r => exact .lst (SqL.of h) (r.dq le (by simpa [D.ql] using p))
  | dic h hl r =>
    rename_i ks _ _
    have p' : ks = [] := by
      simp [D.ql] at p
      exact p.1
    subst p'
    exact .dic h
end
def reprQ : List D → Option D
  | [d] => if d.ql && d.qy.showable && decide (d.qy.depth ≤ 60) && decide (d.qy.shown.length ≤ sizeLine) then some (.str d.qy.shown) else none
  | _ => none
theorem rc_reprQ {K : Fg} : RC K (rReprQ K) reprQ := by
  intro dk F H st vs ds z w rx hz Q q
  unfold reprQ at hz
  split at hz
  · split at hz
    · rename_i ho
      cases hz
      simp only [Bool.and_eq_true, decide_eq_true_eq] at ho
      obtain ⟨v, rfl, r⟩ := rx.one
      exact ⟨v, _, rfl, r.dq w.sub ho.1.1.1, ho.1.1.2, ho.1.2, ho.2, q _ F H (Px.refl w.sub) (.str _)⟩
    · cases hz
  · cases hz
end MD

set_option Elab.async false
set_option linter.all false
set_option maxRecDepth 100000
set_option maxHeartbeats 1000000
namespace MD
open PySem PySem.Spec PyProof.Rows L2

/-! ### dicts whose keys are nested tuples of numbers, bools and None -/
mutual
inductive Nk (K : Fg) (H : Hp) : NestedKey → V → Prop
  | non : Nk K H .none .non
  | bl (b : Bool) : Nk K H (.num (if b = true then 1 else 0)) (.bl b)
  | int (i : Int) : Nk K H (.num i) (.int i)
  | tup {a : Addr} {vs : List V} {ks : List NestedKey} : SqT K H a vs → Nks K H ks vs → Nk K H (.tup ks) (.ref a)
inductive Nks (K : Fg) (H : Hp) : List NestedKey → List V → Prop
  | nil : Nks K H [] []
  | cons {k : NestedKey} {v : V} {ks : List NestedKey} {vs : List V} : Nk K H k v → Nks K H ks vs → Nks K H (k :: ks) (v :: vs)
end
section
variable {X : Cx} {pins : List (Addr × Obj)} {σ : List (Option V)} {H : Hp} {s : Shared}
mutual
theorem Nk.is (I : Inv X pins σ H s) : ∀ {k : NestedKey} {v : V} {u : Value}, Nk X.K H k v → RelV v u → NestedIs s.heap k u
  | _, _, _, .non, r => by cases r; exact .none
  | _, _, _, .bl b, r => by cases r; exact .bool rfl
  | _, _, _, .int i, r => by obtain ⟨t, rfl⟩ := r; exact .int i t
  | _, _, _, .tup h1 h2, r => by
    cases r
    obtain ⟨its, rv, ⟨o, ho, hc, n, hd⟩, _⟩ := I.tuple h1
    exact .tup ho hc hd (by simpa using Nks.are I h2 rv)
theorem Nks.are (I : Inv X pins σ H s) : ∀ {ks : List NestedKey} {vs : List V} {us : List Value}, Nks X.K H ks vs → Vals vs us → NestedAll s.heap ks us
  | _, _, _, .nil, r => by cases r; exact .nil
  | _, _, _, .cons h1 h2, r => by
    cases r with
    | cons r1 r2 => exact .cons (Nk.is I h1 r1) (Nks.are I h2 r2)
end
end
section
variable {K : Fg} {H : Hp}
mutual
theorem Nk.hash : ∀ {k : NestedKey} {v : V}, Nk K H k v → ∀ w w' : World, k.hash w = k.hash w'
  | _, _, .non, _, _ => rfl
  | _, _, .bl _, _, _ => rfl
  | _, _, .int _, _, _ => rfl
  | _, _, .tup _ h2, w, w' => by
    show reduceHash (Builtin.Tuple.tupleHashOf (NestedKey.hashes w _)) = reduceHash (Builtin.Tuple.tupleHashOf (NestedKey.hashes w' _))
    rw [Nks.hashes h2 w w']
theorem Nks.hashes : ∀ {ks : List NestedKey} {vs : List V}, Nks K H ks vs → ∀ w w' : World, NestedKey.hashes w ks = NestedKey.hashes w' ks
  | _, _, .nil, _, _ => rfl
  | _, _, .cons h1 h2, w, w' => by
    show NestedKey.hash w _ :: NestedKey.hashes w _ = NestedKey.hash w' _ :: NestedKey.hashes w' _
    rw [Nk.hash h1 w w', Nks.hashes h2 w w']
end
variable {dk : Dk} {F : Fz}
mutual
theorem Rp.nk (le : Sb F H) : ∀ {v : V} {d : D} {k : NestedKey}, Rp K dk F v d → nkOf d = some k → Nk K H k v
  | _, _, _, .non, e => by cases e; exact .non
  | _, _, _, .bl b, e => by cases e; exact .bl b
  | _, _, _, .int i, e => by cases e; exact .int i
  | _, _, _, .str _, e => by cases e
  | _, _, _, .lst _ _, e => by cases e
  | _, _, _, .tup h r, e => by
    obtain ⟨ks, e1, e2⟩ := mpd (show (nksOf _).map NestedKey.tup = some _ from e)
    cases e2
    exact .tup (le.sqT h) (Rps.nks le r e1)
  | _, _, _, .deck, e => by cases e
  | _, _, _, .dic _ _ _, e => by cases e
  | _, _, _, .ref _, e => by cases e
theorem Rps.nks (le : Sb F H) : ∀ {vs : List V} {ds : List D} {ks : List NestedKey}, Rps K dk F vs ds → nksOf ds = some ks → Nks K H ks vs
  | _, _, _, .nil, e => by cases e; exact .nil
  | _, _, _, .cons a b, e => by
    obtain ⟨k, e1, e⟩ := bnd (show ((nkOf _).bind fun k => (nksOf _).map (k :: ·)) = some _ from e)
    obtain ⟨ks, e2, e3⟩ := mpd e
    cases e3
    exact .cons (Rp.nk le a e1) (Rps.nks le b e2)
end
end
abbrev Zs := List (NestedKey × Addr × Value)
structure NkD (K : Fg) (H : Hp) (c : Addr) (zs : Zs) : Prop where
  h : H c = some (.ext (NkAt c zs))
  k : ∀ z ∈ zs, Nk K H z.1 (.ref z.2.1) ∧ z.1.depth ≤ 8
  n : (zs.map fun z => z.1).Nodup
section
variable {X : Cx} {pins : List (Addr × Obj)} {σ : List (Option V)} {H : Hp} {s : Shared}
theorem NkD.dict {c : Addr} {zs : Zs} (d : NkD X.K H c zs) (I : Inv X pins σ H s) : s.heap.DictOfH (nestedKind X.prog X.w) c zs ∧ (c == sysModules) = false ∧ zs.length ≤ sizeLine := by
  obtain ⟨⟨h1, h2, o, es, ep, ho, hx, hd, he⟩, _, _⟩ := I.hok c _ d.h
  exact ⟨⟨o, es, ep, ho, hx, hd, he X.w, fun z hz => ⟨Nk.is I (d.k z hz).1 rfl, (d.k z hz).2⟩, d.n⟩, h1, h2⟩
theorem nk_ok {P : Program} {w : World} {H' : Hp} {h' : Heap} {c : Addr} {zs : Zs} (hc : (c == sysModules) = false) (hl : zs.length ≤ sizeLine) (hw : ∀ z ∈ zs, ∀ w' : World, z.1.hash w' = z.1.hash w) (hd : h'.DictOfH (nestedKind P w) c zs) :
    ObjOk P w H' h' c (.ext (NkAt c zs)) := by
  obtain ⟨o, es, ep, ho, hx, hd, he, _, _⟩ := hd
  have hN : NkAt c zs h' := ⟨hc, hl, o, es, ep, ho, hx, hd, fun w' => by
    rw [he]
    refine List.map_congr_left fun z hz => ?_
    show (⟨z.1.hash w, .ref z.2.1, z.2.2⟩ : DictEntry) = ⟨z.1.hash w', .ref z.2.1, z.2.2⟩
    rw [hw z hz w']⟩
  refine ⟨hN, ⟨o, ho⟩, fun h1 h2 q e => ?_⟩
  obtain ⟨q1, q2, o', es', ep', q3, q4, q5, q6⟩ := q
  exact ⟨q1, q2, o', es', ep', e _ q3, q4, q5, q6⟩
end
/-! ### k in d, k not in d -/
def rNkIn (K : Fg) (neg : Bool) : R2 := fun x y H Q => ∃ b c k zs, x = .ref b ∧ y = .ref c ∧ Nk K H k (.ref b) ∧ k.depth ≤ 8 ∧ NkD K H c zs ∧ Q (.bl (if neg = true then !(atKey zs k).isSome else (atKey zs k).isSome)) H
theorem room_nk {X : Cx} (hu : X.A.units + 64 < cLine) : (nestedKind X.prog X.w).room X.A.in1 := by
  show X.A.units + 1 + 8 < cLine
  omega
theorem op_nkIn {X : Cx} (hu : X.A.units + 64 < cLine) : OpR X (compareOp .In) (rNkIn X.K false) := by
  intro pins s σ H x y v u Q I rx ry h
  obtain ⟨b, c, k, zs, rfl, rfl, hk, hd, dd, q⟩ := h
  cases rx
  cases ry
  obtain ⟨d1, d2, d3⟩ := dd.dict I
  exact wpAny_in_heap (room_nk hu) ⟨Nk.is I hk rfl, hd⟩ d2 d1 ⟨.bl _, H, I.tok _, rfl, q⟩
theorem op_nkNotIn {X : Cx} (hu : X.A.units + 64 < cLine) : OpR X (compareOp .NotIn) (rNkIn X.K true) := by
  intro pins s σ H x y v u Q I rx ry h
  obtain ⟨b, c, k, zs, rfl, rfl, hk, hd, dd, q⟩ := h
  cases rx
  cases ry
  obtain ⟨d1, d2, d3⟩ := dd.dict I
  refine notIn_keyed (knd := nestedKind X.prog X.w) (kvs := pairsH zs) (room_nk hu) ⟨Nk.is I hk rfl, hd⟩ d2 ⟨zs, d1, rfl⟩ ?_
  rw [valueAt_pairsH, Option.isSome_map]
  exact ⟨.bl _, H, I.tok _, rfl, q⟩
/-! ### d[k] -/
def rNkGet (K : Fg) : R2 := fun x y H Q => ∃ b c k zs p, x = .ref c ∧ y = .ref b ∧ Nk K H k (.ref b) ∧ k.depth ≤ 8 ∧ NkD K H c zs ∧ atKey zs k = some p ∧ ∀ v, RelV v p.2 → Q v H
/-! ### d[k] = v -/
def sNPut (K : Fg) (td ty tv : TE) : TS := fun D σ H => tv σ H fun v H1 => td σ H1 fun x H2 => ty σ H2 fun y H3 =>
  ∃ b c k zs, x = .ref c ∧ y = .ref b ∧ Nk K H3 k (.ref b) ∧ k.depth ≤ 8 ∧ NkD K H3 c zs ∧ zs.length < sizeLine ∧ ∀ u, RelV v u → D.nx σ (upd H3 c (.ext (NkAt c (storedH zs k b u))))
theorem stored_len (zs : Zs) (k : NestedKey) (b : Addr) (u : Value) : (storedH zs k b u).length ≤ zs.length + 1 := by
  unfold storedH
  split <;> simp
theorem stored_mem {zs : Zs} {k : NestedKey} {b : Addr} {u : Value} {z : NestedKey × Addr × Value} (h : z ∈ storedH zs k b u) : (∃ y ∈ zs, z.1 = y.1 ∧ z.2.1 = y.2.1) ∨ (z.1 = k ∧ z.2.1 = b) := by
  unfold storedH at h
  split at h
  · obtain ⟨y, hy, rfl⟩ := List.mem_map.mp h
    refine .inl ⟨y, hy, ?_⟩
    unfold putAt
    split <;> exact ⟨rfl, rfl⟩
  · rcases List.mem_append.mp h with h | h
    · exact .inl ⟨z, h, rfl, rfl⟩
    · rw [List.mem_singleton.mp h]; exact .inr ⟨rfl, rfl⟩
theorem stored_nodup {zs : Zs} (h : (zs.map fun z => z.1).Nodup) (k : NestedKey) (b : Addr) (u : Value) : ((storedH zs k b u).map fun z => z.1).Nodup := by
  unfold storedH
  split
  · rw [keys_map_putAt]; exact h
  · rename_i hn
    rw [List.map_append, List.nodup_append]
    refine ⟨h, by simp, fun a ha c hc e => hn ?_⟩
    have hc' : c = k := by simpa using hc
    obtain ⟨y, hy, hy1⟩ := List.mem_map.mp ha
    unfold atKey
    rw [Option.isSome_map, List.find?_isSome]
    exact ⟨y, hy, decide_eq_true (by rw [hy1, e, hc'])⟩
section
variable {X : Cx} {o i e value : Expr} {pos pos' tpos : Pos} {td ty tv : TE}
theorem ps_nput (hu : X.A.units + 64 < cLine) (ho : PE X o td) (hi : PE X i ty) (hv : PE X value tv) (hs : swapsWith value (some (.Subscript o i pos')) pos.line X.env = pure false) :
    PS X (.Assign [.Subscript o i pos'] value pos) (sNPut X.K td ty tv) := by
  refine ⟨fun pins s σ H D I h => ?_⟩
  refine wpAny_Assign_Subscript (thn (hv.run pins s σ H _ I h) fun r s1 ⟨v, H1, I1, rv, q1⟩ => thn (ho.run pins s1 σ H1 _ I1 q1) fun u s2 ⟨x, H2, I2, rx, q2⟩ => thn (hi.run pins s2 σ H2 _ I2 q2) fun iv s3 ⟨y, H3, I3, ry, b, c, k, zs, ex, ey, hk, hd, dd, hl, q3⟩ => ?_) hs
  subst ex ey
  obtain rfl : u = Value.ref c := rx
  obtain rfl : iv = Value.ref b := ry
  obtain ⟨d1, d2, d3⟩ := dd.dict I3
  refine wpAny_setItem_heap (hsz := d3) (room_nk hu) ⟨Nk.is I3 hk rfl, hd⟩ d1 fun h' dd' hsb => ⟨σ, _, ?_, q3 _ rv⟩
  have he : ∃ q, h'.get? c = some q := let ⟨q, _, _, hq, _⟩ := dd'; ⟨q, hq⟩
  refine d_write I3 (by rw [dd.h]; exact True.intro) hsb he (nk_ok d2 (by have := stored_len zs k b r; omega) (fun z hz w' => ?_) dd')
  rcases stored_mem hz with ⟨y, hy, e1, _⟩ | ⟨e1, _⟩
  · rw [e1]; exact Nk.hash (dd.k y hy).1 _ _
  · rw [e1]; exact Nk.hash hk _ _
/-! ### {k: v} -/
def tDispN (K : Fg) (tk tv : TE) : TE := fun σ H Q => ∀ p, H p = none → tk σ (upd H p (.ext (NkAt p []))) fun x H1 => tv σ H1 fun y H2 =>
  H2 p = some (.ext (NkAt p [])) ∧ ∃ b k, x = .ref b ∧ Nk K H2 k (.ref b) ∧ k.depth ≤ 8 ∧ ∀ u, RelV y u → Q (.ref p) (upd H2 p (.ext (NkAt p [(k, b, u)])))
theorem pe_dispN {ke ve : Expr} {tk tv : TE} (hu : X.A.units + 64 < cLine) (hk : PE X ke tk) (hv : PE X ve tv) : PE X (.Dict [some ke] [ve] pos) (tDispN X.K tk tv) := by
  refine ⟨fun pins s σ H Q I q => ?_⟩
  have hn := I.hok.fresh (Nat.le_refl s.heap.objs.size)
  have hb := I.big
  have hsys : (s.heap.objs.size == sysModules) = false := (dk_empty (P := X.prog) (w := X.w) (H := H) s.heap I.big).2.1
  have I1 := I.laid (a := s.heap.objs.size) (o := .ext (NkAt s.heap.objs.size [])) (h' := s.heap.push { cls := .type "dict", data := .dict #[] }) (t' := s.toks) (fun _ _ q => Heap.get?_push_of_some _ q) (Nat.le_refl _)
    (nk_ok hsys (Nat.zero_le _) (fun _ h => nomatch h) (Heap.DictOfH.new (knd := nestedKind X.prog X.w) s.heap))
  refine wpAny_Dict_any rfl rfl (by simp) (by simp) (thn ((pps_cons hk hv pps_nil).run pins _ σ _ (fun ps H2 => match ps with
    | [(x, y)] => H2 s.heap.objs.size = some (.ext (NkAt s.heap.objs.size [])) ∧ ∃ b k, x = .ref b ∧ Nk X.K H2 k (.ref b) ∧ k.depth ≤ 8 ∧ ∀ u, RelV y u → Q (.ref s.heap.objs.size) (upd H2 s.heap.objs.size (.ext (NkAt s.heap.objs.size [(k, b, u)])))
    | _ => False) I1 (q _ hn)) fun ws s2 ⟨ps, H2, I2, rel, q2⟩ => ?_)
  match ps, ws, rel, q2 with
  | [], _, _, q2 => exact q2.elim
  | _ :: _ :: _, _, _, q2 => exact q2.elim
  | [(x, y)], _, .cons (b := (u, r)) ⟨rx, ry⟩ .nil, q2 =>
    obtain ⟨e, b, k, ex, nk, kd, q3⟩ := q2
    subst ex
    obtain rfl : u = Value.ref b := rx
    have dd : NkD X.K H2 s.heap.objs.size [] := ⟨e, (fun _ h => nomatch h), List.nodup_nil⟩
    obtain ⟨d1, d2, d3⟩ := dd.dict I2
    show wpAny _ _ (forIn [(Value.ref b, r)] PUnit.unit _) _ _ _
    rw [List.forIn_cons]
    have hr : (nestedKind X.prog X.w).room X.A := by show X.A.units + 8 < cLine; omega
    refine wpAny_bind (wpAny_bind (wpAny_dictSet_heap (hsz := d3) hr ⟨Nk.is I2 nk rfl, kd⟩ d1 fun h' dd' hsb => wpAny_pure ?_))
    refine wpAny_pure ⟨.ref s.heap.objs.size, _, ?_, rfl, q3 r ry⟩
    have he : ∃ q, h'.get? s.heap.objs.size = some q := let ⟨q, _, _, hq, _⟩ := dd'; ⟨q, hq⟩
    refine d_write I2 (by rw [e]; exact True.intro) hsb he (nk_ok (w := X.w) d2 (by rw [sizeLine_eq]; simp) (fun z hz w' => ?_) dd')
    rw [List.mem_singleton.mp hz]
    exact Nk.hash nk _ _
end
/-! ### the mirrors -/
def hasN (ks : List D) (k : NestedKey) : Bool := ks.any fun d => decide (nkOf d = some k)
def nkdAt (st : S) (n : Nat) : Option (List D × List D) := match st.ob[n]? with
  | some (.nkd ks ds) => some (ks, ds)
  | _ => none
def nkT : D → Option NestedKey
  | .tup ds => nkOf (.tup ds)
  | _ => none
theorem nkT_of {d : D} {k : NestedKey} (h : nkT d = some k) : nkOf d = some k := by
  cases d with
  | tup ds => exact h
  | _ => cases h
section
variable {K : Fg} {dk : Dk} {F : Fz} {H : Hp} {st : S}
theorem nkdAt_eq {n : Nat} {q : List D × List D} (h : nkdAt st n = some q) : st.ob[n]? = some (.nkd q.1 q.2) := by
  unfold nkdAt at h
  split at h
  · rename_i e; cases h; exact e
  · cases h
theorem Rp.nkT {v : V} {d : D} {k : NestedKey} (r : Rp K dk F v d) (le : Sb F H) (h : MD.nkT d = some k) : ∃ b, v = .ref b ∧ Nk K H k (.ref b) := by
  unfold MD.nkT at h
  split at h
  · have := Rp.nk le r h
    cases r with
    | tup _ _ => exact ⟨_, rfl, this⟩
  · cases h
theorem nk_keys (le : Sb F H) : ∀ {zs : Zs} {ks : List D}, Rps K dk F (zs.map fun z => V.ref z.2.1) ks → ks.map nkOf = zs.map (fun z => some z.1) → ∀ z ∈ zs, Nk K H z.1 (.ref z.2.1)
  | [], _, _, _, z, hz => nomatch hz
  | y :: zs, _, .cons a b, e, z, hz => by
    rw [List.map_cons, List.map_cons] at e
    injection e with e1 e2
    rcases List.mem_cons.mp hz with q | q
    · rw [q]; exact Rp.nk le a e1
    · exact nk_keys le b e2 z q
theorem Wd.nkdAt {n : Nat} {a : Addr} {q : List D × List D} (w : Wd K dk F H st) (hn : F.mu[n]? = some a) (h : MD.nkdAt st n = some q) :
    ∃ (zs : Zs) (vs : List V), NkD K H a zs ∧ Rps K dk F (zs.map fun z => V.ref z.2.1) q.1 ∧ q.1.map nkOf = zs.map (fun z => some z.1) ∧ Vals vs (zs.map fun z => z.2.2) ∧ Rps K dk F vs q.2 := by
  obtain ⟨_, o⟩ := w.ob n a _ hn (nkdAt_eq h)
  cases o with
  | nkd h1 h2 h3 h4 h5 h6 h7 => exact ⟨_, _, ⟨h1, fun z hz => ⟨nk_keys w.sub h2 h3 z hz, h7 z hz⟩, h6⟩, h2, h3, h4, h5⟩
theorem has_atKey : ∀ {zs : Zs} {ks : List D} (k : NestedKey), ks.map nkOf = zs.map (fun z => some z.1) → (atKey zs k).isSome = hasN ks k
  | [], [], k, _ => rfl
  | [], _ :: _, k, e => by cases e
  | _ :: _, [], k, e => by cases e
  | z :: zs, d :: ks, k, e => by
    rw [List.map_cons, List.map_cons] at e
    injection e with e1 e2
    have ih := has_atKey k e2
    unfold atKey hasN at *
    rw [List.find?_cons, List.any_cons, e1]
    by_cases h : z.1 = k
    · simp [h]
    · have h' : ¬ (some z.1 = some k) := fun q => h (Option.some.inj q)
      simp only [h, h', decide_false, Bool.false_or]
      exact ih
end
section
variable {K : Fg}
def ninM (neg : Bool) (fa fd : ME) : ME := fun env st => (fa env st).bind fun p => (fd env p.2).bind fun q => (refOf q.1).bind fun n => (nkdAt q.2 n).bind fun z => (nkT p.1).bind fun k => if k.depth ≤ 8 then some (.bl (if neg = true then !hasN z.1 k else hasN z.1 k), q.2) else none
theorem im_nin {neg : Bool} {ta td : TE} {fa fd : ME} (ha : Im K ta fa) (hd : Im K td fd) : Im K (tOp (rNkIn K neg) ta td) (ninM neg fa fd) := fun dk H0 F0 F σ H env st d st' g e Q q => by
  obtain ⟨⟨x, s1⟩, e1, e⟩ := bnd e
  obtain ⟨⟨y, s2⟩, e2, e⟩ := bnd e
  obtain ⟨n, e3, e⟩ := bnd e
  obtain ⟨z, e4, e⟩ := bnd e
  obtain ⟨k, e5, e⟩ := bnd e
  split at e
  · rename_i hk
    cases e
    refine ha dk H0 F0 F σ H env st x s1 g e1 _ fun v F1 H1 x1 g1 r1 => ?_
    refine hd dk H0 F0 F1 σ H1 env s1 y s2 g1 e2 _ fun u F2 H2 x2 g2 r2 => ?_
    have hy : y = .ref n := refOf_eq e3
    subst hy
    obtain ⟨a, rfl, han⟩ := r2.refn
    obtain ⟨zs, vs, dd, h2, h3, h4, h5⟩ := g2.wd.nkdAt han e4
    obtain ⟨b, rfl, nk⟩ := (r1.mono x2.f).nkT g2.wd.sub e5
    refine ⟨b, a, k, zs, rfl, rfl, nk, hk, dd, ?_⟩
    rw [has_atKey k h3]
    exact q (.bl _) F2 H2 (x1.trans x2) g2 (.bl _)
  · cases e
/-! d[k] = v -/
def putNK (ks : List D) (d : D) (k : NestedKey) : List D := if hasN ks k = true then ks else ks ++ [d]
def putNV (ks ds : List D) (k : NestedKey) (d : D) : List D := if hasN ks k = true then List.zipWith (fun x y => if nkOf x = some k then d else y) ks ds else ds ++ [d]
variable {dk : Dk} {F : Fz} {H : Hp}
theorem put_vals {k : NestedKey} {u : Value} {v : V} {d : D} (rv : RelV v u) (rd : Rp K dk F v d) : ∀ {zs : Zs} {ks ds : List D} {vs : List V}, ks.map nkOf = zs.map (fun z => some z.1) → Vals vs (zs.map fun z => z.2.2) → Rps K dk F vs ds →
    ∃ vs', Vals vs' ((zs.map (putAt k u)).map fun z => z.2.2) ∧ Rps K dk F vs' (List.zipWith (fun x y => if nkOf x = some k then d else y) ks ds)
  | [], [], _, _, _, r, rr => by
    cases r
    cases rr
    exact ⟨[], .nil, .nil⟩
  | [], _ :: _, _, _, e, _, _ => by cases e
  | _ :: _, [], _, _, e, _, _ => by cases e
  | z :: zs, x :: ks, _, v0 :: _, e, .cons a b, .cons c f => by
    rw [List.map_cons, List.map_cons] at e
    injection e with e1 e2
    obtain ⟨vs', h1, h2⟩ := put_vals rv rd e2 b f
    rw [List.map_cons, List.map_cons, List.zipWith_cons_cons]
    by_cases h : z.1 = k
    · refine ⟨v :: vs', .cons ?_ h1, .cons ?_ h2⟩
      · unfold putAt; rw [if_pos h]; exact rv
      · rw [e1, if_pos (by rw [h])]; exact rd
    · refine ⟨v0 :: vs', .cons ?_ h1, .cons ?_ h2⟩
      · unfold putAt; rw [if_neg h]; exact a
      · rw [e1, if_neg (fun q => h (Option.some.inj q))]; exact c
theorem put_refs (zs : Zs) (k : NestedKey) (u : Value) : ((zs.map (putAt k u)).map fun z => V.ref z.2.1) = zs.map fun z => V.ref z.2.1 := by
  rw [List.map_map]
  refine List.map_congr_left fun z _ => ?_
  show V.ref (putAt k u z).2.1 = _
  unfold putAt
  split <;> rfl
theorem put_obAt {a : Addr} {zs : Zs} {vs : List V} {ks ds : List D} {k : NestedKey} {b : Addr} {u : Value} {v : V} {d kd : D} (dd : NkD K H a zs) (h2 : Rps K dk F (zs.map fun z => V.ref z.2.1) ks) (h3 : ks.map nkOf = zs.map (fun z => some z.1)) (h4 : Vals vs (zs.map fun z => z.2.2)) (h5 : Rps K dk F vs ds)
    (hk : k.depth ≤ 8) (rk : Rp K dk F (.ref b) kd) (ek : nkOf kd = some k) (rv : RelV v u) (rd : Rp K dk F v d) :
    ObAt K dk F (upd H a (.ext (NkAt a (storedH zs k b u)))) a (.nkd (putNK ks kd k) (putNV ks ds k d)) := by
  have hh := has_atKey k h3
  have hn := stored_nodup dd.n k b u
  have hdp : ∀ z ∈ storedH zs k b u, z.1.depth ≤ 8 := fun z hz => by
    rcases stored_mem hz with ⟨y, hy, e1, _⟩ | ⟨e1, _⟩
    · rw [e1]; exact (dd.k y hy).2
    · rw [e1]; exact hk
  unfold putNK putNV
  cases hs : hasN ks k with
  | true =>
    have e : storedH zs k b u = zs.map (putAt k u) := by
      unfold storedH
      rw [if_pos (by rw [hh, hs])]
    rw [e] at hn hdp ⊢
    rw [if_pos rfl, if_pos rfl]
    obtain ⟨vs', h6, h7⟩ := put_vals (k := k) rv rd h3 h4 h5
    refine .nkd upd_same (by rw [put_refs]; exact h2) ?_ h6 h7 hn hdp
    rw [h3, List.map_map]
    refine List.map_congr_left fun z _ => ?_
    show some z.1 = some (putAt k u z).1
    unfold putAt
    split <;> rfl
  | false =>
    have e : storedH zs k b u = zs ++ [(k, b, u)] := by
      unfold storedH
      rw [if_neg (by rw [hh, hs]; simp)]
    rw [e] at hn hdp ⊢
    rw [if_neg (by simp), if_neg (by simp)]
    refine .nkd upd_same (by rw [List.map_append]; exact h2.append (Rps.one rk)) (by rw [List.map_append, List.map_append, h3]; simp [ek]) (by rw [List.map_append]; exact h4.append (.cons rv .nil)) (h5.append (Rps.one rd)) hn hdp
def nputM (fo fk fv : ME) : MS := fun env st => (fv env st).bind fun p => (fo env p.2).bind fun o => (refOf o.1).bind fun n => (fk env o.2).bind fun q => (nkT q.1).bind fun k => (nkdAt q.2 n).bind fun z =>
  if k.depth ≤ 8 ∧ z.1.length < sizeLine then some (.nx env, q.2.put n (.nkd (putNK z.1 q.1 k) (putNV z.1 z.2 k p.1))) else none
theorem is_nput {to ty tv : TE} {fo fk fv : ME} (ho : Im K to fo) (hk : Im K ty fk) (hv : Im K tv fv) : ImS K (sNPut K to ty tv) (nputM fo fk fv) := fun dk H0 F0 F σ H env st fl st' g e E hd => by
  obtain ⟨⟨d, s1⟩, h1, e⟩ := bnd e
  obtain ⟨⟨x, s2⟩, h2, e⟩ := bnd e
  obtain ⟨n, h3, e⟩ := bnd e
  obtain ⟨⟨y, s3⟩, h4, e⟩ := bnd e
  obtain ⟨k, h5, e⟩ := bnd e
  obtain ⟨⟨ks, ds⟩, h6, e⟩ := bnd e
  split at e
  · rename_i hz
    cases e
    refine hv dk H0 F0 F σ H env st d s1 g h1 _ fun v F1 H1 x1 g1 r1 => ?_
    refine ho dk H0 F0 F1 σ H1 env s1 x s2 g1 h2 _ fun u F2 H2 x2 g2 r2 => ?_
    have hx : x = .ref n := refOf_eq h3
    subst hx
    obtain ⟨a, rfl, ha⟩ := r2.refn
    refine hk dk H0 F0 F2 σ H2 env s2 y s3 g2 h4 _ fun w F3 H3 x3 g3 r3 => ?_
    have ha3 := x3.f.at ha
    obtain ⟨zs, vs, dd, k2, k3, k4, k5⟩ := g3.wd.nkdAt ha3 h6
    obtain ⟨b, rfl, nk⟩ := r3.nkT g3.wd.sub h5
    have ek : nkOf y = some k := nkT_of h5
    have hl : zs.length = ks.length := by
      have := congrArg List.length k3
      simpa using this.symm
    refine ⟨b, a, k, zs, rfl, rfl, nk, hz.1, dd, by rw [hl]; exact hz.2, fun u ru => ?_⟩
    exact hd F3 σ _ (x1.f.trans (x2.f.trans x3.f)) (g3.put ha3 dd.h (by rintro ⟨_, _, z⟩; cases z) (put_obAt dd k2 k3 k4 k5 hz.1 r3 ek ru (r1.mono (x2.f.trans x3.f))))
  · cases e
/-! {k: v}, for the store -/
def stoN (fk fv : ME) : ME := fun env st => (fk env st).bind fun p => (fv env p.2).bind fun q => (nkT p.1).bind fun k => if k.depth ≤ 8 then some (.ref q.2.ob.length, q.2.ad (.nkd [p.1] [q.1])) else none
theorem im_stoN {tk tv : TE} {fk fv : ME} (hk : Im K tk fk) (hv : Im K tv fv) : Im K (tDispN K tk tv) (stoN fk fv) := fun dk H0 F0 F σ H env st d st' g e Q q => by
  obtain ⟨⟨x, s1⟩, e1, e⟩ := bnd e
  obtain ⟨⟨y, s2⟩, e2, e⟩ := bnd e
  obtain ⟨k, e3, e⟩ := bnd e
  split at e
  · rename_i hz
    cases e
    intro p hp
    have nd := g.nedk hp
    have px : Px F H F (upd H p (.ext (NkAt p []))) := Px.lay g.wd.sub hp
    have fp := g.wd.out hp
    refine hk dk H0 F0 F σ _ env st x s1 (g.px px) e1 _ fun v F1 H1 x1 g1 r1 => ?_
    refine hv dk H0 F0 F1 σ H1 env s1 y s2 g1 e2 _ fun u F2 H2 x2 g2 r2 => ?_
    have h2 : H2 p = some (.ext (NkAt p [])) := (x1.trans x2).h _ _ upd_same nd.1 nd.2 (.inl fp.2)
    have f2 : F2.out p := (x1.trans x2).out fp (nn upd_same)
    have no := g.noown hp
    obtain ⟨b, rfl, nk⟩ := (r1.mono x2.f).nkT g2.wd.sub e3
    have ek : nkOf x = some k := nkT_of e3
    refine ⟨h2, b, k, rfl, nk, hz, fun w rw' => ?_⟩
    have g3 : Good K dk H0 F0 F2 σ (upd H2 p (.ext (NkAt p [(k, b, w)]))) env s2 := g2.mutT h2 f2 (g.fresh0 hp) nd.1 nd.2 no
    refine q (.ref p) _ _ (((px.ext.trans (x1.trans x2)).upd hp).ad hp) (g3.ad upd_same f2 (g.fresh0 hp) nd.1 nd.2 no ?_) (.ref (ad_at g3.wd p))
    refine .nkd (zs := [(k, b, w)]) (vs := [u]) upd_same (.cons ((r1.mono x2.f).mono Le.ad) .nil) (by simp [ek]) (.cons rw' .nil) (.cons (r2.mono Le.ad) .nil) (by simp) fun z hz' => by rw [List.mem_singleton.mp hz']; exact hz
  · cases e
end
end MD

set_option Elab.async false
set_option linter.all false
set_option maxRecDepth 100000
set_option maxHeartbeats 1000000
namespace MD
open PySem PySem.Spec PyProof.Rows L2
section
variable {K : Fg}
/-! a, b, c = x, y, z -/
def three (i j l : Nat) (env : Sg) : List D → Option Sg
  | [a, b, c] => some (((env.set i (.val a)).set j (.val b)).set l (.val c))
  | _ => none
def par3M (i j l : Nat) (fa : MA) : MS := fun env st => (fa env st).bind fun p => (three i j l env p.1).map fun e => (.nx e, p.2)
theorem is_par3 {ta : TA} {fa : MA} (i j l : Nat) (h : ImA K ta fa) : ImS K (tPar3 i j l ta) (par3M i j l fa) := fun dk H0 F0 F σ H env st fl st' g e E hd => by
  obtain ⟨⟨ds, s1⟩, e1, e⟩ := bnd e
  obtain ⟨en, e2, e⟩ := mpd e
  cases e
  refine h dk H0 F0 F σ H env st ds s1 g e1 _ fun vs F1 H1 x1 g1 r1 => ?_
  replace e2 : three i j l env ds = some en := e2
  unfold three at e2
  split at e2
  · cases e2
    cases r1 with
    | cons a b => cases b with
      | cons b c => cases c with
        | cons c d =>
          cases d
          exact ⟨_, _, _, rfl, hd F1 _ H1 x1.f (((g1.set a).set b).set c)⟩
  · cases e2
/-! a global tuple of constants -/
def GTup (K : Fg) (mg : Str → Option Value) (x : Str) (ds : List D) : Prop := ∃ a : Addr, mg x = some (.ref a) ∧ ∃ vs, (∀ H : Hp, SqT K H a vs) ∧ ∀ (dk : Dk) (F : Fz), Rps K dk F vs ds
theorem im_gtup {mg : Str → Option Value} {x : Str} {ds : List D} (h : GTup K mg x ds) : Im K (tC (.ref h.choose)) (cst (.tup ds)) := fun dk H0 F0 F σ H env st d st' g e Q q => by
  cases e
  obtain ⟨_, vs, h1, h2⟩ := h.choose_spec
  exact q _ F H (Ext.refl F H) g (.tup (h1 _) (h2 _ _))
def conV : Value → Option (V × D)
  | .int i _ => some (.int i, .int i)
  | .bool b => some (.bl b, .bl b)
  | .str s _ => some (.str s, .str s)
  | .none => some (.non, .non)
  | _ => none
theorem conV_ok {u : Value} {v : V} {d : D} (h : conV u = some (v, d)) : RelV v u ∧ ∀ (dk : Dk) (F : Fz), Rp K dk F v d := by
  cases u <;> first | (cases h; exact ⟨⟨_, rfl⟩, fun _ _ => .int _⟩) | (cases h; exact ⟨rfl, fun _ _ => .bl _⟩) | (cases h; exact ⟨⟨_, rfl⟩, fun _ _ => .str _⟩) | (cases h; exact ⟨rfl, fun _ _ => .non⟩) | cases h
theorem gtup_of {mg : Str → Option Value} {x : Str} {a : Addr} {o : Obj} {us : List Value} {n : Nat} {ds : List D} (h : mg x = some (.ref a)) (hk : K.lookup a = some o) (hc : o.cls = .type "tuple") (hd : o.data = .seq us.toArray n) (hl : us.length ≤ 1000)
    (hv : ∃ vs : List V, us.map conV = (vs.zip ds).map some ∧ vs.length = us.length ∧ ds.length = us.length) : GTup K mg x ds := by
  obtain ⟨vs, e1, e2, e3⟩ := hv
  have key : ∀ (us : List Value) (vs : List V) (ds : List D), us.map conV = (vs.zip ds).map some → vs.length = us.length → ds.length = us.length → Vals vs us ∧ ∀ (dk : Dk) (F : Fz), Rps K dk F vs ds := by
    intro us
    induction us with
    | nil =>
      intro vs ds _ h1 h2
      cases vs with
      | nil => cases ds with
        | nil => exact ⟨.nil, fun _ _ => .nil⟩
        | cons _ _ => simp at h2
      | cons _ _ => simp at h1
    | cons u us ih =>
      intro vs ds h h1 h2
      cases vs with
      | nil => simp at h1
      | cons v vs => cases ds with
        | nil => simp at h2
        | cons d ds =>
          rw [List.zip_cons_cons, List.map_cons, List.map_cons] at h
          injection h with h3 h4
          obtain ⟨i1, i2⟩ := ih vs ds h4 (by simpa using h1) (by simpa using h2)
          obtain ⟨c1, c2⟩ := conV_ok (K := K) h3
          exact ⟨.cons c1 i1, fun dk F => .cons (c2 dk F) (i2 dk F)⟩
  obtain ⟨i1, i2⟩ := key us vs ds e1 e2 e3
  exact ⟨a, h, vs, fun H => .inr ⟨o, us.toArray, n, hk, hc, hd, by rw [sizeLine_eq]; simp; omega, by simpa using i1⟩, i2⟩
end
theorem pe_gtup {X : Cx} {x : Str} {ds : List D} {pos : Pos} (hg : Gl X x) (h : GTup X.K X.mg x ds) (hd : (x == ("__debug__" : Str)) = false := by decide) : PE X (.Name x pos) (tC (.ref h.choose)) := pe_glob hg h.choose_spec.1 rfl hd
end MD

set_option Elab.async false
set_option linter.all false
set_option maxRecDepth 100000
set_option maxHeartbeats 1000000
namespace MD
open PySem L2

/-! ### mirrors, evaluated -/
noncomputable def grd {α : Type} (n : Nat) (o : Option α) : Option α := cif (n ≤ sizeLine) o
theorem grd_eq {α : Type} (n : Nat) (o : Option α) : (if n ≤ sizeLine then o else none) = grd n o := cif_eq _ _
theorem grd_lt {α : Type} (n : Nat) (o : Option α) : (if n < sizeLine then o else none) = grd (n + 1) o := cif_eq _ _
theorem grd_of {α : Type} {n : Nat} {o : Option α} (h : n ≤ 1000000) : grd n o = o := if_pos (Nat.le_trans h (by decide))
noncomputable def rng1 : List D → Option (List D)
  | [.int j] => cif (-(2 ^ 62) ≤ j ∧ j < 2 ^ 62) (some (rngD 0 j.toNat))
  | _ => none
noncomputable def rng2 : List D → Option (List D)
  | [.int i, .int j] => cif (-(2 ^ 62) ≤ i ∧ i < 2 ^ 62 ∧ -(2 ^ 62) ≤ j ∧ j < 2 ^ 62) (some (rngD i (j - i).toNat))
  | _ => none
theorem rng1_of {j : Int} (h0 : -1000000 ≤ j) (h1 : j ≤ 1000000) : rng1 [.int j] = some (rngD 0 j.toNat) := cif_of ⟨by omega, by omega⟩
theorem rng2_of {i j : Int} (h0 : -1000000 ≤ i) (h1 : i ≤ 1000000) (h2 : -1000000 ≤ j) (h3 : j ≤ 1000000) : rng2 [.int i, .int j] = some (rngD i (j - i).toNat) := cif_of ⟨by omega, by omega, by omega, by omega⟩
theorem rngD_len (lo : Int) (n : Nat) : (rngD lo n).length = n := by unfold rngD; simp
theorem small_sz {n : Nat} (h : n ≤ 1000000) : n ≤ sizeLine := Nat.le_trans h (by decide)
/-! what does not stand in the store is itself -/
@[simp] theorem dr_non (st : S) : dr st .non = .non := (rfl)
@[simp] theorem dr_bl (st : S) (b : Bool) : dr st (.bl b) = .bl b := (rfl)
@[simp] theorem dr_int (st : S) (i : Int) : dr st (.int i) = .int i := (rfl)
@[simp] theorem dr_str (st : S) (x : Str) : dr st (.str x) = .str x := (rfl)
@[simp] theorem dr_lst (st : S) (ds : List D) : dr st (.lst ds) = .lst ds := (rfl)
@[simp] theorem dr_tup (st : S) (ds : List D) : dr st (.tup ds) = .tup ds := (rfl)
@[simp] theorem dr_deck (st : S) : dr st .deck = .deck := (rfl)
@[simp] theorem dr_dic (st : S) (ks : List L2.Key) (ds : List D) : dr st (.dic ks ds) = .dic ks ds := (rfl)
theorem dr_ref (st : S) (n : Nat) : dr st (.ref n) = match st.ob[n]? with | some (.lst ds) => .lst ds | some (.dic _ ks ds) => .dic ks ds | _ => .ref n := (rfl)
theorem dr_of {st : S} {d : D} (h : ∀ n, d ≠ .ref n) : dr st d = d := by
  cases d with
  | ref n => exact absurd rfl (h n)
  | _ => rfl
@[simp] theorem nonD_dr (st : S) (d : D) : nonD (dr st d) = nonD d := by
  cases d with
  | ref n =>
    rw [dr_ref]
    split <;> rfl
  | _ => rfl
@[simp] theorem map_dr_nil (st : S) : List.map (dr st) [] = [] := rfl
section
variable {env : Sg} {st : S} {f h fa fb fc fe fo : ME} {c : MT} {a r : MA} {i j n : Nat} {d e : D} {ds es : List D}
@[simp] theorem v_frz : frz a env st = (a env st).map fun p => (D.lst p.1, p.2) := (rfl)
@[simp] theorem v_rd : rd i env st = (match env[i]? with | some (.val d) => some (d, st) | _ => none) := (rfl)
@[simp] theorem v_rdW : rdW i env st = (match env[i]? with | some (.val d) => some (d, st) | some (.own (.lst, ds)) => some (D.lst ds, st) | some (.own (.dic ks, ds)) => some (D.dic ks ds, st) | _ => none) := (rfl)
@[simp] theorem v_cst : cst d env st = some (d, st) := (rfl)
@[simp] theorem v_opM {g : D → D → Option D} : opM g fa fb env st = (fa env st).bind fun p => (fb env p.2).bind fun q => (g (dr q.2 p.1) (dr q.2 q.1)).map fun z => (z, q.2) := (rfl)
@[simp] theorem v_unM {g : D → Option D} : unM g fa env st = (fa env st).bind fun p => (g p.1).map fun z => (z, p.2) := (rfl)
@[simp] theorem v_slM {g : D → Option Int → Option Int → Option D} {fl fh : MO} : slM g fe fl fh env st = (fe env st).bind fun p => (fl env p.2).bind fun l => (fh env l.2).bind fun u => (g (dr u.2 p.1) l.1 u.1).map fun z => (z, u.2) := (rfl)
@[simp] theorem v_noP : noP env st = some (none, st) := (rfl)
@[simp] theorem v_prt : prt f env st = (f env st).bind fun p => (intOf p.1).map fun i => (some i, p.2) := (rfl)
@[simp] theorem v_aNil : aNil env st = some ([], st) := (rfl)
@[simp] theorem v_aCons : aCons f r env st = (f env st).bind fun p => (r env p.2).map fun q => (p.1 :: q.1, q.2) := (rfl)
@[simp] theorem v_tupM : tupM a env st = (a env st).bind fun p => grd p.1.length (some (D.tup p.1, p.2)) := by
  unfold tupM; simp only [grd_eq]
@[simp] theorem v_lstM : lstM a env st = (a env st).bind fun p => grd p.1.length (some p) := by
  unfold lstM; simp only [grd_eq]
@[simp] theorem v_cbM {g : List D → Option D} : cbM g a env st = (a env st).bind fun p => (g (p.1.map (dr p.2))).map fun z => (z, p.2) := (rfl)
@[simp] theorem v_m1M {g : D → List D → Option D} : m1M g fo fe env st = (fo env st).bind fun p => if isStrD p.1 then (fe env p.2).bind fun q => (g p.1 [dr q.2 q.1]).map fun z => (z, q.2) else none := (rfl)
@[simp] theorem v_bmL {g : D → List D → Option D} : bmL g fo a env st = (fo env st).bind fun p => if isLstD (dr p.2 p.1) then (a env p.2).bind fun q => (g (dr q.2 p.1) (q.1.map (dr q.2))).map fun z => (z, q.2) else none := (rfl)
@[simp] theorem v_tstM : tstM f env st = (f env st).bind fun p => (blOf p.1).map fun b => (b, p.2) := (rfl)
@[simp] theorem v_truM : truM f env st = (f env st).bind fun p => (truD (dr p.2 p.1)).map fun b => (b, p.2) := (rfl)
@[simp] theorem v_andM {c' : MT} : andM c c' env st = (c env st).bind fun p => if p.1 then c' env p.2 else some (false, p.2) := (rfl)
@[simp] theorem v_orM {c' : MT} : orM c c' env st = (c env st).bind fun p => if p.1 then some (true, p.2) else c' env p.2 := (rfl)
@[simp] theorem v_notM : notM c env st = (c env st).map fun p => (!p.1, p.2) := (rfl)
@[simp] theorem v_andV : andV f h env st = (f env st).bind fun p => (blOf p.1).bind fun b => if b then h env p.2 else some (D.bl false, p.2) := (rfl)
@[simp] theorem v_orV : orV f h env st = (f env st).bind fun p => (blOf p.1).bind fun b => if b then some (D.bl true, p.2) else h env p.2 := (rfl)
@[simp] theorem v_notV : notV f env st = (f env st).bind fun p => (blOf p.1).map fun b => (D.bl (!b), p.2) := (rfl)
@[simp] theorem v_ifM : ifM c f h env st = (c env st).bind fun p => if p.1 then f env p.2 else h env p.2 := (rfl)
@[simp] theorem v_chM {g g' : D → D → Option D} : chM g g' fa fb fc env st = (fa env st).bind fun p => (fb env p.2).bind fun q => (g p.1 q.1).bind fun z => (blOf z).bind fun b =>
  if b then (fc env q.2).bind fun r => (g' q.1 r.1).map fun z => (z, r.2) else some (D.bl false, q.2) := (rfl)
@[simp] theorem v_nxM : nxM env st = some (.nx env, st) := (rfl)
@[simp] theorem v_seqM {p q : MS} : seqM p q env st = (p env st).bind fun x => match x.1 with | .nx e => q e x.2 | fl => some (fl, x.2) := (rfl)
@[simp] theorem v_retM : retM f env st = (f env st).map fun p => (.rt p.1, p.2) := (rfl)
@[simp] theorem v_retN : retN env st = some (.rt .non, st) := (rfl)
@[simp] theorem v_ifS {p q : MS} : ifS c p q env st = (c env st).bind fun x => if x.1 then p env x.2 else q env x.2 := (rfl)
@[simp] theorem v_dropM : dropM f env st = (f env st).map fun p => (.nx env, p.2) := (rfl)
@[simp] theorem v_nameT : nameT i d env = some (env.set i (.val d)) := (rfl)
@[simp] theorem v_nilT : nilT [] env = some env := (rfl)
@[simp] theorem v_consT {t : MG} {u : List D → Sg → Option Sg} : consT t u (d :: ds) env = (t d env).bind fun e => u ds e := (rfl)
@[simp] theorem v_tupT {u : List D → Sg → Option Sg} : tupT n u (.tup ds) env = if ds.length = n then u ds env else none := (rfl)
@[simp] theorem v_asgM {t : MG} : asgM t f env st = (f env st).bind fun p => (t p.1 env).map fun e => (.nx e, p.2) := (rfl)
@[simp] theorem v_ownM : ownM i a env st = (a env st).map fun p => (.nx (env.set i (.own (.lst, p.1))), p.2) := (rfl)
@[simp] theorem v_parM : parM i j a env st = (a env st).bind fun p => (two i j env p.1).map fun e => (.nx e, p.2) := (rfl)
@[simp] theorem v_two : two i j env [d, e] = some ((env.set i (.val d)).set j (.val e)) := (rfl)
@[simp] theorem v_augM {op : D → D → Option D} : augM i op f env st = (match env[i]? with | some (.val x) => (f env st).bind fun p => (op x p.1).map fun z => (.nx (env.set i (.val z)), p.2) | _ => none) := (rfl)
@[simp] theorem v_frzM {p : MS} : frzM i p env st = p (frzE i env) st := (rfl)
@[simp] theorem v_frzE : frzE i env = (match env[i]? with | some (.own (.lst, ds)) => env.set i (.val (.lst ds)) | some (.own (.dic ks, ds)) => env.set i (.val (.dic ks ds)) | _ => env) := (rfl)
@[simp] theorem v_appM : appM i f env st = (match env[i]? with | some (.own (.lst, ds)) => grd (ds.length + 1) ((f env st).map fun p => (.nx (env.set i (.own (.lst, ds ++ [p.1]))), p.2)) | _ => none) := by
  unfold appM; simp only [grd_lt] <;> rfl
@[simp] theorem v_extM : extM i f env st = (match env[i]? with | some (.own (.lst, ds)) => (f env st).bind fun p => (lstOf (dr p.2 p.1)).bind fun es => grd (ds.length + es.length) (some (.nx (env.set i (.own (.lst, ds ++ es))), p.2)) | _ => none) := by
  unfold extM; simp only [grd_eq] <;> rfl
@[simp] theorem v_yesM : yesM env st = some (true, st) := (rfl)
@[simp] theorem v_r1M : r1M a env st = (a env st).bind fun p => (rng1 p.1).map fun ds => (ds, p.2) := by
  unfold r1M
  congr 1
  funext p
  obtain ⟨l, s⟩ := p
  show (match l with | [.int j] => if -(2 ^ 62) ≤ j ∧ j < 2 ^ 62 then some (rngD 0 j.toNat, s) else none | _ => none) = (rng1 l).map fun ds => (ds, s)
  unfold rng1
  split
  · rw [cif_eq]; unfold cif; split <;> rfl
  · rfl
@[simp] theorem v_r2M : r2M a env st = (a env st).bind fun p => (rng2 p.1).map fun ds => (ds, p.2) := by
  unfold r2M
  congr 1
  funext p
  obtain ⟨l, s⟩ := p
  show (match l with | [.int i, .int j] => if -(2 ^ 62) ≤ i ∧ i < 2 ^ 62 ∧ -(2 ^ 62) ≤ j ∧ j < 2 ^ 62 then some (rngD i (j - i).toNat, s) else none | _ => none) = (rng2 l).map fun ds => (ds, s)
  unfold rng2
  split
  · rw [cif_eq]; unfold cif; split <;> rfl
  · rfl
@[simp] theorem v_seqI : seqI f env st = (f env st).bind fun p => (seqOf p.1).map fun ds => (ds, p.2) := (rfl)
@[simp] theorem v_enumI : enumI f env st = (f env st).bind fun p => (seqOf p.1).map fun ds => (enumD ds, p.2) := (rfl)
@[simp] theorem v_forM {it : MI} {t : MG} {b : MS} : forM it t b env st = (it env st).bind fun p => forL t b p.1 env p.2 := (rfl)
@[simp] theorem v_compM {it : MI} {t : MG} {vs : List Nat} : compM it t c f vs env st = (it env st).bind fun p => grd p.1.length (compL t c f (wipeE env vs) p.1 p.2) := by
  unfold compM; simp only [grd_eq]
@[simp] theorem v_callM {m : MF} : callM m a env st = (a env st).bind fun p => m p.1 p.2 := (rfl)
@[simp] theorem v_runM {b : MS} : runM n b ds st = (b (ds.map Sl.val ++ List.replicate (n - ds.length) Sl.un) st).bind fun p => match p.1 with | .rt d => some (d, p.2) | .nx _ => some (.non, p.2) | _ => none := (rfl)
@[simp] theorem v_wipe0 : wipeE env [] = env := (rfl)
@[simp] theorem v_wipe1 {v : Nat} {vs : List Nat} : wipeE env (v :: vs) = (wipeE env vs).set v .un := (rfl)
@[simp] theorem v_forL0 {t : MG} {b : MS} : forL t b [] env st = some (.nx env, st) := (rfl)
theorem v_forL {t : MG} {b : MS} : forL t b (d :: ds) env st = (t d env).bind fun env1 => (b env1 st).bind fun p => match p.1 with
    | .nx e => forL t b ds e p.2
    | .ct e => forL t b ds e p.2
    | .bk e => some (.nx e, p.2)
    | .rt r => some (.rt r, p.2) := (rfl)
@[simp] theorem v_compL0 {t : MG} : compL t c f env [] st = some ([], st) := (rfl)
theorem v_compL {t : MG} : compL t c f env (d :: ds) st = (t d env).bind fun e => (c e st).bind fun p => if p.1 then (f e p.2).bind fun q => (compL t c f env ds q.2).map fun r => (q.1 :: r.1, r.2) else compL t c f env ds p.2 := (rfl)
/-! dicts, the store -/
@[simp] theorem v_frzK {k : MK} : frzK k env st = (k env st).map fun p => (D.dic p.1.1 p.1.2, p.2) := (rfl)
@[simp] theorem v_ownK {k : MK} : ownK i k env st = (k env st).map fun p => (.nx (env.set i (.own (.dic p.1.1, p.1.2))), p.2) := (rfl)
@[simp] theorem v_newK : newK env st = some (([], []), st) := (rfl)
@[simp] theorem v_cpyK : cpyK f env st = (f env st).bind fun p => (isDicD (dr p.2 p.1)).map fun q => (q, p.2) := (rfl)
@[simp] theorem v_isDic {ks : List L2.Key} : isDicD (.dic ks ds) = some (ks, ds) := (rfl)
@[simp] theorem v_pNil : pNil env st = some ([], st) := (rfl)
@[simp] theorem v_pCons {r : MP} : pCons f h r env st = (f env st).bind fun p => (keyOf p.1).bind fun k => (h env p.2).bind fun q => (r env q.2).map fun z => ((k, q.1) :: z.1, z.2) := (rfl)
@[simp] theorem v_dispK {r : MP} : dispK r env st = (r env st).bind fun p => if p.1.length ≤ 15 then some (mrgL [] [] p.1, p.2) else none := (rfl)
@[simp] theorem v_mrg1 {k : L2.Key} : mrgL [] [] [(k, d)] = ([k], [d]) := (rfl)
@[simp] theorem v_keyI {j : Int} : keyOf (.int j) = some (.inl j) := (rfl)
@[simp] theorem v_keyS {x : Str} : keyOf (.str x) = some (.inr x) := (rfl)
@[simp] theorem v_get1M : get1M f h env st = (f env st).bind fun p => (isDicD (dr p.2 p.1)).bind fun _ => (h env p.2).bind fun q => (isDicD (dr q.2 p.1)).bind fun z => (keyOf q.1).map fun k => ((getK z.1 z.2 k).getD .non, q.2) := (rfl)
@[simp] theorem v_get2M : get2M f h fa env st = (f env st).bind fun p => (isDicD (dr p.2 p.1)).bind fun _ => (h env p.2).bind fun q => (fa env q.2).bind fun r => (isDicD (dr r.2 p.1)).bind fun z => (keyOf q.1).map fun k => ((getK z.1 z.2 k).getD r.1, r.2) := (rfl)
@[simp] theorem v_dputM : dputM i f h env st = (match env[i]? with
  | some (.own (.dic ks, ds)) => (h env st).bind fun p => (f env p.2).bind fun q => (keyOf q.1).bind fun k => grd (ds.length + 1) (some (.nx (env.set i (.own (.dic (putKs ks k), putVs ks ds k p.1))), q.2))
  | _ => none) := by
  unfold dputM; simp only [grd_lt] <;> rfl
@[simp] theorem v_subD {ks : List L2.Key} : subD (.dic ks ds) d = (keyOf d).bind fun k => getK ks ds k := (rfl)
@[simp] theorem v_subL : subD (.lst ds) d = ixM (.lst ds) d := (rfl)
@[simp] theorem v_subT : subD (.tup ds) d = ixM (.tup ds) d := (rfl)
@[simp] theorem v_subS {x : Str} : subD (.str x) d = ixM (.str x) d := (rfl)
@[simp] theorem v_cntD {n : Bool} {ks : List L2.Key} : cntD n d (.dic ks ds) = (keyOf d).map fun k => .bl (if n then !(getK ks ds k).isSome else (getK ks ds k).isSome) := (rfl)
@[simp] theorem v_cntL {n : Bool} : cntD n d (.lst ds) = if n then notInM d (.lst ds) else inM d (.lst ds) := (rfl)
@[simp] theorem v_cntT {n : Bool} : cntD n d (.tup ds) = if n then notInM d (.tup ds) else inM d (.tup ds) := (rfl)
@[simp] theorem v_cntS {n : Bool} {x : Str} : cntD n d (.str x) = if n then notInM d (.str x) else inM d (.str x) := (rfl)
@[simp] theorem v_lenAD {ks : List L2.Key} : lenA [.dic ks ds] = some (.int ks.length) := (rfl)
@[simp] theorem v_lenAL : lenA [.lst ds] = some (.int ds.length) := (rfl)
@[simp] theorem v_lenAT : lenA [.tup ds] = some (.int ds.length) := (rfl)
@[simp] theorem v_lenAS {z : Str} : lenA [.str z] = grd z.length (some (.int z.length)) := by
  show lenM [.str z] = _
  show (if z.length ≤ sizeLine then some (D.int z.length) else none) = _
  rw [grd_eq]
@[simp] theorem v_stoL : stoL a env st = (a env st).map fun p => (D.ref p.2.ob.length, p.2.ad (.lst p.1)) := (rfl)
@[simp] theorem v_stoK {k : MK} : stoK k env st = (k env st).map fun p => (D.ref p.2.ob.length, p.2.ad (.dic false p.1.1 p.1.2)) := (rfl)
@[simp] theorem v_refOf {n : Nat} : refOf (.ref n) = some n := (rfl)
@[simp] theorem v_sappM : sappM f h env st = (f env st).bind fun o => (refOf o.1).bind fun n => (lstAt o.2 n).bind fun _ => (h env o.2).bind fun p => (lstAt p.2 n).bind fun ds => grd (ds.length + 1) (some (.nx env, p.2.put n (.lst (ds ++ [p.1])))) := by
  unfold sappM; simp only [grd_lt]
@[simp] theorem v_sputM : sputM f h fa env st = (fa env st).bind fun p => (f env p.2).bind fun o => (refOf o.1).bind fun n => (h env o.2).bind fun q => (keyOf q.1).bind fun k => (dicAt q.2 n).bind fun z => grd (z.2.length + 1) (some (.nx env, q.2.put n (.dic false (putKs z.1 k) (putVs z.1 z.2 k p.1)))) := by
  unfold sputM; simp only [grd_lt]
@[simp] theorem v_spopM : spopM f env st = (f env st).bind fun o => (refOf o.1).bind fun n => (lstAt o.2 n).bind fun ds => (ds[ds.length - 1]?).map fun d => (d, o.2.put n (.lst ds.dropLast)) := (rfl)
@[simp] theorem v_listM : listM a env st = (a env st).bind fun p => (listD (p.1.map (dr p.2))).map fun z => (z, p.2) := (rfl)
@[simp] theorem v_listDL : listD [.lst ds] = some ds := (rfl)
@[simp] theorem v_listDT : listD [.tup ds] = some ds := (rfl)
@[simp] theorem v_listDD {ks : List L2.Key} : listD [.dic ks ds] = some (ks.map keyD) := (rfl)
@[simp] theorem v_isiM {T : String} : isiM T f env st = (f env st).bind fun p => (tyD (dr p.2 p.1)).bind fun t => (kitB t T).map fun b => (D.bl b, p.2) := (rfl)
@[simp] theorem v_dcM {it : MI} {t : MG} {vs : List Nat} : dcM it t c f h vs env st = (it env st).bind fun p => grd p.1.length (dcL t c f h (wipeE env vs) p.1 ([], []) p.2) := by
  unfold dcM; simp only [grd_eq]
@[simp] theorem v_mulAI {x y : Int} : mulA (.int x) (.int y) = mulM (.int x) (.int y) := (rfl)
/-! values -/
@[simp] theorem v_intOf {i : Int} : intOf (.int i) = some i := (rfl)
@[simp] theorem v_blOf {b : Bool} : blOf (.bl b) = some b := (rfl)
@[simp] theorem v_isStr {s : Str} : isStrD (.str s) = true := (rfl)
@[simp] theorem v_isLst : isLstD (.lst ds) = true := (rfl)
@[simp] theorem v_iI {g : Int → Int → D} {i j : Int} : iI g (.int i) (.int j) = some (g i j) := (rfl)
theorem v_iIC0 {C : Int → Int → Prop} [∀ i j, Decidable (C i j)] {g : Int → Int → D} {i j : Int} (h : C i j) : iIC C g (.int i) (.int j) = some (g i j) := if_pos h
@[simp] theorem v_unI {g : Int → D} {i : Int} : unI g (.int i) = some (g i) := (rfl)
@[simp] theorem v_addI {i j : Int} : addM (.int i) (.int j) = some (.int (i + j)) := (rfl)
@[simp] theorem v_addS {i j : Str} : addM (.str i) (.str j) = grd (i.length + j.length) (some (.str (i ++ j))) := by
  rw [← grd_eq]; rfl
@[simp] theorem v_addT {i j : List D} : addM (.tup i) (.tup j) = grd (i.length + j.length) (some (.tup (i ++ j))) := by
  rw [← grd_eq]; rfl
@[simp] theorem v_addL {i j : List D} : addM (.lst i) (.lst j) = grd (i.length + j.length) (some (.lst (i ++ j))) := by
  rw [← grd_eq]; rfl
@[simp] theorem v_ixL {i : Int} : ixM (.lst ds) (.int i) = L2.atI ds i := (rfl)
@[simp] theorem v_ixT {i : Int} : ixM (.tup ds) (.int i) = L2.atI ds i := (rfl)
@[simp] theorem v_ixS {z : Str} {i : Int} : ixM (.str z) (.int i) = grd z.length ((L2.atI z.cps.toList i).map fun c => .str ⟨#[c]⟩) := by
  rw [← grd_eq]; rfl
@[simp] theorem v_lenS {z : Str} : lenM [.str z] = grd z.length (some (.int z.length)) := by
  rw [← grd_eq]; rfl
@[simp] theorem v_lenL : lenM [.lst ds] = some (.int ds.length) := (rfl)
@[simp] theorem v_lenT : lenM [.tup ds] = some (.int ds.length) := (rfl)
@[simp] theorem v_seqL : seqOf (.lst ds) = some ds := (rfl)
@[simp] theorem v_seqT : seqOf (.tup ds) = some ds := (rfl)
@[simp] theorem v_seqS {x : Str} : seqOf (.str x) = some ((signs x).map D.str) := (rfl)
@[simp] theorem v_tupleL : tupleM [.lst ds] = some (.tup ds) := (rfl)
@[simp] theorem v_tupleT : tupleM [.tup ds] = some (.tup ds) := (rfl)
@[simp] theorem v_tupleS {x : Str} : tupleM [.str x] = grd x.cps.size (some (.tup ((signs x).map D.str))) := by
  rw [← grd_eq]; rfl
@[simp] theorem v_slT {lo hi : Option Int} : slAny (.tup ds) lo hi = some (.tup (cutD ds lo hi)) := (rfl)
@[simp] theorem v_slS {z : Str} {lo hi : Option Int} : slAny (.str z) lo hi = grd z.length (some (.str (cutS z lo hi))) := by
  rw [← grd_eq]
  unfold slAny slTup slStr slLst
  by_cases h : z.length ≤ sizeLine <;> simp [h, Option.orElse]
@[simp] theorem v_slL {lo hi : Option Int} : slAny (.lst ds) lo hi = some (.lst (cutD ds lo hi)) := (rfl)
@[simp] theorem v_sumM : sumM [.lst ds] = (intsOf ds).map fun ns => .int ns.sum := (rfl)
@[simp] theorem v_maxM : maxM [.lst (d :: ds)] = (intsOf (d :: ds)).map fun ns => .int (topI ns) := (rfl)
@[simp] theorem v_minM : minM [.lst (d :: ds)] = (intsOf (d :: ds)).map fun ns => .int (botI ns) := (rfl)
@[simp] theorem v_int1 {i : Int} : int1M [.int i] = some (.int i) := (rfl)
@[simp] theorem v_lstOf : lstOf (.lst ds) = some ds := (rfl)
@[simp] theorem intsOf_map (ns : List Int) : intsOf (ns.map D.int) = some ns := by
  induction ns with
  | nil => rfl
  | cons x r ih => show (intsOf (r.map D.int)).map (x :: ·) = _; rw [ih]; rfl
@[simp] theorem strsOf_map (ns : List Str) : strsOf (ns.map D.str) = some ns := by
  induction ns with
  | nil => rfl
  | cons x r ih => show (strsOf (r.map D.str)).map (x :: ·) = _; rw [ih]; rfl
end

/-! ### words as lists of codes -/
def W (ws : List Nat) : Str := ⟨ws.toArray⟩
@[simp] theorem W_len (ws : List Nat) : (W ws).length = ws.length := by show ws.toArray.size = _; simp
@[simp] theorem W_size (ws : List Nat) : (W ws).cps.size = ws.length := by show ws.toArray.size = _; simp
@[simp] theorem W_list (ws : List Nat) : (W ws).cps.toList = ws := by show ws.toArray.toList = _; simp
theorem W_inj {a b : List Nat} (h : W a = W b) : a = b := by
  have := congrArg (fun s : Str => s.cps.toList) h
  simpa using this
theorem W_of (s : Str) : W s.cps.toList = s := by
  obtain ⟨⟨l⟩⟩ := s
  rfl
@[simp] theorem W_signs (ws : List Nat) : signs (W ws) = ws.map fun c => W [c] := by
  unfold signs
  rw [W_list]
  rfl
theorem W_app (a b : List Nat) : W a ++ W b = W (a ++ b) := by
  show (⟨(W a).cps ++ (W b).cps⟩ : Str) = _
  unfold W
  simp
theorem sIx_some {n : Nat} {i : Int} (h0 : 0 ≤ i) (h1 : i ≤ n) (d : Nat) : HT.sIx n d (some i) = i.toNat := by
  have e := HT.sIx_nat n d i.toNat
  rw [Int.toNat_of_nonneg h0] at e
  rw [e]
  omega
theorem cutW_to {ws : List Nat} {n : Int} (h0 : 0 ≤ n) (h1 : n ≤ ws.length) : cutS (W ws) none (some n) = W (ws.take n.toNat) := by
  unfold cutS
  rw [W_list, W_len, HT.sIx_none, sIx_some h0 h1]
  rfl
theorem cutW_from {ws : List Nat} {n : Int} (h0 : 0 ≤ n) (h1 : n ≤ ws.length) : cutS (W ws) (some n) none = W (ws.drop n.toNat) := by
  unfold cutS
  rw [W_list, W_len, HT.sIx_none, sIx_some h0 h1]
  show (⟨((ws.drop n.toNat).take (ws.length - n.toNat)).toArray⟩ : Str) = _
  rw [List.take_of_length_le (by rw [List.length_drop]; exact Nat.le_refl _)]
  rfl
theorem cutD_from {ds : List D} {n : Int} (h0 : 0 ≤ n) (h1 : n ≤ ds.length) : cutD ds (some n) none = ds.drop n.toNat := by
  unfold cutD
  rw [HT.sIx_none, sIx_some h0 h1]
  exact List.take_of_length_le (by rw [List.length_drop]; exact Nat.le_refl _)
theorem cutD_to {ds : List D} {n : Int} (h0 : 0 ≤ n) (h1 : n ≤ ds.length) : cutD ds none (some n) = ds.take n.toNat := by
  unfold cutD
  rw [HT.sIx_none, sIx_some h0 h1]
  rfl
theorem atI_of {α : Type} {xs : List α} {j : Nat} {x : α} (h : xs[j]? = some x) : L2.atI xs (j : Int) = some x := atI_nat h
theorem atI_nn {α : Type} {xs : List α} {i : Int} (h0 : 0 ≤ i) : L2.atI xs i = xs[i.toNat]? := by
  unfold L2.atI ixN
  rw [if_pos h0]
  by_cases h : i < xs.length
  · rw [if_pos h]; rfl
  · rw [if_neg h, List.getElem?_eq_none (by omega)]; rfl
/-! letters -/
def Let (k : Nat) (c : Nat) : Prop := 97 ≤ c ∧ c < 97 + k
theorem occ_abcd {c : Nat} (h : Let 4 c) : Builtin.Str.occurrences "abcd" (W [c]) 0 ("abcd" : Str).length 1 = [c - 97] := by
  obtain ⟨h1, h2⟩ := h
  have : c = 97 ∨ c = 98 ∨ c = 99 ∨ c = 100 := by omega
  rcases this with rfl | rfl | rfl | rfl <;> decide +kernel
theorem idx_abcd {c : Nat} (h : Let 4 c) : sindexM (.str "abcd") [.str (W [c])] = some (.int ((c - 97 : Nat) : Int)) := by
  show (match Builtin.Str.occurrences "abcd" (W [c]) 0 ("abcd" : Str).length 1 with | i :: _ => some (D.int (i : Nat)) | [] => none) = _
  rw [occ_abcd h]
theorem abcd_W : ("abcd" : Str) = W [97, 98, 99, 100] := by decide +kernel
theorem empty_W : ("" : Str) = W [] := by decide +kernel
/-! comparisons -/
@[simp] theorem eq_int (i j : Int) : eqM (.int i) (.int j) = some (.bl (decide (i = j))) := (rfl)
@[simp] theorem ne_int (i j : Int) : neM (.int i) (.int j) = some (.bl (!decide (i = j))) := (rfl)
@[simp] theorem eq_str (i j : Str) : eqM (.str i) (.str j) = some (.bl (decide (i = j))) := (rfl)
@[simp] theorem ne_str (i j : Str) : neM (.str i) (.str j) = some (.bl (!decide (i = j))) := (rfl)
@[simp] theorem is_non (d : D) : isM d .non = some (.bl (nonD d)) := (rfl)
@[simp] theorem isnot_non (d : D) : isNotM d .non = some (.bl (!nonD d)) := (rfl)
theorem pyAll_ints (ns : List Int) : pyAll (ns.map D.int) = ns.map PyData.int := by
  induction ns with
  | nil => rfl
  | cons x r ih => show D.py (.int x) :: pyAll (r.map D.int) = _; rw [ih]; rfl
theorem plAll_ints (ns : List Int) : plAll (ns.map D.int) = true := by
  induction ns with
  | nil => rfl
  | cons x r ih => show (D.pl (.int x) && plAll (r.map D.int)) = true; rw [ih]; rfl
theorem lay_ints (ns : List Int) : PyData.canLayAll0 (ns.map PyData.int) = true := by
  induction ns with
  | nil => rfl
  | cons x r ih => show (PyData.canLay0 (.int x) && PyData.canLayAll0 (r.map PyData.int)) = true; rw [ih]; rfl
theorem depth_ints (ns : List Int) : PyData.depthAll (ns.map PyData.int) ≤ 1 := by
  induction ns with
  | nil => simp [PyData.depthAll]
  | cons x r ih => simp [PyData.depthAll, PyData.depth] at ih ⊢; omega
theorem eqv_ints : ∀ (a b : List Int), PyData.eqvAll (a.map PyData.int) (b.map PyData.int) = decide (a = b)
  | [], [] => by rfl
  | [], y :: b => by rfl
  | x :: a, [] => by rfl
  | x :: a, y :: b => by
    show (PyData.eqv (.int x) (.int y) && PyData.eqvAll (a.map PyData.int) (b.map PyData.int)) = _
    rw [eqv_ints a b]
    show ((x == y) && decide (a = b)) = _
    by_cases h1 : x = y
    · by_cases h2 : a = b
      · simp [h1, h2]
      · simp [h1, h2]
    · simp [h1]
theorem okD_ints (ns : List Int) : okD (.lst (ns.map D.int)) = true := by
  unfold okD
  rw [D.pl, plAll_ints, D.py, pyAll_ints]
  show (true && SeqAt.shaped (.list (ns.map PyData.int))) = true
  unfold SeqAt.shaped
  rw [PyData.canLay0, lay_ints]
  have := depth_ints ns
  simp [PyData.depth]
  omega
theorem ne_ints (a b : List Int) : neM (.lst (a.map D.int)) (.lst (b.map D.int)) = some (.bl (!decide (a = b))) := by
  unfold neM eqB
  have e : sEq (.lst (a.map D.int)) (.lst (b.map D.int)) = none := rfl
  rw [e]
  simp only [okD_ints, Bool.and_self, if_true, Option.map_some, D.py, pyAll_ints, PyData.eqv, eqv_ints]
theorem eq_ints (a b : List Int) : eqM (.lst (a.map D.int)) (.lst (b.map D.int)) = some (.bl (decide (a = b))) := by
  unfold eqM eqB
  have e : sEq (.lst (a.map D.int)) (.lst (b.map D.int)) = none := rfl
  rw [e]
  simp only [okD_ints, Bool.and_self, if_true, Option.map_some, D.py, pyAll_ints, PyData.eqv, eqv_ints]
theorem allFlat_ints (a : List Int) : (a.map D.int).all flatD = true := by
  rw [List.all_map]; simp [Function.comp_def, flatD]
theorem inB_ints (x : Int) (a : List Int) : inB (.int x) (a.map D.int) = decide (x ∈ a) := by
  unfold inB
  induction a with
  | nil => rfl
  | cons y r ih =>
    rw [List.map_cons, List.any_cons, ih]
    show ((y == x) || decide (x ∈ r)) = _
    by_cases h1 : y = x
    · simp [h1]
    · have h2 : x ≠ y := fun z => h1 z.symm
      simp [h1, h2]
theorem in_ints (x : Int) (a : List Int) : inM (.int x) (.lst (a.map D.int)) = some (.bl (decide (x ∈ a))) := by
  show (if (flatD (.int x) && (a.map D.int).all flatD) = true then some (D.bl (if false = true then !inB (.int x) (a.map D.int) else inB (.int x) (a.map D.int))) else none) = _
  rw [allFlat_ints, inB_ints]
  simp [flatD]
theorem lindex_ints (x : Int) (a : List Int) : lindexM (.lst (a.map D.int)) [.int x] = (a.findIdx? fun y => y == x).map fun j => .int (j : Nat) := by
  show (if (flatD (.int x) && (a.map D.int).all flatD) = true then ((a.map D.int).findIdx? fun z => eqFD z (.int x)).map fun j => D.int (j : Nat) else none) = _
  rw [allFlat_ints]
  simp only [flatD, Bool.and_self, if_true, List.findIdx?_map]
  rfl
end MD

set_option Elab.async false
set_option linter.all false
set_option maxRecDepth 100000
set_option maxHeartbeats 1000000
namespace MD
open PySem L2

/-! ### what a drawn value is, and how many draws it takes -/
def Yes {α : Type} (c : Nat) (o : S → Option (α × S)) (P : α → Prop) : Prop :=
  ∀ st : S, 0 ≤ st.n → st.n + (c : Int) ≤ nMax → ∃ a st', o st = some (a, st') ∧ P a ∧ st.n ≤ st'.n ∧ st'.n ≤ st.n + (c : Int)
section
variable {α β : Type} {c c' : Nat} {P Q : α → Prop}
theorem Yes.pure {a : α} (h : P a) : Yes 0 (fun st => some (a, st)) P := fun st h0 h1 => ⟨a, st, rfl, h, Int.le_refl _, by simp⟩
theorem Yes.of_eq {o : S → Option (α × S)} {a : α} (e : ∀ st, o st = some (a, st)) (h : P a) : Yes 0 o P := fun st h0 h1 => ⟨a, st, e st, h, Int.le_refl _, by simp⟩
theorem Yes.mono {o : S → Option (α × S)} (h : Yes c o P) (hc : c ≤ c') (hp : ∀ a, P a → Q a) : Yes c' o Q := fun st h0 h1 => by
  obtain ⟨a, st', e, p, l1, l2⟩ := h st h0 (by omega)
  exact ⟨a, st', e, hp a p, l1, by omega⟩
theorem Yes.bind {o : S → Option (α × S)} {g : α × S → Option (β × S)} {R : β → Prop} (h : Yes c o P) (hg : ∀ a, P a → Yes c' (fun st => g (a, st)) R) : Yes (c + c') (fun st => (o st).bind g) R := fun st h0 h1 => by
  obtain ⟨a, s1, e, p, l1, l2⟩ := h st h0 (by omega)
  obtain ⟨b, s2, e2, r, l3, l4⟩ := hg a p s1 (by omega) (by omega)
  exact ⟨b, s2, by show (o st).bind g = _; rw [e]; exact e2, r, by omega, by omega⟩
theorem Yes.map {o : S → Option (α × S)} {g : α × S → β × S} {R : β → Prop} {k : α → β} (h : Yes c o P) (hk : ∀ a st, g (a, st) = (k a, st)) (hg : ∀ a, P a → R (k a)) : Yes c (fun st => (o st).map g) R := fun st h0 h1 => by
  obtain ⟨a, s1, e, p, l1, l2⟩ := h st h0 h1
  exact ⟨k a, s1, by show (o st).map g = _; rw [e]; show some (g (a, s1)) = _; rw [hk], hg a p, l1, l2⟩
theorem Yes.congr {o o' : S → Option (α × S)} (h : Yes c o P) (e : ∀ st, o' st = o st) : Yes c o' P := fun st h0 h1 => by
  rw [e st]; exact h st h0 h1
end
theorem drawT_n (many : Int) (st : S) : (drawT many st).n = st.n + 1 := by unfold drawT; split <;> rfl
theorem drawV_lt {c : DC} {many : Int} (h : 0 < many) (st : S) : 0 ≤ drawV c many st ∧ drawV c many st < many := by
  unfold drawV
  split <;> exact ⟨Int.emod_nonneg _ (by omega), Int.emod_lt_of_pos _ h⟩
theorem draw_yes {c : DC} {many : Int} (h1 : 0 < many) (h2 : many < 1073741824) : Yes 1 (drawM c [.deck, .int many]) fun d => ∃ r : Int, d = .int r ∧ 0 ≤ r ∧ r < many := fun st h0 hn => by
  have := drawV_lt (c := c) h1 st
  refine ⟨_, drawT many st, ?_, ⟨_, rfl, this.1, this.2⟩, ?_, ?_⟩
  · unfold drawM
    exact if_pos ⟨h1, h2, h0, by omega⟩
  · rw [drawT_n]; omega
  · rw [drawT_n]; omega

/-! ### comprehensions and loops -/
theorem compL_pure {t : MG} {c : MT} {f : ME} {env : Sg} {st : S} (P : D → Bool) (g : D → D) : ∀ (ds : List D), (∀ d ∈ ds, ∃ e, t d env = some e ∧ c e st = some (P d, st) ∧ (P d = true → f e st = some (g d, st))) →
    compL t c f env ds st = some ((ds.filter P).map g, st)
  | [], _ => rfl
  | d :: ds, h => by
    obtain ⟨e, h1, h2, h3⟩ := h d List.mem_cons_self
    have ih := compL_pure P g ds fun x hx => h x (List.mem_cons_of_mem _ hx)
    rw [v_compL, h1]
    simp only [Option.bind_some, h2]
    cases hp : P d with
    | true => simp [h3 hp, ih, hp]
    | false => simp [ih, hp]
theorem compL_map {t : MG} {f : ME} {env : Sg} {st : S} (g : D → D) (ds : List D) (h : ∀ d ∈ ds, ∃ e, t d env = some e ∧ f e st = some (g d, st)) : compL t yesM f env ds st = some (ds.map g, st) := by
  have := compL_pure (t := t) (c := yesM) (f := f) (env := env) (st := st) (fun _ => true) g ds fun d hd => by
    obtain ⟨e, h1, h2⟩ := h d hd
    exact ⟨e, h1, rfl, fun _ => h2⟩
  rw [this]
  congr 2
  rw [List.filter_eq_self.mpr (by simp)]
theorem compL_yes {t : MG} {f : ME} {env : Sg} {k : Nat} {P : D → Prop} : ∀ (ds : List D), (∀ d ∈ ds, ∃ e, t d env = some e ∧ Yes k (f e) P) → Yes (ds.length * k) (compL t yesM f env ds) fun l => l.length = ds.length ∧ ∀ x ∈ l, P x
  | [], _ => (Yes.of_eq (fun _ => rfl) ⟨rfl, fun _ h => nomatch h⟩).mono (Nat.zero_le _) fun _ h => h
  | d :: ds, h => by
    obtain ⟨e, h1, h2⟩ := h d List.mem_cons_self
    have ih := compL_yes ds fun x hx => h x (List.mem_cons_of_mem _ hx)
    intro st h0 hn
    have en : ((d :: ds).length * k : Nat) = k + ds.length * k := by rw [List.length_cons, Nat.succ_mul]; omega
    rw [en] at hn ⊢
    obtain ⟨y, s1, e1, p1, l1, l2⟩ := h2 st h0 (by omega)
    obtain ⟨l, s2, e2, p2, l3, l4⟩ := ih s1 (by omega) (by omega)
    refine ⟨y :: l, s2, ?_, ⟨by simp [p2.1], fun x hx => ?_⟩, by omega, by omega⟩
    · rw [v_compL, h1]
      simp [e1, e2]
    · rcases List.mem_cons.mp hx with z | z
      · rw [z]; exact p1
      · exact p2.2 x z
/-- a loop that keeps I and always goes on -/
theorem forL_yes {t : MG} {b : MS} {k : Nat} {I : Sg → Prop} : ∀ (ds : List D) (env : Sg), I env → (∀ d ∈ ds, ∀ env, I env → ∃ e, t d env = some e ∧ Yes k (b e) fun fl => ∃ e', fl = .nx e' ∧ I e') →
    Yes (ds.length * k) (forL t b ds env) fun fl => ∃ e, fl = .nx e ∧ I e
  | [], env, hi, _ => (Yes.of_eq (fun _ => rfl) ⟨env, rfl, hi⟩).mono (Nat.zero_le _) fun _ h => h
  | d :: ds, env, hi, h => by
    obtain ⟨e, h1, h2⟩ := h d List.mem_cons_self env hi
    intro st h0 hn
    have en : ((d :: ds).length * k : Nat) = k + ds.length * k := by rw [List.length_cons, Nat.succ_mul]; omega
    rw [en] at hn ⊢
    obtain ⟨fl, s1, e1, ⟨e', rfl, i1⟩, l1, l2⟩ := h2 st h0 (by omega)
    obtain ⟨fl2, s2, e2, p2, l3, l4⟩ := forL_yes ds e' i1 (fun x hx => h x (List.mem_cons_of_mem _ hx)) s1 (by omega) (by omega)
    refine ⟨fl2, s2, ?_, p2, by omega, by omega⟩
    rw [v_forL, h1]
    simp [e1, e2]
theorem yes_seq {f h : MS} {env : Sg} {c c' : Nat} {R : Sg → Prop} {Q : Fl → Prop} (h1 : Yes c (f env) fun fl => ∃ e, fl = .nx e ∧ R e) (h2 : ∀ e, R e → Yes c' (h e) Q) : Yes (c + c') (seqM f h env) Q := by
  refine (Yes.bind h1 (g := fun x => match x.1 with | .nx e => h e x.2 | fl => some (fl, x.2)) fun fl hfl => ?_).congr fun st => rfl
  obtain ⟨e, rfl, r⟩ := hfl
  exact h2 e r
theorem yes_asg {i : Nat} {f : ME} {env : Sg} {c : Nat} {P : D → Prop} (h : Yes c (f env) P) : Yes c (asgM (nameT i) f env) fun fl => ∃ e, fl = .nx e ∧ ∃ d, P d ∧ e = env.set i (.val d) :=
  (Yes.map h (k := fun d => Fl.nx (env.set i (.val d))) (g := fun p => (Fl.nx (env.set i (.val p.1)), p.2)) (fun _ _ => rfl) fun d hd => ⟨_, rfl, d, hd, rfl⟩).congr fun st => by
    simp only [v_asgM, v_nameT, Option.map_some]
    cases f env st <;> rfl
end MD

set_option Elab.async false
set_option linter.all false
set_option maxRecDepth 100000
set_option maxHeartbeats 1000000
namespace MD
open PySem L2
section
variable {α : Type} (a b c d : α)
@[simp] theorem at_10 : L2.atI [a] 0 = some a := (rfl)
@[simp] theorem at_20 : L2.atI [a, b] 0 = some a := (rfl)
@[simp] theorem at_21 : L2.atI [a, b] 1 = some b := (rfl)
@[simp] theorem at_30 : L2.atI [a, b, c] 0 = some a := (rfl)
@[simp] theorem at_31 : L2.atI [a, b, c] 1 = some b := (rfl)
@[simp] theorem at_32 : L2.atI [a, b, c] 2 = some c := (rfl)
end
@[simp] theorem tru_non : truD .non = some false := (rfl)
@[simp] theorem tru_bl (b : Bool) : truD (.bl b) = some b := (rfl)
@[simp] theorem tru_int (i : Int) : truD (.int i) = some (i != 0) := (rfl)
@[simp] theorem tru_lst (ds : List D) : truD (.lst ds) = some (!ds.isEmpty) := (rfl)
@[simp] theorem tru_tup (ds : List D) : truD (.tup ds) = some (!ds.isEmpty) := (rfl)
/-! ### data that may be compared with == -/
def Nice (d : D) : Prop := d.pl = true ∧ d.py.canLay0 = true ∧ d.py.depth ≤ 20
theorem plAll_of {ds : List D} : (∀ d ∈ ds, d.pl = true) → plAll ds = true := by
  induction ds with
  | nil => intro _; rfl
  | cons x r ih =>
    intro h
    show (x.pl && plAll r) = true
    rw [h x List.mem_cons_self, ih fun y hy => h y (List.mem_cons_of_mem _ hy)]; rfl
theorem layAll_of {ds : List D} : (∀ d ∈ ds, d.py.canLay0 = true) → PyData.canLayAll0 (pyAll ds) = true := by
  induction ds with
  | nil => intro _; rfl
  | cons x r ih =>
    intro h
    show (x.py.canLay0 && PyData.canLayAll0 (pyAll r)) = true
    rw [h x List.mem_cons_self, ih fun y hy => h y (List.mem_cons_of_mem _ hy)]; rfl
theorem depAll_of {n : Nat} {ds : List D} : (∀ d ∈ ds, d.py.depth ≤ n) → PyData.depthAll (pyAll ds) ≤ n := by
  induction ds with
  | nil => intro _; exact Nat.zero_le _
  | cons x r ih =>
    intro h
    show max x.py.depth (PyData.depthAll (pyAll r)) ≤ n
    have h1 := h x List.mem_cons_self
    have h2 := ih fun y hy => h y (List.mem_cons_of_mem _ hy)
    omega
theorem Nice.okD {ds : List D} (h : ∀ d ∈ ds, Nice d) : okD (.lst ds) = true := by
  unfold MD.okD SeqAt.shaped
  have h1 : (D.lst ds).pl = true := by rw [D.pl]; exact plAll_of fun d hd => (h d hd).1
  have h2 : (D.lst ds).py.canLay0 = true := by rw [D.py, PyData.canLay0]; exact layAll_of fun d hd => (h d hd).2.1
  have h3 : (D.lst ds).py.depth ≤ 64 := by
    rw [D.py, PyData.depth]
    have := depAll_of (n := 20) fun d hd => (h d hd).2.2
    omega
  rw [h1, h2, decide_eq_true h3]; rfl
theorem Nice.int (i : Int) : Nice (.int i) := ⟨rfl, rfl, by simp [D.py, PyData.depth]⟩
theorem Nice.bl (i : Bool) : Nice (.bl i) := ⟨rfl, rfl, by simp [D.py, PyData.depth]⟩
theorem Nice.non : Nice .non := ⟨rfl, rfl, by simp [D.py, PyData.depth]⟩
theorem Nice.tup' {n : Nat} {ds : List D} (h : ∀ d ∈ ds, d.pl = true ∧ d.py.canLay0 = true ∧ d.py.depth ≤ n) : (D.tup ds).pl = true ∧ (D.tup ds).py.canLay0 = true ∧ (D.tup ds).py.depth ≤ n + 1 := by
  refine ⟨by rw [D.pl]; exact plAll_of fun d hd => (h d hd).1, by rw [D.py, PyData.canLay0]; exact layAll_of fun d hd => (h d hd).2.1, ?_⟩
  rw [D.py, PyData.depth]
  have := depAll_of (n := n) fun d hd => (h d hd).2.2
  omega
theorem ne_nil {ds : List D} (h : ∀ d ∈ ds, Nice d) : neM (.lst ds) (.lst []) = some (.bl (!ds.isEmpty)) := by
  unfold neM eqB
  have e : sEq (.lst ds) (.lst []) = none := rfl
  have h0 : MD.okD (.lst []) = true := Nice.okD fun d hd => nomatch hd
  rw [e]
  simp only [Nice.okD h, h0, Bool.and_self, if_true, Option.map_some]
  cases ds with
  | nil => rfl
  | cons x r => rfl
theorem eq_nil {ds : List D} (h : ∀ d ∈ ds, Nice d) : eqM (.lst ds) (.lst []) = some (.bl ds.isEmpty) := by
  unfold eqM eqB
  have e : sEq (.lst ds) (.lst []) = none := rfl
  have h0 : MD.okD (.lst []) = true := Nice.okD fun d hd => nomatch hd
  rw [e]
  simp only [Nice.okD h, h0, Bool.and_self, if_true, Option.map_some]
  cases ds with
  | nil => rfl
  | cons x r => rfl
theorem strOk_W {ws : List Nat} (h : ∀ c ∈ ws, c < 128) : (D.str (W ws)).py.canLay0 = true := by
  show PyData.strOk (W ws) = true
  unfold PyData.strOk
  rw [← Array.all_toList, W_list, List.all_eq_true]
  intro c hc
  have := h c hc
  exact decide_eq_true (by omega)
theorem Nice.strW {ws : List Nat} (h : ∀ c ∈ ws, c < 128) : Nice (.str (W ws)) := ⟨rfl, strOk_W h, by simp [D.py, PyData.depth]⟩
end MD

set_option Elab.async false
set_option linter.all false
namespace Bf
/-! ### words in order of length, then of letters -/
def slt (v u : List Nat) : Prop := v.length < u.length ∨ (v.length = u.length ∧ v < u)
def sle (v u : List Nat) : Prop := v.length < u.length ∨ (v.length = u.length ∧ (v < u ∨ v = u))
theorem lt_app : ∀ {v u : List Nat} (a b : List Nat), v.length = u.length → v < u → v ++ a < u ++ b
  | [], [], _, _, _, h => absurd h (List.lt_irrefl _)
  | [], y :: u, _, _, h, _ => by simp at h
  | x :: v, [], _, _, h, _ => by simp at h
  | x :: v, y :: u, a, b, h, hl => by
    rw [List.cons_append, List.cons_append]
    rcases List.cons_lt_cons_iff.mp hl with h1 | ⟨h1, h2⟩
    · exact List.cons_lt_cons_iff.mpr (.inl h1)
    · exact List.cons_lt_cons_iff.mpr (.inr ⟨h1, lt_app a b (by simpa using h) h2⟩)
theorem lt_snoc {v : List Nat} {x y : Nat} (h : x < y) : v ++ [x] < v ++ [y] := by
  induction v with
  | nil => exact List.cons_lt_cons_iff.mpr (.inl h)
  | cons z v ih => exact List.cons_lt_cons_iff.mpr (.inr ⟨rfl, ih⟩)
theorem sle_snoc {v u : List Nat} (h : sle v u) (x : Nat) : sle (v ++ [x]) (u ++ [x]) := by
  rcases h with h | ⟨h1, h2 | h2⟩
  · exact .inl (by simp; exact h)
  · exact .inr ⟨by simp [h1], .inl (lt_app _ _ h1 h2)⟩
  · subst h2; exact .inr ⟨rfl, .inr rfl⟩
theorem sle_trans {a b c : List Nat} (h : sle a b) (h' : sle b c) : sle a c := by
  rcases h with h | ⟨h1, h2⟩
  · rcases h' with h' | ⟨h3, h4⟩
    · exact .inl (by omega)
    · exact .inl (by omega)
  · rcases h' with h' | ⟨h3, h4⟩
    · exact .inl (by omega)
    · refine .inr ⟨by omega, ?_⟩
      rcases h2 with h2 | h2
      · rcases h4 with h4 | h4
        · exact .inl (List.lt_trans h2 h4)
        · subst h4; exact .inl h2
      · subst h2; exact h4
theorem sle_slt {a b c : List Nat} (h : sle a b) (h' : slt b c) : slt a c := by
  rcases h with h | ⟨h1, h2⟩
  · rcases h' with h' | ⟨h3, h4⟩
    · exact .inl (by omega)
    · exact .inl (by omega)
  · rcases h' with h' | ⟨h3, h4⟩
    · exact .inl (by omega)
    · refine .inr ⟨by omega, ?_⟩
      rcases h2 with h2 | h2
      · exact List.lt_trans h2 h4
      · subst h2; exact h4
theorem sle_refl (a : List Nat) : sle a a := .inr ⟨rfl, .inr rfl⟩
/-- different numbers below N are at most N -/
theorem nodup_le : ∀ (N : Nat) (l : List Nat), l.Nodup → (∀ x ∈ l, x < N) → l.length ≤ N
  | 0, l, _, h => by
    cases l with
    | nil => exact Nat.le_refl _
    | cons x l => exact absurd (h x List.mem_cons_self) (Nat.not_lt_zero _)
  | N + 1, l, hn, h => by
    have hf : (l.filter (· ≠ N)).length ≤ N := nodup_le N _ (hn.filter _) fun x hx => by
      rw [List.mem_filter] at hx
      have := h x hx.1
      have h2 : x ≠ N := by simpa using hx.2
      omega
    have hc : (l.filter (fun x => !decide (x ≠ N))).length ≤ 1 := by
      have hn2 : (l.filter (fun x => !decide (x ≠ N))).Nodup := hn.filter _
      have hall : ∀ x ∈ l.filter (fun x => !decide (x ≠ N)), x = N := fun x hx => by
        rw [List.mem_filter] at hx
        have := hx.2
        simpa using this
      generalize l.filter (fun x => !decide (x ≠ N)) = m at hn2 hall
      match m, hn2, hall with
      | [], _, _ => simp
      | [_], _, _ => simp
      | a :: b :: r, hn2, hall =>
        have e1 := hall a (by simp)
        have e2 := hall b (by simp)
        rw [List.nodup_cons] at hn2
        exact absurd (by rw [e1, e2]; simp) hn2.1
    have : ∀ (p : Nat → Bool) (l : List Nat), l.length = (l.filter p).length + (l.filter (fun x => !p x)).length := fun p l => by
      induction l with
      | nil => rfl
      | cons x l ih =>
        by_cases hp : p x = true
        · simp [hp, ih]; omega
        · simp [hp, ih]; omega
    have e := this (fun x => decide (x ≠ N)) l
    omega

/-! ### a system that reads letters, searched layer by layer -/
structure Sys (C : Type) where
  k : Nat
  step : C → Nat → Option C
  goal : C → Bool
section
variable {C Kn : Type} (M : Sys C) (test : Kn → C → Option Kn)
/-- letter number of a code -/
def rd1 (c : C) (x : Nat) : Option C := if 97 ≤ x ∧ x < 97 + M.k then M.step c (x - 97) else none
def run : C → List Nat → Option C
  | c, [] => some c
  | c, x :: w => (rd1 M c x).bind fun c' => run c' w
def exp (c : C) (w : List Nat) : List Nat → Kn → List (C × List Nat) → Kn × List (C × List Nat)
  | [], kn, fu => (kn, fu)
  | x :: xs, kn, fu => match M.step c x with
    | none => exp c w xs kn fu
    | some c' => match test kn c' with
      | none => exp c w xs kn fu
      | some kn' => exp c w xs kn' (fu ++ [(c', w ++ [97 + x])])
theorem exp_n {M : Sys C} {test : Kn → C → Option Kn} {c : C} {w : List Nat} {x : Nat} {xs : List Nat} {kn : Kn} {fu : List (C × List Nat)} (h : M.step c x = none) : exp M test c w (x :: xs) kn fu = exp M test c w xs kn fu := by
  simp [exp, h]
theorem exp_r {M : Sys C} {test : Kn → C → Option Kn} {c c' : C} {w : List Nat} {x : Nat} {xs : List Nat} {kn : Kn} {fu : List (C × List Nat)} (h : M.step c x = some c') (h' : test kn c' = none) : exp M test c w (x :: xs) kn fu = exp M test c w xs kn fu := by
  simp [exp, h, h']
theorem exp_a {M : Sys C} {test : Kn → C → Option Kn} {c c' : C} {w : List Nat} {x : Nat} {xs : List Nat} {kn kn' : Kn} {fu : List (C × List Nat)} (h : M.step c x = some c') (h' : test kn c' = some kn') : exp M test c w (x :: xs) kn fu = exp M test c w xs kn' (fu ++ [(c', w ++ [97 + x])]) := by
  simp [exp, h, h']
def lay : List (C × List Nat) → Kn → List (C × List Nat) → List Nat ⊕ (Kn × List (C × List Nat))
  | [], kn, fu => .inr (kn, fu)
  | (c, w) :: r, kn, fu => if M.goal c = true then .inl w else lay r (exp M test c w (List.range M.k) kn fu).1 (exp M test c w (List.range M.k) kn fu).2
def bfs : Nat → Kn → List (C × List Nat) → Option (Option (List Nat))
  | 0, _, _ => none
  | _ + 1, _, [] => some none
  | n + 1, kn, p :: L => match lay M test (p :: L) kn [] with
    | .inl w => some (some w)
    | .inr q => bfs n q.1 q.2
end
theorem run_snoc {C : Type} {M : Sys C} : ∀ (w : List Nat) (c : C) (x : Nat), run M c (w ++ [x]) = (run M c w).bind fun c' => rd1 M c' x
  | [], c, x => by
    show (rd1 M c x).bind (fun c' => some c') = rd1 M c x
    cases rd1 M c x <;> rfl
  | y :: w, c, x => by
    show (rd1 M c y).bind (fun c' => run M c' (w ++ [x])) = ((rd1 M c y).bind fun c' => run M c' w).bind _
    cases rd1 M c y with
    | none => rfl
    | some c' => exact run_snoc w c' x
/-! how long the told word is -/
section
variable {C Kn : Type} {M : Sys C} {test : Kn → C → Option Kn}
theorem exp_len {c : C} {w : List Nat} {n : Nat} (hw : w.length = n) : ∀ (xs : List Nat) (kn : Kn) (fu : List (C × List Nat)), (∀ p ∈ fu, p.2.length = n + 1) → ∀ p ∈ (exp M test c w xs kn fu).2, p.2.length = n + 1
  | [], kn, fu, h => h
  | x :: xs, kn, fu, h => by
    cases hs : M.step c x with
    | none => rw [exp_n hs]; exact exp_len hw xs kn fu h
    | some c' =>
      cases ht : test kn c' with
      | none => rw [exp_r hs ht]; exact exp_len hw xs kn fu h
      | some kn' =>
        rw [exp_a hs ht]
        refine exp_len hw xs kn' _ fun p hp => ?_
        rcases List.mem_append.mp hp with z | z
        · exact h p z
        · rw [List.mem_singleton.mp z]; simp [hw]
theorem lay_len {n : Nat} : ∀ (R : List (C × List Nat)) (kn : Kn) (fu : List (C × List Nat)), (∀ p ∈ R, p.2.length = n) → (∀ p ∈ fu, p.2.length = n + 1) →
    (∀ w, lay M test R kn fu = .inl w → w.length = n) ∧ ∀ q, lay M test R kn fu = .inr q → ∀ p ∈ q.2, p.2.length = n + 1
  | [], kn, fu, _, h => ⟨fun w e => (by cases e), fun q e => by cases e; exact h⟩
  | (c, w) :: R, kn, fu, hR, h => by
    have hw : w.length = n := hR _ List.mem_cons_self
    unfold lay
    by_cases hg : M.goal c = true
    · rw [if_pos hg]
      exact ⟨fun w' e => (by cases e; exact hw), fun q e => (by cases e)⟩
    · rw [if_neg hg]
      exact lay_len R _ _ (fun p hp => hR p (List.mem_cons_of_mem _ hp)) (exp_len hw _ kn fu h)
theorem bfs_len : ∀ (m n : Nat) (kn : Kn) (L : List (C × List Nat)) (w : List Nat), (∀ p ∈ L, p.2.length = n) → bfs M test m kn L = some (some w) → w.length < n + m
  | 0, _, _, _, _, _, h => by cases h
  | m + 1, n, kn, [], w, _, h => by cases h
  | m + 1, n, kn, p0 :: L, w, hL, h => by
    rw [bfs] at h
    have hl := lay_len (M := M) (test := test) (p0 :: L) kn [] hL (fun p hp => nomatch hp)
    cases hc : lay M test (p0 :: L) kn [] with
    | inl w' =>
      rw [hc] at h
      cases h
      have := hl.1 _ hc
      omega
    | inr q =>
      rw [hc] at h
      have := bfs_len m (n + 1) q.1 q.2 w (hl.2 q hc) h
      omega
end
structure Dom {C Kn : Type} (M : Sys C) (test : Kn → C → Option Kn) where
  dom : C → C → Prop
  refl : ∀ a, dom a a
  trans : ∀ {a b c}, dom a b → dom b c → dom a c
  stepm : ∀ {a b b' x}, dom a b → M.step b x = some b' → ∃ a', M.step a x = some a' ∧ dom a' b'
  goalm : ∀ {a b}, dom a b → M.goal b = true → M.goal a = true
  mem : Kn → C → Prop
  rej : ∀ {kn c}, test kn c = none → ∃ a, mem kn a ∧ dom a c
  new : ∀ {kn c kn'}, test kn c = some kn' → mem kn' c
  old : ∀ {kn c kn' a}, test kn c = some kn' → mem kn a → ∃ a', mem kn' a' ∧ dom a' a
  from_ : ∀ {kn c kn' a}, test kn c = some kn' → mem kn' a → mem kn a ∨ a = c
  no : ∀ {kn c kn' a}, test kn c = some kn' → mem kn a → ¬ dom a c
section
variable {C Kn : Type} {M : Sys C} {test : Kn → C → Option Kn} (T : Dom M test) (c0 : C)
/-- what is known of all that was found: Ds, in the order it was found -/
structure Fnd (kn : Kn) (Ds : List (C × List Nat)) : Prop where
  run : ∀ p ∈ Ds, run M c0 p.2 = some p.1
  mem : ∀ a, T.mem kn a → ∃ w, (a, w) ∈ Ds
  cov : ∀ p ∈ Ds, ∃ a, T.mem kn a ∧ T.dom a p.1
  nd : (Ds.map (·.1)).Nodup
/-- all that follows p is covered -/
def Cl (Ds : List (C × List Nat)) (p : C × List Nat) : Prop := ∀ x c', x < M.k → M.step p.1 x = some c' → ∃ q ∈ Ds, T.dom q.1 c' ∧ sle q.2 (p.2 ++ [97 + x])
variable {T c0}
theorem Cl.mono {Ds Ds' : List (C × List Nat)} {p : C × List Nat} (h : Cl T Ds p) (hs : ∀ q ∈ Ds, q ∈ Ds') : Cl T Ds' p := fun x c' hx e => by
  obtain ⟨q, h1, h2⟩ := h x c' hx e
  exact ⟨q, hs q h1, h2⟩
theorem Fnd.step {kn kn' : Kn} {Ds : List (C × List Nat)} {c c' : C} {w : List Nat} {x : Nat} (hF : Fnd T c0 kn Ds) (hr : Bf.run M c0 w = some c) (hx : x < M.k) (hs : M.step c x = some c') (ht : test kn c' = some kn') : Fnd T c0 kn' (Ds ++ [(c', w ++ [97 + x])]) := by
  have hrun : Bf.run M c0 (w ++ [97 + x]) = some c' := by
    rw [run_snoc, hr]
    show rd1 M c (97 + x) = _
    unfold rd1
    rw [if_pos ⟨by omega, by omega⟩, Nat.add_sub_cancel_left, hs]
  refine ⟨fun p hp => ?_, fun a ha => ?_, fun p hp => ?_, ?_⟩
  · rcases List.mem_append.mp hp with h | h
    · exact hF.run p h
    · rw [List.mem_singleton.mp h]; exact hrun
  · rcases T.from_ ht ha with h | h
    · obtain ⟨v, hv⟩ := hF.mem a h
      exact ⟨v, List.mem_append_left _ hv⟩
    · subst h; exact ⟨w ++ [97 + x], by simp⟩
  · rcases List.mem_append.mp hp with h | h
    · obtain ⟨a, h1, h2⟩ := hF.cov p h
      obtain ⟨a', h3, h4⟩ := T.old ht h1
      exact ⟨a', h3, T.trans h4 h2⟩
    · rw [List.mem_singleton.mp h]; exact ⟨c', T.new ht, T.refl c'⟩
  · rw [List.map_append, List.nodup_append]
    refine ⟨hF.nd, by simp, fun a ha b hb z => ?_⟩
    obtain ⟨p, hp, rfl⟩ := List.mem_map.mp ha
    have hb' : b = c' := by simpa using hb
    obtain ⟨q, h1, h2⟩ := hF.cov p hp
    refine T.no ht h1 ?_
    rw [← hb', ← z]
    exact h2
/-- the letters of one word -/
theorem exp_ok {c : C} {w : List Nat} {Ds0 : List (C × List Nat)} (hr : run M c0 w = some c) (hl : ∀ p ∈ Ds0, p.2.length ≤ w.length) : ∀ (j : Nat), j ≤ M.k → ∀ (kn : Kn) (fu : List (C × List Nat)),
    Fnd T c0 kn (Ds0 ++ fu) → (∀ p ∈ fu, p.2.length = w.length + 1) → (fu.map (·.2)).Pairwise (· < ·) → (∀ p ∈ fu, ∀ x, M.k - j ≤ x → p.2 < w ++ [97 + x]) →
    (∀ x c', x < M.k - j → M.step c x = some c' → ∃ q ∈ Ds0 ++ fu, T.dom q.1 c' ∧ sle q.2 (w ++ [97 + x])) →
    ∃ more, (exp M test c w (List.range' (M.k - j) j) kn fu).2 = fu ++ more ∧ Fnd T c0 (exp M test c w (List.range' (M.k - j) j) kn fu).1 (Ds0 ++ (fu ++ more)) ∧ (∀ p ∈ fu ++ more, p.2.length = w.length + 1) ∧ ((fu ++ more).map (·.2)).Pairwise (· < ·) ∧
      (∀ p ∈ more, ∃ x, x < M.k ∧ p.2 = w ++ [97 + x]) ∧ Cl T (Ds0 ++ (fu ++ more)) (c, w)
  | 0, _, kn, fu, hF, hfl, hp, _, hc => by
    refine ⟨[], by simp [exp], by simpa [exp] using hF, by simpa using hfl, by simpa using hp, by simp, ?_⟩
    rw [List.append_nil]
    exact fun x c' hx e => hc x c' (by omega) e
  | j + 1, hj, kn, fu, hF, hfl, hp, hlt, hc => by
    have er : List.range' (M.k - (j + 1)) (j + 1) = (M.k - (j + 1)) :: List.range' (M.k - j) j := by
      rw [List.range'_succ]
      congr 2
      omega
    rw [er]
    generalize hx0 : M.k - (j + 1) = x0
    have hx0k : x0 < M.k := by omega
    have hx1 : M.k - j = x0 + 1 := by omega
    have skip : (∀ c', M.step c x0 = some c' → ∃ q ∈ Ds0 ++ fu, T.dom q.1 c' ∧ sle q.2 (w ++ [97 + x0])) → _ := fun hc0 =>
      exp_ok hr hl j (by omega) kn fu hF hfl hp (fun p hp x hx => hlt p hp x (by omega)) fun x c' hx e => by
        by_cases h : x < x0
        · exact hc x c' (by omega) e
        · have : x = x0 := by omega
          subst this
          exact hc0 c' e
    cases hs : M.step c x0 with
    | none => rw [exp_n hs]; exact skip fun c' e => by rw [hs] at e; cases e
    | some c' =>
      cases ht : test kn c' with
      | none =>
        rw [exp_r hs ht]
        refine skip fun c'' e => ?_
        rw [hs] at e
        cases e
        obtain ⟨a, ha, hd⟩ := T.rej ht
        obtain ⟨v, hv⟩ := hF.mem a ha
        refine ⟨(a, v), hv, hd, ?_⟩
        rcases List.mem_append.mp hv with h | h
        · have := hl _ h
          exact .inl (by simp at this ⊢; omega)
        · exact .inr ⟨by rw [hfl _ h]; simp, .inl (hlt _ h x0 (by omega))⟩
      | some kn' =>
        have hrun : run M c0 (w ++ [97 + x0]) = some c' := by
          rw [run_snoc, hr]
          show rd1 M c (97 + x0) = _
          unfold rd1
          rw [if_pos ⟨by omega, by omega⟩, Nat.add_sub_cancel_left, hs]
        have hF' : Fnd T c0 kn' (Ds0 ++ (fu ++ [(c', w ++ [97 + x0])])) := by
          rw [← List.append_assoc]
          refine ⟨fun p hp => ?_, fun a ha => ?_, fun p hp => ?_, ?_⟩
          · rcases List.mem_append.mp hp with h | h
            · exact hF.run p h
            · rw [List.mem_singleton.mp h]; exact hrun
          · rcases T.from_ ht ha with h | h
            · obtain ⟨v, hv⟩ := hF.mem a h
              exact ⟨v, List.mem_append_left _ hv⟩
            · subst h; exact ⟨w ++ [97 + x0], by simp⟩
          · rcases List.mem_append.mp hp with h | h
            · obtain ⟨a, h1, h2⟩ := hF.cov p h
              obtain ⟨a', h3, h4⟩ := T.old ht h1
              exact ⟨a', h3, T.trans h4 h2⟩
            · rw [List.mem_singleton.mp h]; exact ⟨c', T.new ht, T.refl c'⟩
          · rw [List.map_append, List.nodup_append]
            refine ⟨hF.nd, by simp, fun a ha b hb z => ?_⟩
            obtain ⟨p, hp, rfl⟩ := List.mem_map.mp ha
            have hb' : b = c' := by simpa using hb
            obtain ⟨q, h1, h2⟩ := hF.cov p hp
            refine T.no ht h1 ?_
            rw [← hb', ← z]
            exact h2
        obtain ⟨more, g1, g2, g3, g4, g5, g6⟩ := exp_ok hr hl j (by omega) kn' (fu ++ [(c', w ++ [97 + x0])]) hF' (fun p hp => by
            rcases List.mem_append.mp hp with h | h
            · exact hfl p h
            · rw [List.mem_singleton.mp h]; simp) (by
            rw [List.map_append, List.pairwise_append]
            refine ⟨hp, by simp, fun a ha b hb => ?_⟩
            obtain ⟨p, hp', rfl⟩ := List.mem_map.mp ha
            have hb' : b = w ++ [97 + x0] := by simpa using hb
            rw [hb']
            exact hlt p hp' x0 (by omega)) (fun p hp x hx => by
            rcases List.mem_append.mp hp with h | h
            · exact hlt p h x (by omega)
            · rw [List.mem_singleton.mp h]
              exact lt_snoc (by omega)) fun x c'' hx e => by
            by_cases h : x < x0
            · obtain ⟨q, h1, h2⟩ := hc x c'' (by omega) e
              refine ⟨q, ?_, h2⟩
              rw [← List.append_assoc]
              exact List.mem_append_left _ h1
            · have : x = x0 := by omega
              subst this
              rw [hs] at e
              cases e
              exact ⟨(c', w ++ [97 + x]), by simp, T.refl c', sle_refl _⟩
        rw [hx1] at g1 g2
        refine ⟨(c', w ++ [97 + x0]) :: more, ?_, ?_, ?_, ?_, ?_, ?_⟩
        · rw [exp_a hs ht, hx1, g1]; simp
        · rw [exp_a hs ht, hx1]
          simpa using g2
        · simpa using g3
        · simpa using g4
        · intro p hp
          rcases List.mem_cons.mp hp with h | h
          · rw [h]; exact ⟨x0, hx0k, rfl⟩
          · exact g5 p h
        · simpa using g6
/-- one layer -/
theorem lay_ok {Ds0 L : List (C × List Nat)} {n : Nat} (hn : ∀ p ∈ Ds0, p.2.length ≤ n) : ∀ (R P : List (C × List Nat)) (kn : Kn) (fu : List (C × List Nat)), L = P ++ R → (∀ p ∈ L, p.2.length = n ∧ p ∈ Ds0) → (L.map (·.2)).Pairwise (· < ·) →
    Fnd T c0 kn (Ds0 ++ fu) → (∀ p ∈ fu, p.2.length = n + 1) → (fu.map (·.2)).Pairwise (· < ·) → (∀ p ∈ fu, ∃ q ∈ P, ∃ x, p.2 = q.2 ++ [97 + x]) → (∀ p ∈ P, M.goal p.1 = false ∧ Cl T (Ds0 ++ fu) p) →
    (∀ w, lay M test R kn fu = .inl w → ∃ c P' R', L = P' ++ (c, w) :: R' ∧ M.goal c = true ∧ ∀ p ∈ P', M.goal p.1 = false) ∧
    (∀ kn' fu', lay M test R kn fu = .inr (kn', fu') → (∃ more, fu' = fu ++ more) ∧ Fnd T c0 kn' (Ds0 ++ fu') ∧ (∀ p ∈ fu', p.2.length = n + 1) ∧ (fu'.map (·.2)).Pairwise (· < ·) ∧ ∀ p ∈ L, M.goal p.1 = false ∧ Cl T (Ds0 ++ fu') p)
  | [], P, kn, fu, hL, h1, h2, hF, h3, h4, h5, h6 => by
    rw [List.append_nil] at hL
    subst hL
    refine ⟨fun w h => by simp [lay] at h, fun kn' fu' h => ?_⟩
    simp only [lay, Sum.inr.injEq, Prod.mk.injEq] at h
    obtain ⟨rfl, rfl⟩ := h
    exact ⟨⟨[], by simp⟩, hF, h3, h4, h6⟩
  | (c, w) :: R, P, kn, fu, hL, h1, h2, hF, h3, h4, h5, h6 => by
    unfold lay
    by_cases hg : M.goal c = true
    · rw [if_pos hg]
      refine ⟨fun w' h => ?_, fun kn' fu' h => by cases h⟩
      cases h
      exact ⟨c, P, R, hL, hg, fun p hp => (h6 p hp).1⟩
    · rw [if_neg hg]
      have hm : (c, w) ∈ L := by rw [hL]; simp
      obtain ⟨hwn, hwD⟩ := h1 _ hm
      have hwn : w.length = n := hwn
      have hrun : run M c0 w = some c := hF.run _ (List.mem_append_left _ hwD)
      have er : List.range M.k = List.range' (M.k - M.k) M.k := by rw [Nat.sub_self, List.range_eq_range']
      have hPw : ∀ q ∈ P, q.2 < w := fun q hq => by
        rw [hL, List.map_append, List.pairwise_append] at h2
        exact h2.2.2 q.2 (List.mem_map.mpr ⟨q, hq, rfl⟩) w (by simp)
      obtain ⟨more, g1, g2, g3, g4, g5, g6⟩ := exp_ok (T := T) hrun (fun p hp => by rw [hwn]; exact hn p hp) M.k (Nat.le_refl _) kn fu hF (fun p hp => by rw [h3 p hp, hwn]) h4 (fun p hp x _ => by
          obtain ⟨q, hq, y, e⟩ := h5 p hp
          rw [e]
          refine lt_app _ _ ?_ (hPw q hq)
          rw [hwn]
          exact (h1 q (by rw [hL]; exact List.mem_append_left _ hq)).1) fun x c' hx => by omega
      rw [er]
      have hsub : ∀ q ∈ Ds0 ++ fu, q ∈ Ds0 ++ (fu ++ more) := fun q hq => by
        rw [← List.append_assoc]; exact List.mem_append_left _ hq
      have ih := lay_ok hn R (P ++ [(c, w)]) (exp M test c w (List.range' (M.k - M.k) M.k) kn fu).1 (fu ++ more) (by rw [hL]; simp) h1 h2 g2 (fun p hp => by rw [g3 p hp, hwn]) g4 (fun p hp => by
          rcases List.mem_append.mp hp with h | h
          · obtain ⟨q, hq, x, e⟩ := h5 p h
            exact ⟨q, List.mem_append_left _ hq, x, e⟩
          · obtain ⟨x, _, e⟩ := g5 p h
            exact ⟨(c, w), by simp, x, e⟩) fun p hp => by
          rcases List.mem_append.mp hp with h | h
          · exact ⟨(h6 p h).1, (h6 p h).2.mono hsub⟩
          · rw [List.mem_singleton.mp h]
            exact ⟨by simpa using hg, g6⟩
      rw [g1]
      refine ⟨ih.1, fun kn' fu' h => ?_⟩
      obtain ⟨⟨m2, e2⟩, i2⟩ := ih.2 kn' fu' h
      exact ⟨⟨more ++ m2, by rw [e2]; simp⟩, i2⟩
/-- what stands at the beginning of a layer -/
structure Lv (kn : Kn) (Ds L : List (C × List Nat)) (n : Nat) : Prop where
  fnd : Fnd T c0 kn Ds
  len : ∀ p ∈ Ds, p.2.length ≤ n
  lay : ∀ p ∈ L, p.2.length = n ∧ p ∈ Ds
  srt : (L.map (·.2)).Pairwise (· < ·)
  old : ∀ p ∈ Ds, p.2.length < n → M.goal p.1 = false ∧ Cl T Ds p
  cur : ∀ p ∈ Ds, p.2.length = n → p ∈ L
  root : (c0, []) ∈ Ds
  cnt : n + L.length ≤ Ds.length
theorem Lv.all {kn : Kn} {Ds L : List (C × List Nat)} {n : Nat} (v : Lv (T := T) (c0 := c0) kn Ds L n) : ∀ (m : Nat) (u : List Nat) (c : C), u.length = m → m ≤ n → run M c0 u = some c → ∃ p ∈ Ds, T.dom p.1 c ∧ sle p.2 u
  | 0, u, c, hu, _, hr => by
    have : u = [] := List.eq_nil_of_length_eq_zero hu
    subst this
    cases hr
    exact ⟨_, v.root, T.refl _, sle_refl _⟩
  | m + 1, u, c, hu, hm, hr => by
    obtain ⟨u', x, rfl⟩ : ∃ u' x, u = u' ++ [x] := by
      rcases List.eq_nil_or_concat u with h | ⟨u', x, h⟩
      · subst h; simp at hu
      · exact ⟨u', x, by simpa using h⟩
    rw [run_snoc] at hr
    cases hc : run M c0 u' with
    | none => rw [hc] at hr; cases hr
    | some c1 =>
      rw [hc] at hr
      replace hr : rd1 M c1 x = some c := hr
      obtain ⟨p, h1, h2, h3⟩ := v.all m u' c1 (by simpa using hu) (by omega) hc
      unfold rd1 at hr
      split at hr
      · rename_i hx
        obtain ⟨a', h4, h5⟩ := T.stepm h2 hr
        have hpl : p.2.length < n := by
          have : u'.length = m := by simpa using hu
          rcases h3 with h | ⟨h, _⟩ <;> omega
        obtain ⟨q, h6, h7, h8⟩ := (v.old p h1 hpl).2 (x - 97) a' (by omega) h4
        have ex : 97 + (x - 97) = x := by omega
        rw [ex] at h8
        exact ⟨q, h6, T.trans h7 h5, sle_trans h8 (sle_snoc h3 x)⟩
      · cases hr
theorem Lv.next {kn kn' : Kn} {Ds L fu : List (C × List Nat)} {n : Nat} (v : Lv (T := T) (c0 := c0) kn Ds L n) (h0 : L ≠ []) (hl : Bf.lay M test L kn [] = .inr (kn', fu)) : Lv (T := T) (c0 := c0) kn' (Ds ++ fu) fu (n + 1) := by
  have hlay := lay_ok (T := T) (c0 := c0) (Ds0 := Ds) (L := L) v.len L [] kn [] rfl v.lay v.srt (by simpa using v.fnd) (fun p hp => nomatch hp) (by simp) (fun p hp => nomatch hp) (fun p hp => nomatch hp)
  obtain ⟨_, g2, g3, g4, g5⟩ := hlay.2 kn' fu hl
  refine ⟨g2, fun p hp => ?_, fun p hp => ⟨g3 p hp, List.mem_append_right _ hp⟩, g4, fun p hp hlt => ?_, fun p hp hlt => ?_, List.mem_append_left _ v.root, ?_⟩
  · rcases List.mem_append.mp hp with h | h
    · have := v.len p h; omega
    · rw [g3 p h]; exact Nat.le_refl _
  · rcases List.mem_append.mp hp with h | h
    · by_cases h' : p.2.length < n
      · obtain ⟨k1, k2⟩ := v.old p h h'
        exact ⟨k1, k2.mono fun q hq => List.mem_append_left _ hq⟩
      · exact g5 p (v.cur p h (by omega))
    · have := g3 p h; omega
  · rcases List.mem_append.mp hp with h | h
    · have := v.len p h; omega
    · exact h
  · have := v.cnt
    have h1 : 0 < L.length := List.length_pos_iff.mpr h0
    rw [List.length_append]
    omega
def Goal (M : Sys C) (c0 : C) (u : List Nat) : Prop := ∃ c, run M c0 u = some c ∧ M.goal c = true
/-- THE SEARCH: what it tells is the first word -/
theorem bfs_ok (N : Nat) (hN : ∀ (kn : Kn) (Ds : List (C × List Nat)), Fnd T c0 kn Ds → Ds.length ≤ N) : ∀ (m n : Nat) (kn : Kn) (Ds L : List (C × List Nat)), Lv (T := T) (c0 := c0) kn Ds L n → N < n + m →
    ∃ r, bfs M test m kn L = some r ∧ (∀ w, r = some w → Goal M c0 w ∧ ∀ u, Goal M c0 u → ¬ slt u w) ∧ (r = none → ∀ u, ¬ Goal M c0 u)
  | 0, n, kn, Ds, L, v, hm => by
    have := hN kn Ds v.fnd
    have := v.cnt
    omega
  | m + 1, n, kn, Ds, [], v, hm => by
    refine ⟨none, rfl, fun w h => (by cases h), fun _ u hu => ?_⟩
    obtain ⟨c, h1, h2⟩ := hu
    have v' : ∀ (j : Nat), Lv (T := T) (c0 := c0) kn Ds [] (n + j) ∨ True := fun _ => .inr trivial
    -- all that was found is shorter than n, and closed
    have old : ∀ p ∈ Ds, M.goal p.1 = false ∧ Cl T Ds p := fun p hp => by
      have := v.len p hp
      by_cases h : p.2.length < n
      · exact v.old p hp h
      · exact absurd (v.cur p hp (by omega)) (by simp)
    have all : ∀ (j : Nat) (u : List Nat) (c : C), u.length = j → run M c0 u = some c → ∃ p ∈ Ds, T.dom p.1 c := fun j => by
      induction j with
      | zero =>
        intro u c hu hr
        have : u = [] := List.eq_nil_of_length_eq_zero hu
        subst this
        cases hr
        exact ⟨_, v.root, T.refl _⟩
      | succ j ih =>
        intro u c hu hr
        obtain ⟨u', x, rfl⟩ : ∃ u' x, u = u' ++ [x] := by
          rcases List.eq_nil_or_concat u with h | ⟨u', x, h⟩
          · subst h; simp at hu
          · exact ⟨u', x, by simpa using h⟩
        rw [run_snoc] at hr
        cases hc : run M c0 u' with
        | none => rw [hc] at hr; cases hr
        | some c1 =>
          rw [hc] at hr
          replace hr : rd1 M c1 x = some c := hr
          obtain ⟨p, g1, g2⟩ := ih u' c1 (by simpa using hu) hc
          unfold rd1 at hr
          split at hr
          · obtain ⟨a', h4, h5⟩ := T.stepm g2 hr
            obtain ⟨q, h6, h7, h8⟩ := (old p g1).2 (x - 97) a' (by omega) h4
            exact ⟨q, h6, T.trans h7 h5⟩
          · cases hr
    obtain ⟨p, g1, g2⟩ := all u.length u c rfl h1
    have := (old p g1).1
    rw [T.goalm g2 h2] at this
    cases this
  | m + 1, n, kn, Ds, p0 :: L, v, hm => by
    have hlay := lay_ok (T := T) (c0 := c0) (Ds0 := Ds) (L := p0 :: L) v.len (p0 :: L) [] kn [] rfl v.lay v.srt (by simpa using v.fnd) (fun p hp => nomatch hp) (by simp) (fun p hp => nomatch hp) (fun p hp => nomatch hp)
    show ∃ r, (match lay M test (p0 :: L) kn [] with
      | .inl w => some (some w)
      | .inr q => bfs M test m q.1 q.2) = some r ∧ _
    cases hl : lay M test (p0 :: L) kn [] with
    | inl w =>
      refine ⟨some w, rfl, fun w' h => ?_, fun h => (by cases h)⟩
      cases h
      obtain ⟨c, P', R', e, hg, hP⟩ := hlay.1 w hl
      have hm : (c, w) ∈ p0 :: L := by rw [e]; simp
      have hrun := v.fnd.run _ (v.lay _ hm).2
      have hwl : w.length = n := (v.lay _ hm).1
      refine ⟨⟨c, hrun, hg⟩, fun u ⟨cu, hu1, hu2⟩ hlt => ?_⟩
      have hul : u.length ≤ n := by
        rcases hlt with h | ⟨h, _⟩ <;> omega
      obtain ⟨q, g1, g2, g3⟩ := v.all u.length u cu rfl hul hu1
      have hq := T.goalm g2 hu2
      have hqw := sle_slt g3 hlt
      have hql := v.len q g1
      by_cases h : q.2.length < n
      · rw [(v.old q g1 h).1] at hq; cases hq
      · have hqL := v.cur q g1 (by omega)
        rw [e] at hqL
        rcases List.mem_append.mp hqL with h' | h'
        · rw [hP q h'] at hq; cases hq
        · have hlt' : q.2 < w := by
            rcases hqw with z | ⟨_, z⟩
            · omega
            · exact z
          rcases List.mem_cons.mp h' with z | z
          · rw [z] at hlt'
            exact absurd hlt' (List.lt_irrefl _)
          · have hs := v.srt
            rw [e, List.map_append, List.map_cons, List.pairwise_append, List.pairwise_cons] at hs
            have := hs.2.1.1 q.2 (List.mem_map.mpr ⟨q, z, rfl⟩)
            exact absurd (List.lt_trans hlt' this) (List.lt_irrefl _)
    | inr q =>
      obtain ⟨kn', fu⟩ := q
      obtain ⟨_, g2, g3, g4, g5⟩ := hlay.2 kn' fu hl
      refine bfs_ok N hN m (n + 1) kn' (Ds ++ fu) fu ⟨g2, fun p hp => ?_, fun p hp => ⟨g3 p hp, List.mem_append_right _ hp⟩, g4, fun p hp hlt => ?_, fun p hp hlt => ?_, List.mem_append_left _ v.root, ?_⟩ (by omega)
      · rcases List.mem_append.mp hp with h | h
        · have := v.len p h; omega
        · rw [g3 p h]; exact Nat.le_refl _
      · rcases List.mem_append.mp hp with h | h
        · by_cases h' : p.2.length < n
          · obtain ⟨k1, k2⟩ := v.old p h h'
            exact ⟨k1, k2.mono fun q hq => List.mem_append_left _ hq⟩
          · exact g5 p (v.cur p h (by omega))
        · have := g3 p h; omega
      · rcases List.mem_append.mp hp with h | h
        · have := v.len p h; omega
        · exact h
      · have := v.cnt
        rw [List.length_append]
        simp at this
        omega
end
end Bf

set_option Elab.async false
set_option linter.all false
namespace Bf
/-! ### a search that knows just what it has seen -/
section
variable {C : Type} [DecidableEq C]
def vis (kn : List C) (c : C) : Option (List C) := if c ∈ kn then none else some (kn ++ [c])
theorem vis_n {kn : List C} {c : C} (h : c ∈ kn) : vis kn c = none := by unfold vis; rw [if_pos h]
theorem vis_s {kn : List C} {c : C} (h : c ∉ kn) : vis kn c = some (kn ++ [c]) := by unfold vis; rw [if_neg h]
theorem vis_eq {kn kn' : List C} {c : C} (h : vis kn c = some kn') : c ∉ kn ∧ kn' = kn ++ [c] := by
  unfold vis at h
  split at h
  · cases h
  · rename_i hc
    cases h
    exact ⟨hc, rfl⟩
def visDom (M : Sys C) : Dom M (vis (C := C)) where
  dom a b := a = b
  refl _ := rfl
  trans h h' := h.trans h'
  stepm := by
    rintro a b b' x rfl e
    exact ⟨b', e, rfl⟩
  goalm := by
    rintro a b rfl e
    exact e
  mem kn c := c ∈ kn
  rej := by
    intro kn c e
    by_cases h : c ∈ kn
    · exact ⟨c, h, rfl⟩
    · rw [vis_s h] at e; cases e
  new := by
    intro kn c kn' e
    obtain ⟨_, rfl⟩ := vis_eq e
    simp
  old := by
    intro kn c kn' a e h
    obtain ⟨_, rfl⟩ := vis_eq e
    exact ⟨a, List.mem_append_left _ h, rfl⟩
  from_ := by
    intro kn c kn' a e h
    obtain ⟨_, rfl⟩ := vis_eq e
    rcases List.mem_append.mp h with z | z
    · exact .inl z
    · exact .inr (List.mem_singleton.mp z)
  no := by
    rintro kn c kn' a e h rfl
    exact (vis_eq e).1 h
theorem vis_few {M : Sys C} {c0 : C} {N : Nat} (V : C → Prop) (code : C → Nat) (v0 : V c0) (vs : ∀ {c c' x}, V c → M.step c x = some c' → V c') (inj : ∀ {a b}, V a → V b → code a = code b → a = b) (lt : ∀ {a}, V a → code a < N)
    {kn : List C} {Ds : List (C × List Nat)} (f : Fnd (visDom M) c0 kn Ds) : Ds.length ≤ N := by
  have vr : ∀ (w : List Nat) (c c' : C), V c → run M c w = some c' → V c' := by
    intro w
    induction w with
    | nil => intro c c' v e; cases e; exact v
    | cons x w ih =>
      intro c c' v e
      replace e : ((rd1 M c x).bind fun c' => run M c' w) = some c' := e
      cases h : rd1 M c x with
      | none => rw [h] at e; cases e
      | some c1 =>
        rw [h] at e
        refine ih c1 c' ?_ e
        unfold rd1 at h
        split at h
        · exact vs v h
        · cases h
  have hv : ∀ p ∈ Ds, V p.1 := fun p hp => vr p.2 _ _ v0 (f.run p hp)
  have hnd : ((Ds.map (·.1)).map code).Nodup := by
    have hnd0 := f.nd
    have hv' : ∀ c ∈ Ds.map (·.1), V c := fun c hc => by
      obtain ⟨p, hp, rfl⟩ := List.mem_map.mp hc
      exact hv p hp
    generalize Ds.map (·.1) = l at hnd0 hv'
    induction l with
    | nil => simp
    | cons c l ih =>
      rw [List.nodup_cons] at hnd0
      rw [List.map_cons, List.nodup_cons]
      refine ⟨fun z => ?_, ih hnd0.2 fun d hd => hv' d (List.mem_cons_of_mem _ hd)⟩
      obtain ⟨d, hd, e⟩ := List.mem_map.mp z
      have e2 := inj (hv' d (List.mem_cons_of_mem _ hd)) (hv' c List.mem_cons_self) e
      exact hnd0.1 (e2 ▸ hd)
  have := nodup_le N _ hnd fun x hx => by
    obtain ⟨c, hc, rfl⟩ := List.mem_map.mp hx
    obtain ⟨p, hp, rfl⟩ := List.mem_map.mp hc
    exact lt (hv p hp)
  simpa using this
end
theorem run_val {C : Type} {M : Sys C} (V : C → Prop) (vs : ∀ {c c' x}, V c → M.step c x = some c' → V c') : ∀ (w : List Nat) (c c' : C), V c → run M c w = some c' → V c'
  | [], c, c', v, e => by cases e; exact v
  | x :: w, c, c', v, e => by
    replace e : ((rd1 M c x).bind fun c' => run M c' w) = some c' := e
    cases h : rd1 M c x with
    | none => rw [h] at e; cases e
    | some c1 =>
      rw [h] at e
      refine run_val V vs w c1 c' ?_ e
      unfold rd1 at h
      split at h
      · exact vs v h
      · cases h
theorem run_letters {C : Type} {M : Sys C} : ∀ (w : List Nat) (c c' : C), run M c w = some c' → ∀ x ∈ w, 97 ≤ x ∧ x < 97 + M.k
  | [], _, _, _, x, hx => nomatch hx
  | y :: w, c, c', e, x, hx => by
    replace e : ((rd1 M c y).bind fun c' => run M c' w) = some c' := e
    cases h : rd1 M c y with
    | none => rw [h] at e; cases e
    | some c1 =>
      rw [h] at e
      unfold rd1 at h
      split at h
      · rename_i hy
        rcases List.mem_cons.mp hx with z | z
        · rw [z]; exact hy
        · exact run_letters w c1 c' e x z
      · cases h
/-- what the search begins with -/
theorem vis_start {C : Type} [DecidableEq C] (M : Sys C) (c0 : C) : Lv (T := visDom M) (c0 := c0) [c0] [(c0, [])] [(c0, [])] 0 := by
  have hF : Fnd (visDom M) c0 [c0] [(c0, [])] := by
    refine ⟨fun p hp => ?_, fun a ha => ?_, fun p hp => ?_, by simp⟩
    · rw [List.mem_singleton.mp hp]; rfl
    · have : a = c0 := List.mem_singleton.mp ha
      exact ⟨[], by rw [this]; simp⟩
    · rw [List.mem_singleton.mp hp]
      exact ⟨c0, List.mem_singleton.mpr rfl, rfl⟩
  refine ⟨hF, fun p hp => ?_, fun p hp => ⟨?_, hp⟩, by simp, fun p hp h => absurd h (Nat.not_lt_zero _), fun p hp _ => hp, by simp, by simp⟩
  · rw [List.mem_singleton.mp hp]; exact Nat.le_refl _
  · rw [List.mem_singleton.mp hp]; rfl
end Bf

set_option Elab.async false
set_option linter.all false
set_option maxRecDepth 100000
set_option maxHeartbeats 1000000
namespace Pm
/-! ### words parted, letter by letter: plain -/
def uu (us : List Int) (c : Nat) : Int := us.getD (c - 97) 0
def cnt (us : List Int) (ws : List Nat) : Int := (ws.map (uu us)).sum
abbrev Rest := Int × Bool × Int
structure Ct where
  us : List Int
  most : Int
  cl : List Nat
structure Ct.Ok (c : Ct) : Prop where
  nn : ∀ x ∈ c.us, 0 ≤ x
  m0 : 0 ≤ c.most
def mv (c : Ct) (r : Rest) (x : Nat) : Rest := if x ∉ c.cl ∧ 0 ≤ r.2.2 then (r.1 + r.2.2, true, 0) else r
def gp (c : Ct) (r : Rest) (x : Nat) : Int := (if (mv c r x).2.2 < 0 then 0 else (mv c r x).2.2) + uu c.us x
def nxt (c : Ct) (r : Rest) (x : Nat) : Option Rest :=
  if (mv c r x).1 + gp c r x ≤ c.most then some ((mv c r x).1, (mv c r x).2.1, gp c r x)
  else if (mv c r x).2.1 = false ∨ c.most < gp c r x then none else some (0, false, gp c r x)
def rr (c : Ct) : Option Rest → List Nat → Option Rest
  | o, [] => o
  | o, x :: u => rr c (o.bind fun r => nxt c r x) u
theorem rr_none (c : Ct) : ∀ u, rr c none u = none
  | [] => rfl
  | _ :: u => rr_none c u
theorem rr_snoc (c : Ct) : ∀ (u : List Nat) (o : Option Rest) (x : Nat), rr c o (u ++ [x]) = (rr c o u).bind fun r => nxt c r x
  | [], o, x => rfl
  | y :: u, o, x => rr_snoc c u _ x
/-- the last number below n with P -/
def lst (P : Nat → Bool) : Nat → Nat
  | 0 => 0
  | n + 1 => if P n = true then n else lst P n
theorem lst_eq {P : Nat → Bool} {q : Nat} : ∀ {n : Nat}, q < n → P q = true → (∀ j, q < j → j < n → P j = false) → lst P n = q
  | 0, h, _, _ => absurd h (Nat.not_lt_zero _)
  | n + 1, h, hq, hn => by
    unfold lst
    by_cases e : q = n
    · rw [← e, if_pos hq]
    · rw [if_neg (by rw [hn n (by omega) (by omega)]; simp)]
      exact lst_eq (by omega) hq fun j h1 h2 => hn j h1 (by omega)
theorem lst_lt {P : Nat → Bool} : ∀ {n : Nat}, 0 < n → lst P n < n
  | 0, h => absurd h (Nat.lt_irrefl _)
  | n + 1, _ => by
    unfold lst
    split
    · omega
    · by_cases h : 0 < n
      · have := lst_lt (P := P) h; omega
      · have : n = 0 := by omega
        subst this
        exact Nat.lt_succ_self _
def bord (c : Ct) (w : List Nat) (p : Nat) : Bool := decide (p = 0) || (decide (p = w.length) || match w[p]? with | some y => decide (y ∉ c.cl) | none => false)
def okP (c : Ct) (w : List Nat) (p : Nat) : Bool := bord c w p && decide (cnt c.us (w.take p) ≤ c.most)
def cutLen (c : Ct) (w : List Nat) : Nat := lst (okP c w) (w.length + 1)
def pc (c : Ct) : Nat → List Nat → Bool
  | 0, _ => false
  | _ + 1, [] => false
  | n + 1, x :: w => if cutLen c (x :: w) = 0 then true else pc c n ((x :: w).drop (cutLen c (x :: w)))
theorem pc_nil (c : Ct) : ∀ n, pc c n [] = false
  | 0 => rfl
  | _ + 1 => rfl
section
variable {c : Ct} (ok : c.Ok)
include ok
theorem uu_nn (x : Nat) : 0 ≤ uu c.us x := by
  unfold uu
  rw [List.getD_eq_getElem?_getD]
  cases e : c.us[x - 97]? with
  | none => simp
  | some y => exact ok.nn y (List.mem_of_getElem? e)
theorem cnt_nn : ∀ w : List Nat, 0 ≤ cnt c.us w
  | [] => by simp [cnt]
  | x :: w => by
    have h1 := uu_nn ok x
    have h2 := cnt_nn w
    show 0 ≤ uu c.us x + cnt c.us w
    omega
omit ok in
theorem cnt_app (a b : List Nat) : cnt c.us (a ++ b) = cnt c.us a + cnt c.us b := by
  unfold cnt
  rw [List.map_append, List.sum_append]
theorem cnt_take {w : List Nat} {p p' : Nat} (h : p ≤ p') : cnt c.us (w.take p) ≤ cnt c.us (w.take p') := by
  have e : w.take p' = w.take p ++ (w.drop p).take (p' - p) := by
    have h1 : p' = p + (p' - p) := by omega
    rw [h1, List.take_add]
    simp
  rw [e, cnt_app]
  have := cnt_nn ok ((w.drop p).take (p' - p))
  omega
theorem cut_at {v t : List Nat} {x q : Nat} (hc : c.most < cnt c.us (v ++ [x])) (hq : q ≤ v.length) (hb : q = 0 ∨ ∃ y, (v ++ x :: t)[q]? = some y ∧ y ∉ c.cl) (hn : ∀ j, q < j → j ≤ v.length → ∃ y, (v ++ x :: t)[j]? = some y ∧ y ∈ c.cl) (hk : cnt c.us ((v ++ x :: t).take q) ≤ c.most) :
    cutLen c (v ++ x :: t) = q := by
  have hl : (v ++ x :: t).length = v.length + (t.length + 1) := by simp
  refine lst_eq (by omega) ?_ fun j h1 h2 => ?_
  · unfold okP
    rw [Bool.and_eq_true, decide_eq_true_eq]
    refine ⟨?_, hk⟩
    unfold bord
    rcases hb with h | ⟨y, e, hy⟩
    · simp [h]
    · rw [e]; simp [hy]
  · unfold okP
    by_cases hj : j ≤ v.length
    · obtain ⟨y, e, hy⟩ := hn j h1 hj
      have : bord c (v ++ x :: t) j = false := by
        unfold bord
        rw [e]
        have a1 : ¬ j = 0 := by omega
        have a2 : ¬ j = (v ++ x :: t).length := by omega
        simp only [a1, a2, decide_false, Bool.false_or]
        simpa using hy
      rw [this]; rfl
    · have h3 := cnt_take ok (w := v ++ x :: t) (p := v.length + 1) (p' := j) (by omega)
      have e : (v ++ x :: t).take (v.length + 1) = v ++ [x] := by
        rw [List.take_append]
        simp
        exact List.take_of_length_le (by omega)
      rw [e] at h3
      have : ¬ cnt c.us ((v ++ x :: t).take j) ≤ c.most := by omega
      rw [decide_eq_false this, Bool.and_false]
end
/-- what stands of the part that is begun: v was read, q is the last border -/
structure Inv (c : Ct) (v : List Nat) (r : Rest) (q : Nat) : Prop where
  lt : q < v.length
  b : r.1 = cnt c.us (v.take q)
  g : r.2.2 = cnt c.us (v.drop q)
  h : r.2.1 = decide (0 < q)
  at_ : q = 0 ∨ ∃ y, v[q]? = some y ∧ y ∉ c.cl
  no : ∀ j, q < j → j < v.length → ∃ y, v[j]? = some y ∧ y ∈ c.cl
  le : r.1 + r.2.2 ≤ c.most
section
variable {c : Ct} (ok : c.Ok)
include ok
/-- one letter more, ahead of the look whether it is too much -/
theorem inv_mv {v : List Nat} {r : Rest} {q : Nat} (I : Inv c v r q) (x : Nat) : ∃ q', q' ≤ v.length ∧ (mv c r x).1 = cnt c.us (v.take q') ∧ gp c r x = cnt c.us (v.drop q' ++ [x]) ∧ (mv c r x).2.1 = decide (0 < q') ∧ (q' = 0 ∨ ∃ y, (v ++ [x])[q']? = some y ∧ y ∉ c.cl) ∧
    (∀ j, q' < j → j ≤ v.length → ∃ y, (v ++ [x])[j]? = some y ∧ y ∈ c.cl) ∧ (mv c r x).1 ≤ c.most := by
  have hlt := I.lt
  have hg : 0 ≤ r.2.2 := by rw [I.g]; exact cnt_nn ok _
  have hsum : r.1 + r.2.2 = cnt c.us v := by
    rw [I.b, I.g, ← cnt_app, List.take_append_drop]
  have h1 : cnt c.us [x] = uu c.us x := by simp [cnt]
  by_cases hx : x ∉ c.cl
  · have e : mv c r x = (r.1 + r.2.2, true, 0) := by unfold mv; rw [if_pos ⟨hx, hg⟩]
    refine ⟨v.length, Nat.le_refl _, ?_, ?_, ?_, .inr ⟨x, by simp, hx⟩, fun j h1 h2 => by omega, ?_⟩
    · rw [e]; simp [hsum]
    · unfold gp; rw [e]; simp [h1]
    · rw [e]; simp; omega
    · rw [e]; exact I.le
  · have hx' : x ∈ c.cl := by simpa using hx
    have e : mv c r x = r := by unfold mv; rw [if_neg fun z => z.1 hx']
    have hbn : 0 ≤ r.1 := by rw [I.b]; exact cnt_nn ok _
    refine ⟨q, by omega, ?_, ?_, ?_, ?_, fun j h1 h2 => ?_, ?_⟩
    · rw [e]; exact I.b
    · unfold gp; rw [e, if_neg (by omega), I.g, cnt_app, h1]
    · rw [e]; exact I.h
    · rcases I.at_ with z | ⟨y, e1, e2⟩
      · exact .inl z
      · exact .inr ⟨y, by rw [List.getElem?_append_left hlt]; exact e1, e2⟩
    · by_cases hj : j < v.length
      · rw [List.getElem?_append_left hj]; exact I.no j h1 hj
      · have : j = v.length := by omega
        subst this
        exact ⟨x, by simp, hx'⟩
    · rw [e]; have := I.le; omega
theorem mach : ∀ (t v : List Nat) (r : Rest) (q n : Nat), Inv c v r q → v.length + t.length ≤ n → (rr c (some r) t = none ↔ pc c n (v ++ t) = true)
  | [], v, r, q, n, I, hn => by
    have hlt := I.lt
    have hp : pc c n v = false := by
      obtain ⟨m, rfl⟩ : ∃ m, n = m + 1 := ⟨n - 1, by simp at hn; omega⟩
      cases v with
      | nil => simp at hlt
      | cons y v =>
        have hcut : cutLen c (y :: v) = (y :: v).length := by
          unfold cutLen
          refine lst_eq (Nat.lt_succ_self _) ?_ fun j h1 h2 => by omega
          unfold okP
          rw [Bool.and_eq_true, decide_eq_true_eq, List.take_length]
          refine ⟨by simp [bord], ?_⟩
          have h1 := I.le
          have h2 : r.1 + r.2.2 = cnt c.us (y :: v) := by rw [I.b, I.g, ← cnt_app, List.take_append_drop]
          omega
        rw [pc, hcut, if_neg (by simp), List.drop_length]
        exact pc_nil c m
    rw [List.append_nil, hp]
    simp [rr]
  | x :: t, v, r, q, n, I, hn => by
    obtain ⟨q', hq', e1, e2, e3, e4, e5, e6⟩ := inv_mv ok I x
    obtain ⟨m, rfl⟩ : ∃ m, n = m + 1 := ⟨n - 1, by simp at hn; omega⟩
    have hn' : v.length + (t.length + 1) ≤ m + 1 := by simpa using hn
    have ew : v ++ x :: t = (v ++ [x]) ++ t := by simp
    have hsum : (mv c r x).1 + gp c r x = cnt c.us (v ++ [x]) := by
      rw [e1, e2, ← cnt_app, ← List.append_assoc, List.take_append_drop]
    show rr c (nxt c r x) t = none ↔ _
    by_cases hle : (mv c r x).1 + gp c r x ≤ c.most
    · have en : nxt c r x = some ((mv c r x).1, (mv c r x).2.1, gp c r x) := by unfold nxt; rw [if_pos hle]
      rw [en, ew]
      refine mach t (v ++ [x]) _ q' (m + 1) ⟨by simp; omega, ?_, ?_, e3, e4, fun j h1 h2 => e5 j h1 (by simp at h2; omega), hle⟩ (by simp; omega)
      · show (mv c r x).1 = _
        rw [e1, List.take_append_of_le_length hq']
      · show gp c r x = _
        rw [e2, List.drop_append_of_le_length hq']
    · have hcut : cutLen c (v ++ x :: t) = q' := by
        refine cut_at ok (by omega) hq' ?_ (fun j h1 h2 => ?_) ?_
        · rcases e4 with z | ⟨y, z1, z2⟩
          · exact .inl z
          · refine .inr ⟨y, ?_, z2⟩
            rw [ew, List.getElem?_append_left (by simp; omega)]; exact z1
        · obtain ⟨y, z1, z2⟩ := e5 j h1 h2
          exact ⟨y, by rw [ew, List.getElem?_append_left (by simp; omega)]; exact z1, z2⟩
        · rw [List.take_append_of_le_length hq', ← e1]; exact e6
      obtain ⟨z, zs, hz⟩ : ∃ z zs, v ++ x :: t = z :: zs := by
        cases v with
        | nil => exact ⟨x, t, rfl⟩
        | cons a v => exact ⟨a, v ++ x :: t, rfl⟩
      have hpc : pc c (m + 1) (v ++ x :: t) = if q' = 0 then true else pc c m ((v ++ x :: t).drop q') := by
        rw [hz] at hcut ⊢
        rw [pc, hcut]
      rw [hpc]
      by_cases h0 : q' = 0
      · rw [if_pos h0]
        have : (mv c r x).2.1 = false := by rw [e3, h0]; rfl
        have en : nxt c r x = none := by unfold nxt; rw [if_neg hle, if_pos (.inl this)]
        rw [en, rr_none]
        simp
      · rw [if_neg h0]
        have hh : (mv c r x).2.1 = true := by rw [e3]; exact decide_eq_true (by omega)
        have ed : (v ++ x :: t).drop q' = v.drop q' ++ x :: t := List.drop_append_of_le_length hq'
        have hno : ∀ j, 0 < j → j ≤ (v.drop q').length → ∃ y, (v.drop q' ++ x :: t)[j]? = some y ∧ y ∈ c.cl := fun j h1 h2 => by
          rw [List.length_drop] at h2
          obtain ⟨y, z1, z2⟩ := e5 (q' + j) (by omega) (by omega)
          refine ⟨y, ?_, z2⟩
          rw [← ed, List.getElem?_drop, ew, List.getElem?_append_left (by simp; omega)]
          exact z1
        rw [ed]
        by_cases hg : c.most < gp c r x
        · have en : nxt c r x = none := by unfold nxt; rw [if_neg hle, if_pos (.inr hg)]
          rw [en, rr_none]
          have hc0 : cutLen c (v.drop q' ++ x :: t) = 0 := cut_at ok (by omega) (Nat.zero_le _) (.inl rfl) hno (by have := ok.m0; simp [cnt]; exact this)
          obtain ⟨z, zs, hz⟩ : ∃ z zs, v.drop q' ++ x :: t = z :: zs := by
            cases v.drop q' with
            | nil => exact ⟨x, t, rfl⟩
            | cons a v => exact ⟨a, v ++ x :: t, rfl⟩
          obtain ⟨m', rfl⟩ : ∃ m', m = m' + 1 := ⟨m - 1, by have := I.lt; omega⟩
          rw [hz] at hc0 ⊢
          rw [pc, if_pos hc0]
          simp
        · have en : nxt c r x = some (0, false, gp c r x) := by unfold nxt; rw [if_neg hle, if_neg (fun z => z.elim (fun z => by rw [hh] at z; cases z) hg)]
          rw [en]
          have ew' : v.drop q' ++ x :: t = (v.drop q' ++ [x]) ++ t := by simp
          rw [ew']
          refine mach t (v.drop q' ++ [x]) (0, false, gp c r x) 0 m ⟨by simp, by simp [cnt], by simpa using e2, rfl, .inl rfl, fun j h1 h2 => ?_, by show (0 : Int) + gp c r x ≤ _; omega⟩ (by simp; omega)
          obtain ⟨y, z1, z2⟩ := hno j h1 (by simp at h2; simp; omega)
          refine ⟨y, ?_, z2⟩
          rw [ew', List.getElem?_append_left h2] at z1
          exact z1
theorem mach0 (u : List Nat) (n : Nat) (hn : u.length ≤ n) : rr c (some (0, false, -1)) u = none ↔ pc c n u = true := by
  cases u with
  | nil => rw [pc_nil]; simp [rr]
  | cons x t =>
    obtain ⟨m, rfl⟩ : ∃ m, n = m + 1 := ⟨n - 1, by simp at hn; omega⟩
    have e : mv c (0, false, -1) x = (0, false, -1) := by unfold mv; rw [if_neg (fun z => absurd z.2 (by decide))]
    have eg : gp c (0, false, -1) x = uu c.us x := by unfold gp; rw [e]; simp
    have h1 : cnt c.us [x] = uu c.us x := by simp [cnt]
    show rr c (nxt c (0, false, -1) x) t = none ↔ _
    by_cases hle : uu c.us x ≤ c.most
    · have en : nxt c (0, false, -1) x = some (0, false, uu c.us x) := by unfold nxt; rw [e, eg, if_pos (by simpa using hle)]
      rw [en]
      exact mach ok t [x] (0, false, uu c.us x) 0 (m + 1) ⟨by simp, by simp [cnt], by simp [h1], rfl, .inl rfl, fun j h1 h2 => by simp at h2; omega, by show (0 : Int) + uu c.us x ≤ _; omega⟩ (by simp at hn ⊢; omega)
    · have en : nxt c (0, false, -1) x = none := by unfold nxt; rw [e, eg, if_neg (by simpa using hle), if_pos (.inl rfl)]
      rw [en, rr_none]
      have hc0 : cutLen c ([] ++ x :: t) = 0 := cut_at ok (by show c.most < cnt c.us [x]; omega) (Nat.zero_le _) (.inl rfl) (fun j h1 h2 => by simp at h2; omega) (by have := ok.m0; simp [cnt]; exact this)
      have hc0' : cutLen c (x :: t) = 0 := hc0
      rw [pc, if_pos hc0']
      simp
end
end Pm

set_option Elab.async false
set_option linter.all false
set_option maxRecDepth 100000
set_option maxHeartbeats 4000000
namespace Lw
open PySem PySem.Spec PyProof.Rows L2 MD
/-! ### the text -/
def topS (i : Nat) : Stmt := PySem.Challenge.pw_unitlimits_k40_words_that_cannot_be_part.main.body.getD i (.Pass ⟨0, 0, 0, 0⟩)
abbrev s__law_deck : Stmt := topS 8
theorem sc__law_deck : FnScope ["_law_script", "_law_cell"] ["_law_script"] (defScope s__law_deck) := ⟨rfl, rfl, rfl, by decide +kernel, rfl, by decide +kernel, by decide +kernel⟩
abbrev s__law_draw : Stmt := topS 9
theorem sc__law_draw : FnScope ["_law_deck_here", "_law_most", "_law_cell", "_law_at", "_law_mixed"] ["_law_deck_here", "_law_most"] (defScope s__law_draw) := ⟨rfl, rfl, rfl, by decide +kernel, rfl, by decide +kernel, by decide +kernel⟩
abbrev s__law_one : Stmt := topS 10
theorem sc__law_one : FnScope ["_law_deck_here", "_law_items"] ["_law_deck_here", "_law_items"] (defScope s__law_one) := ⟨rfl, rfl, rfl, by decide +kernel, rfl, by decide +kernel, by decide +kernel⟩
abbrev s__law_long : Stmt := topS 18
theorem sc__law_long : FnScope ["_law_deck_here", "_law_letters", "_law_size", "_law_rows", "_law_k", "_law_row"] ["_law_deck_here", "_law_letters"] (defScope s__law_long) := ⟨rfl, rfl, rfl, by decide +kernel, rfl, by decide +kernel, by decide +kernel⟩
abbrev s__law_kind : Stmt := topS 11
theorem sc__law_kind : FnScope ["_law_deck_here", "_law_most", "_law_states", "_law_letters", "_law_size", "_law_rows", "_law_ends", "_law_k", "_law_some", "_law_letter"] ["_law_deck_here", "_law_most", "_law_states"] (defScope s__law_kind) := ⟨rfl, rfl, rfl, by decide +kernel, rfl, by decide +kernel, by decide +kernel⟩
abbrev s__law_some_kind : Stmt := topS 19
theorem sc__law_some_kind : FnScope ["_law_deck_here", "_law_most"] ["_law_deck_here", "_law_most"] (defScope s__law_some_kind) := ⟨rfl, rfl, rfl, by decide +kernel, rfl, by decide +kernel, by decide +kernel⟩
abbrev s__law_unit : Stmt := topS 17
theorem sc__law_unit : FnScope ["_law_deck_here", "_law_letters", "_law_least", "_law_k"] ["_law_deck_here", "_law_letters", "_law_least"] (defScope s__law_unit) := ⟨rfl, rfl, rfl, by decide +kernel, rfl, by decide +kernel, by decide +kernel⟩
abbrev s__law_units : Stmt := topS 22
theorem sc__law_units : FnScope ["_law_deck_here", "_law_letters", "_law_k"] ["_law_deck_here", "_law_letters"] (defScope s__law_units) := ⟨rfl, rfl, rfl, by decide +kernel, rfl, by decide +kernel, by decide +kernel⟩
abbrev s__law_cut : Stmt := topS 20
theorem sc__law_cut : FnScope ["_law_deck_here", "_law_letters", "_law_units_here", "_law_most", "_law_clings", "_law_letter"] ["_law_deck_here", "_law_letters", "_law_units_here", "_law_most"] (defScope s__law_cut) := ⟨rfl, rfl, rfl, by decide +kernel, rfl, by decide +kernel, by decide +kernel⟩
abbrev s_moves_of : Stmt := topS 2
theorem sc_moves_of : FnScope ["kind", "state", "row", "at"] ["kind", "state"] (defScope s_moves_of) := ⟨rfl, rfl, rfl, by decide +kernel, rfl, by decide +kernel, by decide +kernel⟩
abbrev s_next_rest : Stmt := topS 5
theorem sc_next_rest : FnScope ["rest", "cut", "letter", "count", "before", "has_border", "group"] ["rest", "cut", "letter", "count"] (defScope s_next_rest) := ⟨rfl, rfl, rfl, by decide +kernel, rfl, by decide +kernel, by decide +kernel⟩
abbrev s_stuck : Stmt := topS 6
theorem sc_stuck : FnScope ["kind", "units", "cut", "start", "unit", "seen", "layer", "further", "state", "rest", "word", "letter", "at", "behind", "later"] ["kind", "units", "cut"] (defScope s_stuck) := ⟨rfl, rfl, rfl, by decide +kernel, rfl, by decide +kernel, by decide +kernel⟩
abbrev s__law_words : Stmt := topS 13
theorem sc__law_words : FnScope ["_law_letters", "_law_size", "_law_found", "_law_k", "_law_further", "_law_word", "_law_letter"] ["_law_letters", "_law_size"] (defScope s__law_words) := ⟨rfl, rfl, rfl, by decide +kernel, rfl, by decide +kernel, by decide +kernel⟩
abbrev s__law_is_of : Stmt := topS 12
theorem sc__law_is_of : FnScope ["_law_kind_here", "_law_word", "_law_state", "_law_letter"] ["_law_kind_here", "_law_word"] (defScope s__law_is_of) := ⟨rfl, rfl, rfl, by decide +kernel, rfl, by decide +kernel, by decide +kernel⟩
abbrev s__law_all : Stmt := topS 14
theorem sc__law_all : FnScope ["_law_kind_here", "_law_most", "_law_found", "_law_size", "_law_word"] ["_law_kind_here", "_law_most"] (defScope s__law_all) := ⟨rfl, rfl, rfl, by decide +kernel, rfl, by decide +kernel, by decide +kernel⟩
abbrev s__law_far : Stmt := topS 15
theorem sc__law_far : FnScope ["_law_deck_here", "_law_kind_here", "_law_wide", "_law_found", "_law_turn", "_law_word", "_law_state", "_law_more", "_law_some", "_law_at", "_law_k"] ["_law_deck_here", "_law_kind_here", "_law_wide"] (defScope s__law_far) := ⟨rfl, rfl, rfl, by decide +kernel, rfl, by decide +kernel, by decide +kernel⟩
abbrev s__law_count : Stmt := topS 16
theorem sc__law_count : FnScope ["_law_unit_here", "_law_word", "_law_letter"] ["_law_unit_here", "_law_word"] (defScope s__law_count) := ⟨rfl, rfl, rfl, by decide +kernel, rfl, by decide +kernel, by decide +kernel⟩
abbrev s__law_one_cut : Stmt := topS 23
theorem sc__law_one_cut : FnScope ["_law_units_here", "_law_cut_here", "_law_word", "_law_found", "_law_place", "_law_is_border"] ["_law_units_here", "_law_cut_here", "_law_word"] (defScope s__law_one_cut) := ⟨rfl, rfl, rfl, by decide +kernel, rfl, by decide +kernel, by decide +kernel⟩
abbrev s__law_pieces : Stmt := topS 25
theorem sc__law_pieces : FnScope ["_law_units_here", "_law_cut_here", "_law_word", "_law_found", "_law_turn", "_law_piece"] ["_law_units_here", "_law_cut_here", "_law_word"] (defScope s__law_pieces) := ⟨rfl, rfl, rfl, by decide +kernel, rfl, by decide +kernel, by decide +kernel⟩
abbrev s_law : Stmt := topS 26
theorem sc_law : FnScope ["_law_script", "_law_deck_here", "_law_turn", "_law_kind_here", "_law_units_here", "_law_cut_here", "_law_told", "_law_word"] ["_law_script"] (defScope s_law) := ⟨rfl, rfl, rfl, by decide +kernel, rfl, by decide +kernel, by decide +kernel⟩
structure Txt (K : Fg) (mg : Str → Option Value) : Prop where
  n_len : mg "len" = none
  n_range : mg "range" = none
  n_tuple : mg "tuple" = none
  n_int : mg "int" = none
  c_LETTERS : ∃ t, mg "LETTERS" = some (.str "abcd" t)
  n_max : mg "max" = none
  c_FRESH : GTup K mg "FRESH" [.int 0, .bl false, .int (-1)]
  n_sum : mg "sum" = none
  n_abs : mg "abs" = none
/-! ### mirrors -/
def dc : DC := ⟨2147483399, 5501, 9, 2147483549⟩
def m__law_draw : MF := drawM dc
noncomputable def b__law_one : MS :=
 (retM (opM subD (rd 1) (callM m__law_draw (aCons (rd 0) (aCons (cbM lenA (aCons (rd 1) aNil)) aNil)))))
noncomputable def m__law_one : MF := runM 2 b__law_one
noncomputable def b__law_long : MS :=
 (seqM (asgM (nameT 2) (opM addM (cst (.int 4)) (callM m__law_draw (aCons (rd 0) (aCons (cst (.int 5)) aNil)))))
 (seqM (ownM 3 (lstM aNil))
 (seqM (forM (r1M (aCons (rd 2) aNil)) (nameT 4)
 (seqM (ownM 5 (opF lstMul (frz (lstM (aCons (cst .non) aNil))) (rd 1)))
 (seqM (lsetM 5 (callM m__law_draw (aCons (rd 0) (aCons (rd 1) aNil))) (ifM (tstM (opM ltA (opM addM (rd 4) (cst (.int 1))) (rd 2))) (opM addM (rd 4) (cst (.int 1))) (callM m__law_one (aCons (rd 0) (aCons (frz (lstM (aCons (cst .non) (aCons (cst (.int 0)) (aCons (opM subM (rd 2) (cst (.int 2))) aNil))))) aNil)))))
 (seqM (ifS (tstM (opM eqM (callM m__law_draw (aCons (rd 0) (aCons (cst (.int 4)) aNil))) (cst (.int 0))))
 (lsetM 5 (callM m__law_draw (aCons (rd 0) (aCons (rd 1) aNil))) (callM m__law_draw (aCons (rd 0) (aCons (rd 2) aNil))))
 nxM)
 (appM 3 (cbM tupleM (aCons (rdW 5) aNil)))))))
 (retM (tupM (aCons (rd 1) (aCons (cbM tupleM (aCons (rdW 3) aNil)) (aCons (opM addM (cbM tupleM (aCons (frz (compM (r1M (aCons (opM subM (rd 2) (cst (.int 1))) aNil)) (nameT 4) yesM (opM eqM (callM m__law_draw (aCons (rd 0) (aCons (cst (.int 3)) aNil))) (cst (.int 0))) [4])) aNil)) (tupM (aCons (cst (.bl true)) aNil))) aNil))))))))
noncomputable def m__law_long : MF := runM 6 b__law_long
noncomputable def b__law_kind : MS :=
 (seqM (parM 3 4 (aCons (opM addM (cst (.int 1)) (callM m__law_draw (aCons (rd 0) (aCons (rd 1) aNil)))) (aCons (opM addM (cst (.int 1)) (callM m__law_draw (aCons (rd 0) (aCons (rd 2) aNil)))) aNil)))
 (seqM (ifS (tstM (opM eqM (callM m__law_draw (aCons (rd 0) (aCons (cst (.int 3)) aNil))) (cst (.int 0))))
 (retM (tupM (aCons (rd 3) (aCons (tupM (aCons (opM mulA (tupM (aCons (cst (.int 0)) aNil)) (rd 3)) aNil)) (aCons (tupM (aCons (cst (.bl true)) aNil)) aNil)))))
 nxM)
 (seqM (par2 5 6 (xL (lstM aNil)) (xL (lstM aNil)))
 (seqM (forM (r1M (aCons (rd 4) aNil)) (nameT 7)
 (seqM (asgM (nameT 8) (frz (lstM (aCons (cst .non) (aCons (cst (.int 0)) (aCons (opM modM (cbM int1M (aCons (opM addM (rd 7) (cst (.int 1))) aNil)) (rd 4)) (aCons (callM m__law_draw (aCons (rd 0) (aCons (rd 4) aNil))) (aCons (callM m__law_draw (aCons (rd 0) (aCons (rd 4) aNil))) (aCons (callM m__law_draw (aCons (rd 0) (aCons (rd 4) aNil))) aNil)))))))))
 (seqM (appM 5 (cbM tupleM (aCons (frz (compM (r1M (aCons (rd 3) aNil)) (nameT 9) yesM (callM m__law_one (aCons (rd 0) (aCons (slM slAny (rd 8) (prt (callM m__law_draw (aCons (rd 0) (aCons (cst (.int 2)) aNil)))) noP) aNil))) [9])) aNil)))
 (appM 6 (opM gtM (callM m__law_draw (aCons (rd 0) (aCons (cst (.int 4)) aNil))) (cst (.int 0)))))))
 (retM (tupM (aCons (rd 3) (aCons (cbM tupleM (aCons (rdW 5) aNil)) (aCons (cbM tupleM (aCons (rdW 6) aNil)) aNil)))))))))
noncomputable def m__law_kind : MF := runM 10 b__law_kind
noncomputable def b__law_some_kind : MS :=
 (seqM (ifS (tstM (opM gtM (callM m__law_draw (aCons (rd 0) (aCons (cst (.int 3)) aNil))) (cst (.int 0))))
 (retM (callM m__law_kind (aCons (rd 0) (aCons (rd 1) (aCons (cst (.int 3)) aNil)))))
 nxM)
 (retM (callM m__law_long (aCons (rd 0) (aCons (opM addM (cst (.int 1)) (callM m__law_draw (aCons (rd 0) (aCons (rd 1) aNil)))) aNil)))))
noncomputable def m__law_some_kind : MF := runM 2 b__law_some_kind
noncomputable def b__law_unit : MS :=
 (retM (cbM tupleM (aCons (frz (compM (r1M (aCons (rd 1) aNil)) (nameT 3) yesM (callM m__law_one (aCons (rd 0) (aCons (frz (lstM (aCons (rd 2) (aCons (cst (.int 1)) (aCons (cst (.int 1)) (aCons (cst (.int 2)) (aCons (cst (.int 3)) (aCons (opM addM (callM m__law_draw (aCons (rd 0) (aCons (cst (.int 9)) aNil))) (cst (.int 1))) aNil)))))))) aNil))) [3])) aNil)))
noncomputable def m__law_unit : MF := runM 4 b__law_unit
noncomputable def b__law_units : MS :=
 (retM (cbM tupleM (aCons (frz (compM (r1M (aCons (opM addM (cst (.int 1)) (callM m__law_draw (aCons (rd 0) (aCons (cst (.int 2)) aNil)))) aNil)) (nameT 2) yesM (callM m__law_unit (aCons (rd 0) (aCons (rd 1) (aCons (cst (.int 0)) aNil)))) [2])) aNil)))
noncomputable def m__law_units : MF := runM 3 b__law_units
noncomputable def b__law_cut : MS :=
 (seqM (asgM (nameT 4) (m1M joinM (cst (.str "")) (frz (compM (seqI (slM slAny (cst (.str "abcd")) noP (prt (rd 1)))) (nameT 5) (tstM (opM eqM (callM m__law_draw (aCons (rd 0) (aCons (cst (.int 4)) aNil))) (cst (.int 0)))) (rd 5) [5]))))
 (retM (tupM (aCons (callM m__law_draw (aCons (rd 0) (aCons (cbM lenA (aCons (rd 2) aNil)) aNil))) (aCons (callM m__law_draw (aCons (rd 0) (aCons (opM addM (rd 3) (cst (.int 1))) aNil))) (aCons (rd 4) aNil))))))
noncomputable def m__law_cut : MF := runM 6 b__law_cut
noncomputable def b_moves_of : MS :=
 (seqM (asgM (nameT 2) (opM subD (opM subD (rd 0) (cst (.int 1))) (rd 1)))
 (retM (frz (compM (r1M (aCons (opM subD (rd 0) (cst (.int 0))) aNil)) (nameT 3) (tstM (opM isNotM (opM subD (rd 2) (rd 3)) (cst .non))) (tupM (aCons (opM subD (cst (.str "abcd")) (rd 3)) (aCons (rd 3) (aCons (opM subD (rd 2) (rd 3)) aNil)))) [3]))))
noncomputable def m_moves_of : MF := runM 4 b_moves_of
noncomputable def b_next_rest : MS :=
 (seqM (asgM (tupT 3 (consT (nameT 4) (consT (nameT 5) (consT (nameT 6) nilT)))) (rd 0))
 (seqM (ifS (andM (tstM (opM (cntD true) (rd 2) (opM subD (rd 1) (cst (.int 2))))) (tstM (opM geM (rd 6) (cst (.int 0)))))
 (par3M 4 5 6 (aCons (opM addM (rd 4) (rd 6)) (aCons (cst (.bl true)) (aCons (cst (.int 0)) aNil))))
 nxM)
 (seqM (asgM (nameT 6) (opM addM (cbM max2M (aCons (rd 6) (aCons (cst (.int 0)) aNil))) (rd 3)))
 (seqM (ifS (tstM (opM leM (opM addM (rd 4) (rd 6)) (opM subD (rd 1) (cst (.int 1)))))
 (retM (tupM (aCons (tupM (aCons (rd 4) (aCons (rd 5) (aCons (rd 6) aNil)))) (aCons (cst (.bl false)) aNil))))
 nxM)
 (seqM (ifS (orM (notM (truM (rd 5))) (tstM (opM gtM (rd 6) (opM subD (rd 1) (cst (.int 1))))))
 (retM (tupM (aCons (cst .non) (aCons (cst (.bl false)) aNil))))
 nxM)
 (retM (tupM (aCons (tupM (aCons (cst (.int 0)) (aCons (cst (.bl false)) (aCons (rd 6) aNil)))) (aCons (cst (.bl true)) aNil)))))))))
noncomputable def m_next_rest : MF := runM 7 b_next_rest
noncomputable def b_stuck : MS :=
 (seqM (parM 3 4 (aCons (tupM (aCons (cst (.int 0)) (aCons (cst (.tup [.int 0, .bl false, .int (-1)])) aNil))) (aCons (opM subD (rd 1) (opM subD (rd 2) (cst (.int 0)))) aNil)))
 (seqM (par2 5 6 (xV (stoN (rd 3) (cst (.bl true)))) (xV (frz (lstM (aCons (tupM (aCons (rd 3) (aCons (cst (.str "")) aNil))) aNil)))))
 (seqM (whM (tstM (opM neM (rd 6) (frz (lstM aNil))))
 (seqM (ownM 7 (lstM aNil))
 (seqM (forM (seqI (rd 6)) (tupT 2 (consT (tupT 2 (consT (nameT 8) (consT (nameT 9) nilT))) (consT (nameT 10) nilT)))
 (seqM (ifS (andM (tstM (opM isM (rd 9) (cst .non))) (truM (opM subD (opM subD (rd 0) (cst (.int 2))) (rd 8))))
 (retM (rd 10))
 nxM)
 (forM (seqI (callM m_moves_of (aCons (rd 0) (aCons (rd 8) aNil)))) (tupT 3 (consT (nameT 11) (consT (nameT 12) (consT (nameT 13) nilT))))
 (seqM (asgM (nameT 14) (ifM (tstM (opM isM (rd 9) (cst .non))) (cst .non) (opM subD (callM m_next_rest (aCons (rd 9) (aCons (rd 2) (aCons (rd 11) (aCons (opM subD (rd 4) (rd 12)) aNil))))) (cst (.int 0)))))
 (ifS (tstM (ninM true (tupM (aCons (rd 13) (aCons (rd 14) aNil))) (rd 5)))
 (seqM (nputM (rd 5) (tupM (aCons (rd 13) (aCons (rd 14) aNil))) (cst (.bl true)))
 (appM 7 (tupM (aCons (tupM (aCons (rd 13) (aCons (rd 14) aNil))) (aCons (opM addM (rd 10) (rd 11)) aNil)))))
 nxM)))))
 (frzM 7 (asgM (nameT 6) (rd 7))))))
 (retM (cst .non)))))
noncomputable def m_stuck : MF := runM 15 b_stuck
noncomputable def b__law_words : MS :=
 (seqM (asgM (nameT 2) (frz (lstM (aCons (cst (.str "")) aNil))))
 (seqM (forM (r1M (aCons (rd 1) aNil)) (nameT 3)
 (seqM (ownM 4 (lstM aNil))
 (seqM (forM (seqI (rd 2)) (nameT 5)
 (extM 4 (frz (compM (seqI (slM slAny (cst (.str "abcd")) noP (prt (rd 0)))) (nameT 6) yesM (opM addM (rd 5) (rd 6)) [6]))))
 (frzM 4 (asgM (nameT 2) (rd 4))))))
 (retM (rd 2))))
noncomputable def m__law_words : MF := runM 7 b__law_words
noncomputable def b__law_is_of : MS :=
 (seqM (asgM (nameT 2) (cst (.int 0)))
 (seqM (forM (seqI (rd 1)) (nameT 3)
 (asgM (nameT 2) (ifM (tstM (opM isNotM (rd 2) (cst .non))) (opM subD (opM subD (opM subD (rd 0) (cst (.int 1))) (rd 2)) (m1M sindexM (cst (.str "abcd")) (rd 3))) (cst .non))))
 (retM (andV (opM isNotM (rd 2) (cst .non)) (opM subD (opM subD (rd 0) (cst (.int 2))) (rd 2))))))
noncomputable def m__law_is_of : MF := runM 4 b__law_is_of
noncomputable def b__law_all : MS :=
 (seqM (ownM 2 (lstM aNil))
 (seqM (forM (r1M (aCons (opM addM (rd 1) (cst (.int 1))) aNil)) (nameT 3)
 (extM 2 (frz (compM (seqI (callM m__law_words (aCons (opM subD (rd 0) (cst (.int 0))) (aCons (rd 3) aNil)))) (nameT 4) (truM (callM m__law_is_of (aCons (rd 0) (aCons (rd 4) aNil)))) (rd 4) [4]))))
 (frzM 2 (retM (rd 2)))))
noncomputable def m__law_all : MF := runM 5 b__law_all
noncomputable def b__law_far : MS :=
 (seqM (ownM 3 (lstM aNil))
 (seqM (forM (r1M (aCons (rd 2) aNil)) (nameT 4)
 (seqM (asgM (tupT 2 (consT (nameT 5) (consT (nameT 6) nilT))) (tupM (aCons (cst (.str "")) (aCons (cst (.int 0)) aNil))))
 (seqM (forM (r1M (aCons (callM m__law_draw (aCons (rd 0) (aCons (cst (.int 40)) aNil))) aNil)) (nameT 7)
 (seqM (asgM (nameT 8) (frz (compM (r1M (aCons (opM subD (rd 1) (cst (.int 0))) aNil)) (nameT 10) (tstM (opM isNotM (opM subD (opM subD (opM subD (rd 1) (cst (.int 1))) (rd 6)) (rd 10)) (cst .non))) (rd 10) [10])))
 (ifS (tstM (opM neM (rd 8) (frz (lstM aNil))))
 (seqM (asgM (nameT 9) (callM m__law_one (aCons (rd 0) (aCons (rd 8) aNil))))
 (asgM (tupT 2 (consT (nameT 5) (consT (nameT 6) nilT))) (tupM (aCons (opM addM (rd 5) (opM subD (cst (.str "abcd")) (rd 9))) (aCons (opM subD (opM subD (opM subD (rd 1) (cst (.int 1))) (rd 6)) (rd 9)) aNil)))))
 nxM)))
 (ifS (truM (opM subD (opM subD (rd 1) (cst (.int 2))) (rd 6)))
 (appM 3 (rd 5))
 nxM))))
 (frzM 3 (retM (rd 3)))))
noncomputable def m__law_far : MF := runM 11 b__law_far
noncomputable def b__law_count : MS :=
 (retM (cbM sumM (aCons (frz (compM (seqI (rd 1)) (nameT 2) yesM (opM subD (rd 0) (m1M sindexM (cst (.str "abcd")) (rd 2))) [2])) aNil)))
noncomputable def m__law_count : MF := runM 3 b__law_count
noncomputable def b__law_one_cut : MS :=
 (seqM (asgM (nameT 3) (cst (.str "")))
 (seqM (forM (r1M (aCons (opM addM (cbM lenA (aCons (rd 2) aNil)) (cst (.int 1))) aNil)) (nameT 4)
 (seqM (asgM (nameT 5) (orV (opM eqM (rd 4) (cst (.int 0))) (orV (opM eqM (rd 4) (cbM lenA (aCons (rd 2) aNil))) (opM (cntD true) (opM subD (rd 2) (rd 4)) (opM subD (rd 1) (cst (.int 2)))))))
 (ifS (andM (truM (rd 5)) (tstM (opM leM (callM m__law_count (aCons (opM subD (rd 0) (opM subD (rd 1) (cst (.int 0)))) (aCons (slM slAny (rd 2) noP (prt (rd 4))) aNil))) (opM subD (rd 1) (cst (.int 1))))))
 (asgM (nameT 3) (slM slAny (rd 2) noP (prt (rd 4))))
 nxM)))
 (retM (rd 3))))
noncomputable def m__law_one_cut : MF := runM 6 b__law_one_cut
noncomputable def b__law_pieces : MS :=
 (seqM (ownM 3 (lstM aNil))
 (seqM (forM (r1M (aCons (cbM lenA (aCons (rd 2) aNil)) aNil)) (nameT 4)
 (ifS (tstM (opM neM (rd 2) (cst (.str ""))))
 (seqM (asgM (nameT 5) (callM m__law_one_cut (aCons (rd 0) (aCons (rd 1) (aCons (rd 2) aNil)))))
 (seqM (ifS (tstM (opM eqM (rd 5) (cst (.str ""))))
 (retM (cst .non))
 nxM)
 (seqM (appM 3 (rd 5))
 (asgM (nameT 2) (slM slAny (rd 2) (prt (cbM lenA (aCons (rd 5) aNil))) noP)))))
 nxM))
 (frzM 3 (retM (rd 3)))))
noncomputable def m__law_pieces : MF := runM 6 b__law_pieces
noncomputable def b_law : MS :=
 (seqM (forM (r1M (aCons (cst (.int 10)) aNil)) (nameT 2)
 (seqM (asgM (nameT 3) (callM m__law_some_kind (aCons (rd 1) (aCons (cst (.int 4)) aNil))))
 (seqM (asgM (nameT 4) (callM m__law_units (aCons (rd 1) (aCons (opM subD (rd 3) (cst (.int 0))) aNil))))
 (seqM (asgM (nameT 5) (callM m__law_cut (aCons (rd 1) (aCons (opM subD (rd 3) (cst (.int 0))) (aCons (rd 4) (aCons (callM m__law_one (aCons (rd 1) (aCons (frz (lstM (aCons (cst (.int 4)) (aCons (cst (.int 9)) (aCons (cst (.int 20)) aNil))))) aNil))) aNil))))))
 (seqM (asgM (nameT 6) (callM m_stuck (aCons (rd 3) (aCons (rd 4) (aCons (rd 5) aNil)))))
 (seqM (ifS (andM (tstM (opM isNotM (rd 6) (cst .non))) (orM (notM (truM (callM m__law_is_of (aCons (rd 3) (aCons (rd 6) aNil))))) (tstM (opM isNotM (callM m__law_pieces (aCons (rd 4) (aCons (rd 5) (aCons (rd 6) aNil)))) (cst .non)))))
 (retM (cst (.bl false)))
 nxM)
 (forM (seqI (opM addM (callM m__law_all (aCons (rd 3) (aCons (opM subD (frz (lstM (aCons (cst (.int 0)) (aCons (cst (.int 14)) (aCons (cst (.int 8)) (aCons (cst (.int 6)) (aCons (cst (.int 4)) aNil))))))) (opM subD (rd 3) (cst (.int 0)))) aNil))) (callM m__law_far (aCons (rd 1) (aCons (rd 3) (aCons (cst (.int 20)) aNil)))))) (nameT 7)
 (ifS (andM (tstM (opM isM (callM m__law_pieces (aCons (rd 4) (aCons (rd 5) (aCons (rd 7) aNil)))) (cst .non))) (orM (tstM (opM isM (rd 6) (cst .non))) (tstM (opM ltA (tupM (aCons (cbM lenA (aCons (rd 7) aNil)) (aCons (rd 7) aNil))) (tupM (aCons (cbM lenA (aCons (rd 6) aNil)) (aCons (rd 6) aNil)))))))
 (retM (cst (.bl false)))
 nxM))))))))
 (retM (cst (.bl true))))
/-! ### the defs keep them -/
section
variable {P : Program} {w : World} {K : Fg} {mg : Str → Option Value} {base : Heap}
theorem ok__law_deck (T : Txt K mg) {f : Addr} {fd : FuncData} (Fn : Fun K "_law_deck" "_law_deck" s__law_deck f fd)  : FnG P w K mg base 1 f fd ["_law_script"] (spDeck K) :=
  fn_deck Fn sc__law_deck rfl rfl fun cdv A outer s H E => by
  refine (pss_one (ps_ret (pe_lst (pa_cons (pe_lc (own := [("_law_cell", 1)]) (g := gName 1) rfl sc__law_deck.nd (pi_list (pe_slice sl_list (pv 0) po_none (po_some pe_int))) (blkOk_by (own := [("_law_cell", 1)]) (N := ["_law_script", "_law_cell"]) (sc := defScope s__law_deck) (by decide +kernel)) (fun _ _ _ _ _ => pg_name (i := 1) sc__law_deck.nd rfl (Or.inl rfl)) (fun _ _ _ _ _ => pts_nil) (fun _ _ _ _ _ => pe_callB call_abs (by rfl) T.n_abs (by decide +kernel) (pa_cons (pv 1) pa_nil))) (pa_cons pe_int pa_nil)))))
theorem ok__law_draw (T : Txt K mg) {f : Addr} {fd : FuncData} (Fn : Fun K "_law_draw" "_law_draw" s__law_draw f fd)  : FnG P w K mg base 1 f fd ["_law_deck_here", "_law_most"] (spD K 2 m__law_draw) :=
  fn_draw (c := dc) (by unfold DC.ok dc; decide) Fn sc__law_draw rfl rfl fun cdv A outer s H E => by
  refine (pss_cons (ps_asg (pe_op op_add (pe_ix ix_seq (pv 0) pe_int (fun _ _ => rfl)) pe_int) (pg_sub (pv 0) pe_int set_list))
 (pss_cons (ps_asg (pe_tup (pa_cons pe_int (pa_cons (pe_un un_neg pe_int) pa_nil))) (pg_tup rfl (pgs_cons (pg_name (i := 2) sc__law_draw.nd rfl (Or.inl rfl)) (pgs_cons (pg_name (i := 3) sc__law_draw.nd rfl (Or.inl rfl)) pgs_nil))))
 (pss_cons (ps_if (pt_cmpR op_gt (pe_callB call_len (by rfl) T.n_len (by decide +kernel) (pa_cons (pe_ix ix_seq (pv 0) pe_int (fun _ _ => rfl)) pa_nil)) pe_int (nomark _))
   (pss_cons (ps_set (i := 3) sc__law_draw.nd rfl (Or.inl rfl) (pe_op op_mod (pe_callTy call_int1 (by rfl) T.n_int (by decide +kernel) (pa_cons (pe_ix ix_seq (pv 0) pe_int (fun _ _ => rfl)) pa_nil)) (pe_callB call_len (by rfl) T.n_len (by decide +kernel) (pa_cons (pe_ix ix_seq (pv 0) pe_int (fun _ _ => rfl)) pa_nil)))) (pss_one (ps_set (i := 2) sc__law_draw.nd rfl (Or.inl rfl) (pe_ix ix_seq (pe_ix ix_seq (pv 0) pe_int (fun _ _ => rfl)) (pv 3) (fun _ _ => rfl))))) pss_nil)
 (pss_cons (ps_if (pt_cmpR op_ge (pv 2) (pe_op op_pow pe_int pe_int) (nomark _))
   (pss_cons (ps_asg (pe_op op_fdiv (pe_callTy call_int1 (by rfl) T.n_int (by decide +kernel) (pa_cons (pv 2) pa_nil)) (pv 1)) (pg_sub (pe_ix ix_seq (pv 0) pe_int (fun _ _ => rfl)) (pv 3) set_list)) (pss_one (ps_ret (pe_op op_mod (pe_callTy call_int1 (by rfl) T.n_int (by decide +kernel) (pa_cons (pv 2) pa_nil)) (pv 1))))) pss_nil)
 (pss_cons (ps_set (i := 4) sc__law_draw.nd rfl (Or.inl rfl) (pe_op op_add (pe_op op_add (pe_op op_mod (pe_callTy call_int1 (by rfl) T.n_int (by decide +kernel) (pa_cons (pv 2) pa_nil)) pe_int) (pe_op op_mul pe_int (pe_ix ix_seq (pv 0) pe_int (fun _ _ => rfl)))) pe_int))
 (pss_one (ps_ret (pe_op op_mod (pe_callTy call_int1 (by rfl) T.n_int (by decide +kernel) (pa_cons (pe_op op_mod (pe_callTy call_int1 (by rfl) T.n_int (by decide +kernel) (pa_cons (pe_op op_pow (pv 4) pe_int) pa_nil)) pe_int) pa_nil)) (pv 1)))))))))
theorem ok__law_one (T : Txt K mg) {f : Addr} {fd : FuncData} (Fn : Fun K "_law_one" "_law_one" s__law_one f fd) (c__law_draw : Cal P w K mg base 1 "_law_draw" ["_law_deck_here", "_law_most"] (spD K 2 m__law_draw)) : FnG P w K mg base 2 f fd ["_law_deck_here", "_law_items"] (spD K 2 m__law_one) :=
  fnD Fn sc__law_one (by decide) fun cdv A outer s H E hr gd => ⟨_, (pss_one (ps_ret (pe_sub (units1 hr.units) (pv 1) (pe_callC c__law_draw hr gd (by rfl) (pa_cons (pv 0) (pa_cons (pe_callB call_lenA (by rfl) T.n_len (by decide +kernel) (pa_cons (pv 1) pa_nil)) pa_nil)))))),
 (is_ret (im_sub ((im_var 1)).w ((im_call (ia_cons (im_var 0) (ia_cons (im_cb rc_lenA (iaw_cons ((im_var 1)).w iaw_nil)) ia_nil)) (an_cons (an_cons an_nil)))).w))⟩
theorem ok__law_long (T : Txt K mg) {f : Addr} {fd : FuncData} (Fn : Fun K "_law_long" "_law_long" s__law_long f fd) (c__law_draw : Cal P w K mg base 1 "_law_draw" ["_law_deck_here", "_law_most"] (spD K 2 m__law_draw)) (c__law_one : Cal P w K mg base 2 "_law_one" ["_law_deck_here", "_law_items"] (spD K 2 m__law_one)) : FnG P w K mg base 3 f fd ["_law_deck_here", "_law_letters"] (spD K 2 m__law_long) :=
  fnD Fn sc__law_long (by decide) fun cdv A outer s H E hr gd => ⟨_, (pss_cons (ps_set (i := 2) sc__law_long.nd rfl (Or.inl rfl) (pe_op op_addA pe_int (pe_callC c__law_draw hr gd (by rfl) (pa_cons (pv 0) (pa_cons pe_int pa_nil)))))
 (pss_cons (ps_set (i := 3) sc__law_long.nd rfl (Or.inl rfl) (pe_lst pa_nil))
 (pss_cons (ps_for PassesOwn.never rfl (pi_range1 (by rfl) T.n_range (pa_cons (pv 2) pa_nil)) (pg_name (i := 4) sc__law_long.nd rfl (Or.inl rfl))
 (pss_cons (ps_set (i := 5) sc__law_long.nd rfl (Or.inl rfl) (pe_op op_rep (pe_lst (pa_cons pe_non pa_nil)) (pv 1)))
 (pss_cons (ps_asg (pe_ifExp (pt_cmpR (op_ltA hr.units) (pe_op op_addA (pv 4) pe_int) (pv 2) (nomark _)) (pe_op op_addA (pv 4) pe_int) (pe_callC c__law_one hr gd (by rfl) (pa_cons (pv 0) (pa_cons (pe_lst (pa_cons pe_non (pa_cons pe_int (pa_cons (pe_op op_sub (pv 2) pe_int) pa_nil)))) pa_nil)))) (pg_sub (pv 5) (pe_callC c__law_draw hr gd (by rfl) (pa_cons (pv 0) (pa_cons (pv 1) pa_nil))) set_list))
 (pss_cons (ps_if (pt_cmpR (op_eqA hr.units) (pe_callC c__law_draw hr gd (by rfl) (pa_cons (pv 0) (pa_cons pe_int pa_nil))) pe_int (nomark _))
 (pss_one (ps_asg (pe_callC c__law_draw hr gd (by rfl) (pa_cons (pv 0) (pa_cons (pv 2) pa_nil))) (pg_sub (pv 5) (pe_callC c__law_draw hr gd (by rfl) (pa_cons (pv 0) (pa_cons (pv 1) pa_nil))) set_list)))
 pss_nil)
 (pss_one (ps_expr (pe_bm PySem.F.plainAttrs_list PySem.F.slot_list_append PySem.F.type_list_append mt_append (pv 3) (pa_cons (pe_callTy (call_tupA rfl) (by rfl) T.n_tuple (by decide +kernel) (pa_cons (pv 5) pa_nil)) pa_nil))))))))
 (pss_one (ps_ret (pe_tup (pa_cons (pv 1) (pa_cons (pe_callTy (call_tupA rfl) (by rfl) T.n_tuple (by decide +kernel) (pa_cons (pv 3) pa_nil)) (pa_cons (pe_op op_addA (pe_callTy (call_tupA rfl) (by rfl) T.n_tuple (by decide +kernel) (pa_cons (pe_lc (own := [("_law_k", 4)]) (g := (gName 4)) rfl sc__law_long.nd (pi_range1 (by rfl) T.n_range (pa_cons (pe_op op_sub (pv 2) pe_int) pa_nil)) (blkOk_by (own := [("_law_k", 4)]) (N := ["_law_deck_here", "_law_letters", "_law_size", "_law_rows", "_law_k", "_law_row"]) (sc := defScope s__law_long) (by decide +kernel)) (fun _ _ _ _ _ => (pg_name (i := 4) sc__law_long.nd rfl (Or.inl rfl))) (fun _ _ _ _ _ => pts_nil) (fun _ _ _ _ _ => (pe_cmpR (op_eqA hr.units) (pe_callC c__law_draw hr gd (by rfl) (pa_cons (pv 0) (pa_cons pe_int pa_nil))) pe_int (nomark _)))) pa_nil)) (pe_tup (pa_cons pe_bl pa_nil))) pa_nil))))))))),
 (is_seq (is_asg (im_op ro_addA (im_int).w ((im_call (ia_cons (im_var 0) (ia_cons im_int ia_nil)) (an_cons (an_cons an_nil)))).w) (ig_name 2))
 (is_seq (is_own 3 (if_lst ia_nil))
 (is_seq (is_for (ii_range1 (iaw_cons ((im_var 2)).w iaw_nil)) (ig_name 4)
 (is_seq (is_own 5 (im_opF rof_mul ((if_lst (ia_cons im_non ia_nil))).w ((im_var 1)).w))
 (is_seq (is_lset 5 ((im_call (ia_cons (im_var 0) (ia_cons (im_var 1) ia_nil)) (an_cons (an_cons an_nil)))).w (im_if (it_test (im_op ro_ltA ((im_op ro_addA ((im_var 4)).w (im_int).w)).w ((im_var 2)).w)) (im_op ro_addA ((im_var 4)).w (im_int).w) (im_call (ia_cons (im_var 0) (ia_cons ((if_lst (ia_cons im_non (ia_cons im_int (ia_cons (im_op ro_sub ((im_var 2)).w (im_int).w) ia_nil))))).im ia_nil)) (an_cons (an_cons an_nil)))))
 (is_seq (is_if (it_test (im_op ro_eq ((im_call (ia_cons (im_var 0) (ia_cons im_int ia_nil)) (an_cons (an_cons an_nil)))).w (im_int).w))
 (is_lset 5 ((im_call (ia_cons (im_var 0) (ia_cons (im_var 1) ia_nil)) (an_cons (an_cons an_nil)))).w (im_call (ia_cons (im_var 0) (ia_cons (im_var 2) ia_nil)) (an_cons (an_cons an_nil))))
 is_next)
 (is_app 3 (im_cb rc_tupA (iaw_cons (im_own 5) iaw_nil)))))))
 (is_ret (im_tup (ia_cons (im_var 1) (ia_cons (im_cb rc_tupA (iaw_cons (im_own 3) iaw_nil)) (ia_cons (im_op ro_addA ((im_cb rc_tupA (iaw_cons ((if_comp (vs := [4]) (ii_range1 (iaw_cons ((im_op ro_sub ((im_var 2)).w (im_int).w)).w iaw_nil)) (ig_name 4) it_yes (im_op ro_eq ((im_call (ia_cons (im_var 0) (ia_cons im_int ia_nil)) (an_cons (an_cons an_nil)))).w (im_int).w) (by decide))).w iaw_nil))).w ((im_tup (ia_cons im_bl ia_nil))).w) ia_nil))))))))⟩
theorem ok__law_kind (T : Txt K mg) {f : Addr} {fd : FuncData} (Fn : Fun K "_law_kind" "_law_kind" s__law_kind f fd) (c__law_draw : Cal P w K mg base 1 "_law_draw" ["_law_deck_here", "_law_most"] (spD K 2 m__law_draw)) (c__law_one : Cal P w K mg base 2 "_law_one" ["_law_deck_here", "_law_items"] (spD K 2 m__law_one)) : FnG P w K mg base 3 f fd ["_law_deck_here", "_law_most", "_law_states"] (spD K 3 m__law_kind) :=
  fnD Fn sc__law_kind (by decide) fun cdv A outer s H E hr gd => ⟨_, (pss_cons (ps_par (i := 3) (j := 4) rfl sc__law_kind.nd rfl rfl (by decide) rfl rfl (pa_cons (pe_op op_addA pe_int (pe_callC c__law_draw hr gd (by rfl) (pa_cons (pv 0) (pa_cons (pv 1) pa_nil)))) (pa_cons (pe_op op_addA pe_int (pe_callC c__law_draw hr gd (by rfl) (pa_cons (pv 0) (pa_cons (pv 2) pa_nil)))) pa_nil)) (by rfl))
 (pss_cons (ps_if (pt_cmpR (op_eqA hr.units) (pe_callC c__law_draw hr gd (by rfl) (pa_cons (pv 0) (pa_cons pe_int pa_nil))) pe_int (nomark _))
 (pss_one (ps_ret (pe_tup (pa_cons (pv 3) (pa_cons (pe_tup (pa_cons (pe_op op_mulA (pe_tup (pa_cons pe_int pa_nil)) (pv 3)) pa_nil)) (pa_cons (pe_tup (pa_cons pe_bl pa_nil)) pa_nil))))))
 pss_nil)
 (pss_cons (ps_par (i := 5) (j := 6) rfl sc__law_kind.nd rfl rfl (by decide) rfl rfl (pa_cons (pe_lst pa_nil) (pa_cons (pe_lst pa_nil) pa_nil)) (by rfl))
 (pss_cons (ps_for PassesOwn.never rfl (pi_range1 (by rfl) T.n_range (pa_cons (pv 4) pa_nil)) (pg_name (i := 7) sc__law_kind.nd rfl (Or.inl rfl))
 (pss_cons (ps_set (i := 8) sc__law_kind.nd rfl (Or.inr rfl) (pe_lst (pa_cons pe_non (pa_cons pe_int (pa_cons (pe_op op_mod (pe_callTy call_int1 (by rfl) T.n_int (by decide +kernel) (pa_cons (pe_op op_addA (pv 7) pe_int) pa_nil)) (pv 4)) (pa_cons (pe_callC c__law_draw hr gd (by rfl) (pa_cons (pv 0) (pa_cons (pv 4) pa_nil))) (pa_cons (pe_callC c__law_draw hr gd (by rfl) (pa_cons (pv 0) (pa_cons (pv 4) pa_nil))) (pa_cons (pe_callC c__law_draw hr gd (by rfl) (pa_cons (pv 0) (pa_cons (pv 4) pa_nil))) pa_nil))))))))
 (pss_cons (ps_expr (pe_bm PySem.F.plainAttrs_list PySem.F.slot_list_append PySem.F.type_list_append mt_append (pv 5) (pa_cons (pe_callTy (call_tupA rfl) (by rfl) T.n_tuple (by decide +kernel) (pa_cons (pe_lc (own := [("_law_letter", 9)]) (g := (gName 9)) rfl sc__law_kind.nd (pi_range1 (by rfl) T.n_range (pa_cons (pv 3) pa_nil)) (blkOk_by (own := [("_law_letter", 9)]) (N := ["_law_deck_here", "_law_most", "_law_states", "_law_letters", "_law_size", "_law_rows", "_law_ends", "_law_k", "_law_some", "_law_letter"]) (sc := defScope s__law_kind) (by decide +kernel)) (fun _ _ _ _ _ => (pg_name (i := 9) sc__law_kind.nd rfl (Or.inl rfl))) (fun _ _ _ _ _ => pts_nil) (fun _ _ _ _ _ => (pe_callC c__law_one hr gd (by rfl) (pa_cons (pv 0) (pa_cons (pe_slice sl_any (pv 8) (po_some (pe_callC c__law_draw hr gd (by rfl) (pa_cons (pv 0) (pa_cons pe_int pa_nil)))) po_none) pa_nil))))) pa_nil)) pa_nil)))
 (pss_one (ps_expr (pe_bm PySem.F.plainAttrs_list PySem.F.slot_list_append PySem.F.type_list_append mt_append (pv 6) (pa_cons (pe_cmpR op_gt (pe_callC c__law_draw hr gd (by rfl) (pa_cons (pv 0) (pa_cons pe_int pa_nil))) pe_int (nomark _)) pa_nil)))))))
 (pss_one (ps_ret (pe_tup (pa_cons (pv 3) (pa_cons (pe_callTy (call_tupA rfl) (by rfl) T.n_tuple (by decide +kernel) (pa_cons (pv 5) pa_nil)) (pa_cons (pe_callTy (call_tupA rfl) (by rfl) T.n_tuple (by decide +kernel) (pa_cons (pv 6) pa_nil)) pa_nil)))))))))),
 (is_seq (is_par 3 4 (ia_cons (im_op ro_addA (im_int).w ((im_call (ia_cons (im_var 0) (ia_cons (im_var 1) ia_nil)) (an_cons (an_cons an_nil)))).w) (ia_cons (im_op ro_addA (im_int).w ((im_call (ia_cons (im_var 0) (ia_cons (im_var 2) ia_nil)) (an_cons (an_cons an_nil)))).w) ia_nil)))
 (is_seq (is_if (it_test (im_op ro_eq ((im_call (ia_cons (im_var 0) (ia_cons im_int ia_nil)) (an_cons (an_cons an_nil)))).w (im_int).w))
 (is_ret (im_tup (ia_cons (im_var 3) (ia_cons (im_tup (ia_cons (im_op ro_mulA ((im_tup (ia_cons im_int ia_nil))).w ((im_var 3)).w) ia_nil)) (ia_cons (im_tup (ia_cons im_bl ia_nil)) ia_nil)))))
 is_next)
 (is_seq (is_par2 5 6 ((if_lst ia_nil)).x ((if_lst ia_nil)).x)
 (is_seq (is_for (ii_range1 (iaw_cons ((im_var 4)).w iaw_nil)) (ig_name 7)
 (is_seq (is_asg ((if_lst (ia_cons im_non (ia_cons im_int (ia_cons (im_op ro_mod ((im_cb rc_int1 (iaw_cons ((im_op ro_addA ((im_var 7)).w (im_int).w)).w iaw_nil))).w ((im_var 4)).w) (ia_cons (im_call (ia_cons (im_var 0) (ia_cons (im_var 4) ia_nil)) (an_cons (an_cons an_nil))) (ia_cons (im_call (ia_cons (im_var 0) (ia_cons (im_var 4) ia_nil)) (an_cons (an_cons an_nil))) (ia_cons (im_call (ia_cons (im_var 0) (ia_cons (im_var 4) ia_nil)) (an_cons (an_cons an_nil))) ia_nil)))))))).im (ig_name 8))
 (is_seq (is_app 5 (im_cb rc_tupA (iaw_cons ((if_comp (vs := [9]) (ii_range1 (iaw_cons ((im_var 3)).w iaw_nil)) (ig_name 9) it_yes (im_call (ia_cons (im_var 0) (ia_cons (im_sl rs_any ((im_var 8)).w (io_some ((im_call (ia_cons (im_var 0) (ia_cons im_int ia_nil)) (an_cons (an_cons an_nil)))).w) io_none) ia_nil)) (an_cons (an_cons an_nil))) (by decide))).w iaw_nil)))
 (is_app 6 (im_op ro_gt ((im_call (ia_cons (im_var 0) (ia_cons im_int ia_nil)) (an_cons (an_cons an_nil)))).w (im_int).w)))))
 (is_ret (im_tup (ia_cons (im_var 3) (ia_cons (im_cb rc_tupA (iaw_cons (im_own 5) iaw_nil)) (ia_cons (im_cb rc_tupA (iaw_cons (im_own 6) iaw_nil)) ia_nil)))))))))⟩
theorem ok__law_some_kind (T : Txt K mg) {f : Addr} {fd : FuncData} (Fn : Fun K "_law_some_kind" "_law_some_kind" s__law_some_kind f fd) (c__law_draw : Cal P w K mg base 1 "_law_draw" ["_law_deck_here", "_law_most"] (spD K 2 m__law_draw)) (c__law_kind : Cal P w K mg base 3 "_law_kind" ["_law_deck_here", "_law_most", "_law_states"] (spD K 3 m__law_kind)) (c__law_long : Cal P w K mg base 3 "_law_long" ["_law_deck_here", "_law_letters"] (spD K 2 m__law_long)) : FnG P w K mg base 4 f fd ["_law_deck_here", "_law_most"] (spD K 2 m__law_some_kind) :=
  fnD Fn sc__law_some_kind (by decide) fun cdv A outer s H E hr gd => ⟨_, (pss_cons (ps_if (pt_cmpR op_gt (pe_callC c__law_draw hr gd (by rfl) (pa_cons (pv 0) (pa_cons pe_int pa_nil))) pe_int (nomark _))
 (pss_one (ps_ret (pe_callC c__law_kind hr gd (by rfl) (pa_cons (pv 0) (pa_cons (pv 1) (pa_cons pe_int pa_nil))))))
 pss_nil)
 (pss_one (ps_ret (pe_callC c__law_long hr gd (by rfl) (pa_cons (pv 0) (pa_cons (pe_op op_addA pe_int (pe_callC c__law_draw hr gd (by rfl) (pa_cons (pv 0) (pa_cons (pv 1) pa_nil)))) pa_nil)))))),
 (is_seq (is_if (it_test (im_op ro_gt ((im_call (ia_cons (im_var 0) (ia_cons im_int ia_nil)) (an_cons (an_cons an_nil)))).w (im_int).w))
 (is_ret (im_call (ia_cons (im_var 0) (ia_cons (im_var 1) (ia_cons im_int ia_nil))) (an_cons (an_cons (an_cons an_nil)))))
 is_next)
 (is_ret (im_call (ia_cons (im_var 0) (ia_cons (im_op ro_addA (im_int).w ((im_call (ia_cons (im_var 0) (ia_cons (im_var 1) ia_nil)) (an_cons (an_cons an_nil)))).w) ia_nil)) (an_cons (an_cons an_nil)))))⟩
theorem ok__law_unit (T : Txt K mg) {f : Addr} {fd : FuncData} (Fn : Fun K "_law_unit" "_law_unit" s__law_unit f fd) (c__law_draw : Cal P w K mg base 1 "_law_draw" ["_law_deck_here", "_law_most"] (spD K 2 m__law_draw)) (c__law_one : Cal P w K mg base 2 "_law_one" ["_law_deck_here", "_law_items"] (spD K 2 m__law_one)) : FnG P w K mg base 3 f fd ["_law_deck_here", "_law_letters", "_law_least"] (spD K 3 m__law_unit) :=
  fnD Fn sc__law_unit (by decide) fun cdv A outer s H E hr gd => ⟨_, (pss_one (ps_ret (pe_callTy (call_tupA rfl) (by rfl) T.n_tuple (by decide +kernel) (pa_cons (pe_lc (own := [("_law_k", 3)]) (g := (gName 3)) rfl sc__law_unit.nd (pi_range1 (by rfl) T.n_range (pa_cons (pv 1) pa_nil)) (blkOk_by (own := [("_law_k", 3)]) (N := ["_law_deck_here", "_law_letters", "_law_least", "_law_k"]) (sc := defScope s__law_unit) (by decide +kernel)) (fun _ _ _ _ _ => (pg_name (i := 3) sc__law_unit.nd rfl (Or.inl rfl))) (fun _ _ _ _ _ => pts_nil) (fun _ _ _ _ _ => (pe_callC c__law_one hr gd (by rfl) (pa_cons (pv 0) (pa_cons (pe_lst (pa_cons (pv 2) (pa_cons pe_int (pa_cons pe_int (pa_cons pe_int (pa_cons pe_int (pa_cons (pe_op op_addA (pe_callC c__law_draw hr gd (by rfl) (pa_cons (pv 0) (pa_cons pe_int pa_nil))) pe_int) pa_nil))))))) pa_nil))))) pa_nil)))),
 (is_ret (im_cb rc_tupA (iaw_cons ((if_comp (vs := [3]) (ii_range1 (iaw_cons ((im_var 1)).w iaw_nil)) (ig_name 3) it_yes (im_call (ia_cons (im_var 0) (ia_cons ((if_lst (ia_cons (im_var 2) (ia_cons im_int (ia_cons im_int (ia_cons im_int (ia_cons im_int (ia_cons (im_op ro_addA ((im_call (ia_cons (im_var 0) (ia_cons im_int ia_nil)) (an_cons (an_cons an_nil)))).w (im_int).w) ia_nil)))))))).im ia_nil)) (an_cons (an_cons an_nil))) (by decide))).w iaw_nil)))⟩
theorem ok__law_units (T : Txt K mg) {f : Addr} {fd : FuncData} (Fn : Fun K "_law_units" "_law_units" s__law_units f fd) (c__law_draw : Cal P w K mg base 1 "_law_draw" ["_law_deck_here", "_law_most"] (spD K 2 m__law_draw)) (c__law_unit : Cal P w K mg base 3 "_law_unit" ["_law_deck_here", "_law_letters", "_law_least"] (spD K 3 m__law_unit)) : FnG P w K mg base 4 f fd ["_law_deck_here", "_law_letters"] (spD K 2 m__law_units) :=
  fnD Fn sc__law_units (by decide) fun cdv A outer s H E hr gd => ⟨_, (pss_one (ps_ret (pe_callTy (call_tupA rfl) (by rfl) T.n_tuple (by decide +kernel) (pa_cons (pe_lc (own := [("_law_k", 2)]) (g := (gName 2)) rfl sc__law_units.nd (pi_range1 (by rfl) T.n_range (pa_cons (pe_op op_addA pe_int (pe_callC c__law_draw hr gd (by rfl) (pa_cons (pv 0) (pa_cons pe_int pa_nil)))) pa_nil)) (blkOk_by (own := [("_law_k", 2)]) (N := ["_law_deck_here", "_law_letters", "_law_k"]) (sc := defScope s__law_units) (by decide +kernel)) (fun _ _ _ _ _ => (pg_name (i := 2) sc__law_units.nd rfl (Or.inl rfl))) (fun _ _ _ _ _ => pts_nil) (fun _ _ _ _ _ => (pe_callC c__law_unit hr gd (by rfl) (pa_cons (pv 0) (pa_cons (pv 1) (pa_cons pe_int pa_nil)))))) pa_nil)))),
 (is_ret (im_cb rc_tupA (iaw_cons ((if_comp (vs := [2]) (ii_range1 (iaw_cons ((im_op ro_addA (im_int).w ((im_call (ia_cons (im_var 0) (ia_cons im_int ia_nil)) (an_cons (an_cons an_nil)))).w)).w iaw_nil)) (ig_name 2) it_yes (im_call (ia_cons (im_var 0) (ia_cons (im_var 1) (ia_cons im_int ia_nil))) (an_cons (an_cons (an_cons an_nil)))) (by decide))).w iaw_nil)))⟩
theorem ok__law_cut (T : Txt K mg) {f : Addr} {fd : FuncData} (Fn : Fun K "_law_cut" "_law_cut" s__law_cut f fd) (c__law_draw : Cal P w K mg base 1 "_law_draw" ["_law_deck_here", "_law_most"] (spD K 2 m__law_draw)) : FnG P w K mg base 2 f fd ["_law_deck_here", "_law_letters", "_law_units_here", "_law_most"] (spD K 4 m__law_cut) :=
  fnD Fn sc__law_cut (by decide) fun cdv A outer s H E hr gd => ⟨_, (pss_cons (ps_set (i := 4) sc__law_cut.nd rfl (Or.inl rfl) (pe_join pe_str (pe_lc (own := [("_law_letter", 5)]) (g := (gName 5)) rfl sc__law_cut.nd (pi_seq (pe_slice sl_any pe_str po_none (po_some (pv 1)))) (blkOk_by (own := [("_law_letter", 5)]) (N := ["_law_deck_here", "_law_letters", "_law_units_here", "_law_most", "_law_clings", "_law_letter"]) (sc := defScope s__law_cut) (by decide +kernel)) (fun _ _ _ _ _ => (pg_name (i := 5) sc__law_cut.nd rfl (Or.inl rfl))) (fun _ _ _ _ _ => (pts_one (pt_cmpR (op_eqA hr.units) (pe_callC c__law_draw hr gd (by rfl) (pa_cons (pv 0) (pa_cons pe_int pa_nil))) pe_int (nomark _)))) (fun _ _ _ _ _ => (pv 5)))))
 (pss_one (ps_ret (pe_tup (pa_cons (pe_callC c__law_draw hr gd (by rfl) (pa_cons (pv 0) (pa_cons (pe_callB call_lenA (by rfl) T.n_len (by decide +kernel) (pa_cons (pv 2) pa_nil)) pa_nil))) (pa_cons (pe_callC c__law_draw hr gd (by rfl) (pa_cons (pv 0) (pa_cons (pe_op op_addA (pv 3) pe_int) pa_nil))) (pa_cons (pv 4) pa_nil))))))),
 (is_seq (is_asg (im_m1 rm_join (im_str).w ((if_comp (vs := [5]) (ii_seq (im_sl rs_any (im_str).w io_none (io_some ((im_var 1)).w))) (ig_name 5) (it_test (im_op ro_eq ((im_call (ia_cons (im_var 0) (ia_cons im_int ia_nil)) (an_cons (an_cons an_nil)))).w (im_int).w)) (im_var 5) (by decide))).w) (ig_name 4))
 (is_ret (im_tup (ia_cons (im_call (ia_cons (im_var 0) (ia_cons (im_cb rc_lenA (iaw_cons ((im_var 2)).w iaw_nil)) ia_nil)) (an_cons (an_cons an_nil))) (ia_cons (im_call (ia_cons (im_var 0) (ia_cons (im_op ro_addA ((im_var 3)).w (im_int).w) ia_nil)) (an_cons (an_cons an_nil))) (ia_cons (im_var 4) ia_nil))))))⟩
theorem ok_moves_of (T : Txt K mg) {f : Addr} {fd : FuncData} (Fn : Fun K "moves_of" "moves_of" s_moves_of f fd)  : FnG P w K mg base 1 f fd ["kind", "state"] (spD K 2 m_moves_of) :=
  fnD Fn sc_moves_of (by decide) fun cdv A outer s H E hr gd => ⟨_, (pss_cons (ps_set (i := 2) sc_moves_of.nd rfl (Or.inr rfl) (pe_sub (units1 hr.units) (pe_sub (units1 hr.units) (pv 0) pe_int) (pv 1)))
 (pss_one (ps_ret (pe_lc (own := [("at", 3)]) (g := (gName 3)) rfl sc_moves_of.nd (pi_range1 (by rfl) T.n_range (pa_cons (pe_sub (units1 hr.units) (pv 0) pe_int) pa_nil)) (blkOk_by (own := [("at", 3)]) (N := ["kind", "state", "row", "at"]) (sc := defScope s_moves_of) (by decide +kernel)) (fun _ _ _ _ _ => (pg_name (i := 3) sc_moves_of.nd rfl (Or.inl rfl))) (fun _ _ _ _ _ => (pts_one (pt_cmpR op_notN (pe_sub (units1 hr.units) (pv 2) (pv 3)) pe_non (nomark _)))) (fun _ _ _ _ _ => (pe_tup (pa_cons (pe_sub (units1 hr.units) (pe_gstr (by rfl) T.c_LETTERS) (pv 3)) (pa_cons (pv 3) (pa_cons (pe_sub (units1 hr.units) (pv 2) (pv 3)) pa_nil))))))))),
 (is_seq (is_asg (im_sub ((im_sub ((im_var 0)).w (im_int).w)).w ((im_var 1)).w) (ig_name 2))
 (is_ret ((if_comp (vs := [3]) (ii_range1 (iaw_cons ((im_sub ((im_var 0)).w (im_int).w)).w iaw_nil)) (ig_name 3) (it_test (im_op ro_isNot ((im_sub ((im_var 2)).w ((im_var 3)).w)).w (im_non).w)) (im_tup (ia_cons (im_sub (im_str).w ((im_var 3)).w) (ia_cons (im_var 3) (ia_cons (im_sub ((im_var 2)).w ((im_var 3)).w) ia_nil)))) (by decide))).im))⟩
theorem ok_next_rest (T : Txt K mg) {f : Addr} {fd : FuncData} (Fn : Fun K "next_rest" "next_rest" s_next_rest f fd)  : FnG P w K mg base 1 f fd ["rest", "cut", "letter", "count"] (spD K 4 m_next_rest) :=
  fnD Fn sc_next_rest (by decide) fun cdv A outer s H E hr gd => ⟨_, (pss_cons (ps_asg (pv 0) (pg_tup rfl (pgs_cons (pg_name (i := 4) sc_next_rest.nd rfl (Or.inl rfl)) (pgs_cons (pg_name (i := 5) sc_next_rest.nd rfl (Or.inl rfl)) (pgs_cons (pg_name (i := 6) sc_next_rest.nd rfl (Or.inl rfl)) pgs_nil)))))
 (pss_cons (ps_if (PW.pt (pw_and (pt_notIn (units1 hr.units) (pv 2) (pe_sub (units1 hr.units) (pv 1) pe_int)) (pw_and1 (pt_cmpR op_ge (pv 6) pe_int (nomark _)))))
 (pss_one (ps_par3 (i := 4) (j := 5) (l := 6) rfl sc_next_rest.nd rfl rfl rfl (by decide) (by decide) (by decide) rfl rfl rfl (pa_cons (pe_op op_addA (pv 4) (pv 6)) (pa_cons pe_bl (pa_cons pe_int pa_nil))) (by rfl)))
 pss_nil)
 (pss_cons (ps_set (i := 6) sc_next_rest.nd rfl (Or.inl rfl) (pe_op op_addA (pe_callB (call_max2 rfl) (by rfl) T.n_max (by decide +kernel) (pa_cons (pv 6) (pa_cons pe_int pa_nil))) (pv 3)))
 (pss_cons (ps_if (pt_cmpR op_le (pe_op op_addA (pv 4) (pv 6)) (pe_sub (units1 hr.units) (pv 1) pe_int) (nomark _))
 (pss_one (ps_ret (pe_tup (pa_cons (pe_tup (pa_cons (pv 4) (pa_cons (pv 5) (pa_cons (pv 6) pa_nil)))) (pa_cons pe_bl pa_nil)))))
 pss_nil)
 (pss_cons (ps_if (PW.pt (pw_or (pt_not (pt_truth (pv 5) (by intro _; rfl))) (pw_or1 (pt_cmpR op_gt (pv 6) (pe_sub (units1 hr.units) (pv 1) pe_int) (nomark _)))))
 (pss_one (ps_ret (pe_tup (pa_cons pe_non (pa_cons pe_bl pa_nil)))))
 pss_nil)
 (pss_one (ps_ret (pe_tup (pa_cons (pe_tup (pa_cons pe_int (pa_cons pe_bl (pa_cons (pv 6) pa_nil)))) (pa_cons pe_bl pa_nil)))))))))),
 (is_seq (is_asg (im_var 0) (ig_tup (igs_cons (ig_name 4) (igs_cons (ig_name 5) (igs_cons (ig_name 6) igs_nil)))))
 (is_seq (is_if (it_and (it_test (im_notIn ((im_var 2)).w ((im_sub ((im_var 1)).w (im_int).w)).w)) (it_test (im_op ro_ge ((im_var 6)).w (im_int).w)))
 (is_par3 4 5 6 (ia_cons (im_op ro_addA ((im_var 4)).w ((im_var 6)).w) (ia_cons im_bl (ia_cons im_int ia_nil))))
 is_next)
 (is_seq (is_asg (im_op ro_addA ((im_cb rc_max2 (iaw_cons ((im_var 6)).w (iaw_cons (im_int).w iaw_nil)))).w ((im_var 3)).w) (ig_name 6))
 (is_seq (is_if (it_test (im_op ro_le ((im_op ro_addA ((im_var 4)).w ((im_var 6)).w)).w ((im_sub ((im_var 1)).w (im_int).w)).w))
 (is_ret (im_tup (ia_cons (im_tup (ia_cons (im_var 4) (ia_cons (im_var 5) (ia_cons (im_var 6) ia_nil)))) (ia_cons im_bl ia_nil))))
 is_next)
 (is_seq (is_if (it_or (it_not (it_truth ((im_var 5)).w)) (it_test (im_op ro_gt ((im_var 6)).w ((im_sub ((im_var 1)).w (im_int).w)).w)))
 (is_ret (im_tup (ia_cons im_non (ia_cons im_bl ia_nil))))
 is_next)
 (is_ret (im_tup (ia_cons (im_tup (ia_cons im_int (ia_cons im_bl (ia_cons (im_var 6) ia_nil)))) (ia_cons im_bl ia_nil)))))))))⟩
theorem ok_stuck (T : Txt K mg) {f : Addr} {fd : FuncData} (Fn : Fun K "stuck" "stuck" s_stuck f fd) (c_moves_of : Cal P w K mg base 1 "moves_of" ["kind", "state"] (spD K 2 m_moves_of)) (c_next_rest : Cal P w K mg base 1 "next_rest" ["rest", "cut", "letter", "count"] (spD K 4 m_next_rest)) : FnG P w K mg base 2 f fd ["kind", "units", "cut"] (spD K 3 m_stuck) :=
  fnD Fn sc_stuck (by decide) fun cdv A outer s H E hr gd => ⟨_, (pss_cons (ps_par (i := 3) (j := 4) rfl sc_stuck.nd rfl rfl (by decide) rfl rfl (pa_cons (pe_tup (pa_cons pe_int (pa_cons (pe_gtup (by rfl) T.c_FRESH) pa_nil))) (pa_cons (pe_sub (units1 hr.units) (pv 1) (pe_sub (units1 hr.units) (pv 2) pe_int)) pa_nil)) (by rfl))
 (pss_cons (ps_par (i := 5) (j := 6) rfl sc_stuck.nd rfl rfl (by decide) rfl rfl (pa_cons (pe_dispN hr.units (pv 3) pe_bl) (pa_cons (pe_lst (pa_cons (pe_tup (pa_cons (pv 3) (pa_cons pe_str pa_nil))) pa_nil)) pa_nil)) (by rfl))
 (pss_cons (ps_while PassesOwn.never (pt_cmpR (op_neA hr.units) (pv 6) (pe_lst pa_nil) (nomark _))
 (pss_cons (ps_set (i := 7) sc_stuck.nd rfl (Or.inl rfl) (pe_lst pa_nil))
 (pss_cons (ps_for PassesOwn.never rfl (pi_seq (pv 6)) (pg_tup rfl (pgs_cons (pg_tup rfl (pgs_cons (pg_name (i := 8) sc_stuck.nd rfl (Or.inl rfl)) (pgs_cons (pg_name (i := 9) sc_stuck.nd rfl (Or.inl rfl)) pgs_nil))) (pgs_cons (pg_name (i := 10) sc_stuck.nd rfl (Or.inl rfl)) pgs_nil)))
 (pss_cons (ps_if (PW.pt (pw_and (pt_cmpR op_isN (pv 9) pe_non (nomark _)) (pw_and1 (pt_truth (pe_sub (units1 hr.units) (pe_sub (units1 hr.units) (pv 0) pe_int) (pv 8)) (by intro _; rfl)))))
 (pss_one (ps_ret (pv 10)))
 pss_nil)
 (pss_one (ps_for PassesOwn.never rfl (pi_seq (pe_callC c_moves_of hr gd (by rfl) (pa_cons (pv 0) (pa_cons (pv 8) pa_nil)))) (pg_tup rfl (pgs_cons (pg_name (i := 11) sc_stuck.nd rfl (Or.inl rfl)) (pgs_cons (pg_name (i := 12) sc_stuck.nd rfl (Or.inl rfl)) (pgs_cons (pg_name (i := 13) sc_stuck.nd rfl (Or.inl rfl)) pgs_nil))))
 (pss_cons (ps_set (i := 14) sc_stuck.nd rfl (Or.inl rfl) (pe_ifExp (pt_cmpR op_isN (pv 9) pe_non (nomark _)) pe_non (pe_sub (units1 hr.units) (pe_callC c_next_rest hr gd (by rfl) (pa_cons (pv 9) (pa_cons (pv 2) (pa_cons (pv 11) (pa_cons (pe_sub (units1 hr.units) (pv 4) (pv 12)) pa_nil))))) pe_int)))
 (pss_one (ps_if (pt_cmpR (op_nkNotIn hr.units) (pe_tup (pa_cons (pv 13) (pa_cons (pv 14) pa_nil))) (pv 5) (by rfl))
 (pss_cons (ps_nput hr.units (pv 5) (pe_tup (pa_cons (pv 13) (pa_cons (pv 14) pa_nil))) pe_bl (by rfl))
 (pss_one (ps_expr (pe_bm PySem.F.plainAttrs_list PySem.F.slot_list_append PySem.F.type_list_append mt_append (pv 7) (pa_cons (pe_tup (pa_cons (pe_tup (pa_cons (pv 13) (pa_cons (pv 14) pa_nil))) (pa_cons (pe_op op_addA (pv 10) (pv 11)) pa_nil))) pa_nil)))))
 pss_nil)))))))
 (pss_one (ps_set (i := 6) sc_stuck.nd rfl (Or.inl rfl) (pv 7))))))
 (pss_one (ps_ret pe_non))))),
 (is_seq (is_par 3 4 (ia_cons (im_tup (ia_cons im_int (ia_cons (im_gtup T.c_FRESH) ia_nil))) (ia_cons (im_sub ((im_var 1)).w ((im_sub ((im_var 2)).w (im_int).w)).w) ia_nil)))
 (is_seq (is_par2 5 6 ((im_stoN (im_var 3) im_bl)).x (((if_lst (ia_cons (im_tup (ia_cons (im_var 3) (ia_cons im_str ia_nil))) ia_nil))).im).x)
 (is_seq (is_while (it_test (im_op ro_ne ((im_var 6)).w ((if_lst ia_nil)).w))
 (is_seq (is_own 7 (if_lst ia_nil))
 (is_seq (is_for (ii_seq (im_var 6)) (ig_tup (igs_cons (ig_tup (igs_cons (ig_name 8) (igs_cons (ig_name 9) igs_nil))) (igs_cons (ig_name 10) igs_nil)))
 (is_seq (is_if (it_and (it_test (im_op ro_is ((im_var 9)).w (im_non).w)) (it_truth ((im_sub ((im_sub ((im_var 0)).w (im_int).w)).w ((im_var 8)).w)).w))
 (is_ret (im_var 10))
 is_next)
 (is_for (ii_seq (im_call (ia_cons (im_var 0) (ia_cons (im_var 8) ia_nil)) (an_cons (an_cons an_nil)))) (ig_tup (igs_cons (ig_name 11) (igs_cons (ig_name 12) (igs_cons (ig_name 13) igs_nil))))
 (is_seq (is_asg (im_if (it_test (im_op ro_is ((im_var 9)).w (im_non).w)) im_non (im_sub ((im_call (ia_cons (im_var 9) (ia_cons (im_var 2) (ia_cons (im_var 11) (ia_cons (im_sub ((im_var 4)).w ((im_var 12)).w) ia_nil)))) (an_cons (an_cons (an_cons (an_cons an_nil)))))).w (im_int).w)) (ig_name 14))
 (is_if (it_test (im_nin (neg := true) (im_tup (ia_cons (im_var 13) (ia_cons (im_var 14) ia_nil))) (im_var 5)))
 (is_seq (is_nput (im_var 5) (im_tup (ia_cons (im_var 13) (ia_cons (im_var 14) ia_nil))) im_bl)
 (is_app 7 (im_tup (ia_cons (im_tup (ia_cons (im_var 13) (ia_cons (im_var 14) ia_nil))) (ia_cons (im_op ro_addA ((im_var 10)).w ((im_var 11)).w) ia_nil)))))
 is_next)))))
 (is_frz 7 (is_asg (im_var 7) (ig_name 6))))))
 (is_ret im_non))))⟩
theorem ok__law_words (T : Txt K mg) {f : Addr} {fd : FuncData} (Fn : Fun K "_law_words" "_law_words" s__law_words f fd)  : FnG P w K mg base 1 f fd ["_law_letters", "_law_size"] (spD K 2 m__law_words) :=
  fnD Fn sc__law_words (by decide) fun cdv A outer s H E hr gd => ⟨_, (pss_cons (ps_set (i := 2) sc__law_words.nd rfl (Or.inl rfl) (pe_lst (pa_cons pe_str pa_nil)))
 (pss_cons (ps_for PassesOwn.never rfl (pi_range1 (by rfl) T.n_range (pa_cons (pv 1) pa_nil)) (pg_name (i := 3) sc__law_words.nd rfl (Or.inl rfl))
 (pss_cons (ps_set (i := 4) sc__law_words.nd rfl (Or.inl rfl) (pe_lst pa_nil))
 (pss_cons (ps_for PassesOwn.never rfl (pi_seq (pv 2)) (pg_name (i := 5) sc__law_words.nd rfl (Or.inr rfl))
 (pss_one (ps_expr (pe_bm PySem.F.plainAttrs_list PySem.F.slot_list_extend PySem.F.type_list_extend mt_extend (pv 4) (pa_cons (pe_lc (own := [("_law_letter", 6)]) (g := (gName 6)) rfl sc__law_words.nd (pi_seq (pe_slice sl_any pe_str po_none (po_some (pv 0)))) (blkOk_by (own := [("_law_letter", 6)]) (N := ["_law_letters", "_law_size", "_law_found", "_law_k", "_law_further", "_law_word", "_law_letter"]) (sc := defScope s__law_words) (by decide +kernel)) (fun _ _ _ _ _ => (pg_name (i := 6) sc__law_words.nd rfl (Or.inl rfl))) (fun _ _ _ _ _ => pts_nil) (fun _ _ _ _ _ => (pe_op op_addA (pv 5) (pv 6)))) pa_nil)))))
 (pss_one (ps_set (i := 2) sc__law_words.nd rfl (Or.inl rfl) (pv 4))))))
 (pss_one (ps_ret (pv 2))))),
 (is_seq (is_asg ((if_lst (ia_cons im_str ia_nil))).im (ig_name 2))
 (is_seq (is_for (ii_range1 (iaw_cons ((im_var 1)).w iaw_nil)) (ig_name 3)
 (is_seq (is_own 4 (if_lst ia_nil))
 (is_seq (is_for (ii_seq (im_var 2)) (ig_name 5)
 (is_ext 4 ((if_comp (vs := [6]) (ii_seq (im_sl rs_any (im_str).w io_none (io_some ((im_var 0)).w))) (ig_name 6) it_yes (im_op ro_addA ((im_var 5)).w ((im_var 6)).w) (by decide))).w))
 (is_frz 4 (is_asg (im_var 4) (ig_name 2))))))
 (is_ret (im_var 2))))⟩
theorem ok__law_is_of (T : Txt K mg) {f : Addr} {fd : FuncData} (Fn : Fun K "_law_is_of" "_law_is_of" s__law_is_of f fd)  : FnG P w K mg base 1 f fd ["_law_kind_here", "_law_word"] (spD K 2 m__law_is_of) :=
  fnD Fn sc__law_is_of (by decide) fun cdv A outer s H E hr gd => ⟨_, (pss_cons (ps_set (i := 2) sc__law_is_of.nd rfl (Or.inl rfl) pe_int)
 (pss_cons (ps_for PassesOwn.never rfl (pi_seq (pv 1)) (pg_name (i := 3) sc__law_is_of.nd rfl (Or.inl rfl))
 (pss_one (ps_set (i := 2) sc__law_is_of.nd rfl (Or.inl rfl) (pe_ifExp (pt_cmpR op_notN (pv 2) pe_non (nomark _)) (pe_sub (units1 hr.units) (pe_sub (units1 hr.units) (pe_sub (units1 hr.units) (pv 0) pe_int) (pv 2)) (pe_m1 PySem.F.slot_str_index PySem.F.type_str_index mt_sindex pe_str (pv 3))) pe_non))))
 (pss_one (ps_ret (L2.pe_and (pe_cmpR op_notN (pv 2) pe_non (nomark _)) (pe_one (pe_sub (units1 hr.units) (pe_sub (units1 hr.units) (pv 0) pe_int) (pv 2)))))))),
 (is_seq (is_asg im_int (ig_name 2))
 (is_seq (is_for (ii_seq (im_var 1)) (ig_name 3)
 (is_asg (im_if (it_test (im_op ro_isNot ((im_var 2)).w (im_non).w)) (im_sub ((im_sub ((im_sub ((im_var 0)).w (im_int).w)).w ((im_var 2)).w)).w ((im_m1 rm_sindex (im_str).w ((im_var 3)).w)).w) im_non) (ig_name 2)))
 (is_ret (im_andV (im_op ro_isNot ((im_var 2)).w (im_non).w) (im_sub ((im_sub ((im_var 0)).w (im_int).w)).w ((im_var 2)).w)))))⟩
theorem ok__law_all (T : Txt K mg) {f : Addr} {fd : FuncData} (Fn : Fun K "_law_all" "_law_all" s__law_all f fd) (c__law_words : Cal P w K mg base 1 "_law_words" ["_law_letters", "_law_size"] (spD K 2 m__law_words)) (c__law_is_of : Cal P w K mg base 1 "_law_is_of" ["_law_kind_here", "_law_word"] (spD K 2 m__law_is_of)) : FnG P w K mg base 2 f fd ["_law_kind_here", "_law_most"] (spD K 2 m__law_all) :=
  fnD Fn sc__law_all (by decide) fun cdv A outer s H E hr gd => ⟨_, (pss_cons (ps_set (i := 2) sc__law_all.nd rfl (Or.inl rfl) (pe_lst pa_nil))
 (pss_cons (ps_for PassesOwn.never rfl (pi_range1 (by rfl) T.n_range (pa_cons (pe_op op_addA (pv 1) pe_int) pa_nil)) (pg_name (i := 3) sc__law_all.nd rfl (Or.inl rfl))
 (pss_one (ps_expr (pe_bm PySem.F.plainAttrs_list PySem.F.slot_list_extend PySem.F.type_list_extend mt_extend (pv 2) (pa_cons (pe_lc (own := [("_law_word", 4)]) (g := (gName 4)) rfl sc__law_all.nd (pi_seq (pe_callC c__law_words hr gd (by rfl) (pa_cons (pe_sub (units1 hr.units) (pv 0) pe_int) (pa_cons (pv 3) pa_nil)))) (blkOk_by (own := [("_law_word", 4)]) (N := ["_law_kind_here", "_law_most", "_law_found", "_law_size", "_law_word"]) (sc := defScope s__law_all) (by decide +kernel)) (fun _ _ _ _ _ => (pg_name (i := 4) sc__law_all.nd rfl (Or.inl rfl))) (fun _ _ _ _ _ => (pts_one (pt_truth (pe_callC c__law_is_of hr gd (by rfl) (pa_cons (pv 0) (pa_cons (pv 4) pa_nil))) (by intro _; rfl)))) (fun _ _ _ _ _ => (pv 4))) pa_nil)))))
 (pss_one (ps_ret (pv 2))))),
 (is_seq (is_own 2 (if_lst ia_nil))
 (is_seq (is_for (ii_range1 (iaw_cons ((im_op ro_addA ((im_var 1)).w (im_int).w)).w iaw_nil)) (ig_name 3)
 (is_ext 2 ((if_comp (vs := [4]) (ii_seq (im_call (ia_cons (im_sub ((im_var 0)).w (im_int).w) (ia_cons (im_var 3) ia_nil)) (an_cons (an_cons an_nil)))) (ig_name 4) (it_truth ((im_call (ia_cons (im_var 0) (ia_cons (im_var 4) ia_nil)) (an_cons (an_cons an_nil)))).w) (im_var 4) (by decide))).w))
 (is_frz 2 (is_ret (im_var 2)))))⟩
theorem ok__law_far (T : Txt K mg) {f : Addr} {fd : FuncData} (Fn : Fun K "_law_far" "_law_far" s__law_far f fd) (c__law_draw : Cal P w K mg base 1 "_law_draw" ["_law_deck_here", "_law_most"] (spD K 2 m__law_draw)) (c__law_one : Cal P w K mg base 2 "_law_one" ["_law_deck_here", "_law_items"] (spD K 2 m__law_one)) : FnG P w K mg base 3 f fd ["_law_deck_here", "_law_kind_here", "_law_wide"] (spD K 3 m__law_far) :=
  fnD Fn sc__law_far (by decide) fun cdv A outer s H E hr gd => ⟨_, (pss_cons (ps_set (i := 3) sc__law_far.nd rfl (Or.inl rfl) (pe_lst pa_nil))
 (pss_cons (ps_for PassesOwn.never rfl (pi_range1 (by rfl) T.n_range (pa_cons (pv 2) pa_nil)) (pg_name (i := 4) sc__law_far.nd rfl (Or.inl rfl))
 (pss_cons (ps_asg (pe_tup (pa_cons pe_str (pa_cons pe_int pa_nil))) (pg_tup rfl (pgs_cons (pg_name (i := 5) sc__law_far.nd rfl (Or.inl rfl)) (pgs_cons (pg_name (i := 6) sc__law_far.nd rfl (Or.inr rfl)) pgs_nil))))
 (pss_cons (ps_for PassesOwn.never rfl (pi_range1 (by rfl) T.n_range (pa_cons (pe_callC c__law_draw hr gd (by rfl) (pa_cons (pv 0) (pa_cons pe_int pa_nil))) pa_nil)) (pg_name (i := 7) sc__law_far.nd rfl (Or.inl rfl))
 (pss_cons (ps_setLc (i := 8) (own := [("_law_k", 10)]) (g := (gName 10)) rfl sc__law_far.nd rfl rfl (sw_true rfl rfl rfl (by decide +kernel)) (pi_range1 (by rfl) T.n_range (pa_cons (pe_sub (units1 hr.units) (pv 1) pe_int) pa_nil)) (blkOk_by (own := [("_law_k", 10)]) (N := ["_law_deck_here", "_law_kind_here", "_law_wide", "_law_found", "_law_turn", "_law_word", "_law_state", "_law_more", "_law_some", "_law_at", "_law_k"]) (sc := defScope s__law_far) (by decide +kernel)) (fun _ _ _ _ _ => (pg_name (i := 10) sc__law_far.nd rfl (Or.inl rfl))) (fun _ _ _ _ _ => (pts_one (pt_cmpR op_notN (pe_sub (units1 hr.units) (pe_sub (units1 hr.units) (pe_sub (units1 hr.units) (pv 1) pe_int) (pv 6)) (pv 10)) pe_non (nomark _)))) (fun _ _ _ _ _ => (pv 10)))
 (pss_one (ps_if (pt_cmpR (op_neA hr.units) (pv 8) (pe_lst pa_nil) (nomark _))
 (pss_cons (ps_set (i := 9) sc__law_far.nd rfl (Or.inl rfl) (pe_callC c__law_one hr gd (by rfl) (pa_cons (pv 0) (pa_cons (pv 8) pa_nil))))
 (pss_one (ps_asg (pe_tup (pa_cons (pe_op op_addA (pv 5) (pe_sub (units1 hr.units) pe_str (pv 9))) (pa_cons (pe_sub (units1 hr.units) (pe_sub (units1 hr.units) (pe_sub (units1 hr.units) (pv 1) pe_int) (pv 6)) (pv 9)) pa_nil))) (pg_tup rfl (pgs_cons (pg_name (i := 5) sc__law_far.nd rfl (Or.inl rfl)) (pgs_cons (pg_name (i := 6) sc__law_far.nd rfl (Or.inr rfl)) pgs_nil))))))
 pss_nil))))
 (pss_one (ps_if (pt_truth (pe_sub (units1 hr.units) (pe_sub (units1 hr.units) (pv 1) pe_int) (pv 6)) (by intro _; rfl))
 (pss_one (ps_expr (pe_bm PySem.F.plainAttrs_list PySem.F.slot_list_append PySem.F.type_list_append mt_append (pv 3) (pa_cons (pv 5) pa_nil))))
 pss_nil)))))
 (pss_one (ps_ret (pv 3))))),
 (is_seq (is_own 3 (if_lst ia_nil))
 (is_seq (is_for (ii_range1 (iaw_cons ((im_var 2)).w iaw_nil)) (ig_name 4)
 (is_seq (is_asg (im_tup (ia_cons im_str (ia_cons im_int ia_nil))) (ig_tup (igs_cons (ig_name 5) (igs_cons (ig_name 6) igs_nil))))
 (is_seq (is_for (ii_range1 (iaw_cons ((im_call (ia_cons (im_var 0) (ia_cons im_int ia_nil)) (an_cons (an_cons an_nil)))).w iaw_nil)) (ig_name 7)
 (is_seq (is_asg ((if_comp (vs := [10]) (ii_range1 (iaw_cons ((im_sub ((im_var 1)).w (im_int).w)).w iaw_nil)) (ig_name 10) (it_test (im_op ro_isNot ((im_sub ((im_sub ((im_sub ((im_var 1)).w (im_int).w)).w ((im_var 6)).w)).w ((im_var 10)).w)).w (im_non).w)) (im_var 10) (by decide))).im (ig_name 8))
 (is_if (it_test (im_op ro_ne ((im_var 8)).w ((if_lst ia_nil)).w))
 (is_seq (is_asg (im_call (ia_cons (im_var 0) (ia_cons (im_var 8) ia_nil)) (an_cons (an_cons an_nil))) (ig_name 9))
 (is_asg (im_tup (ia_cons (im_op ro_addA ((im_var 5)).w ((im_sub (im_str).w ((im_var 9)).w)).w) (ia_cons (im_sub ((im_sub ((im_sub ((im_var 1)).w (im_int).w)).w ((im_var 6)).w)).w ((im_var 9)).w) ia_nil))) (ig_tup (igs_cons (ig_name 5) (igs_cons (ig_name 6) igs_nil)))))
 is_next)))
 (is_if (it_truth ((im_sub ((im_sub ((im_var 1)).w (im_int).w)).w ((im_var 6)).w)).w)
 (is_app 3 (im_var 5))
 is_next))))
 (is_frz 3 (is_ret (im_var 3)))))⟩
theorem ok__law_count (T : Txt K mg) {f : Addr} {fd : FuncData} (Fn : Fun K "_law_count" "_law_count" s__law_count f fd)  : FnG P w K mg base 1 f fd ["_law_unit_here", "_law_word"] (spD K 2 m__law_count) :=
  fnD Fn sc__law_count (by decide) fun cdv A outer s H E hr gd => ⟨_, (pss_one (ps_ret (pe_callB (cr_sum rfl) (by rfl) T.n_sum (by decide +kernel) (pa_cons (pe_lc (own := [("_law_letter", 2)]) (g := (gName 2)) rfl sc__law_count.nd (pi_seq (pv 1)) (blkOk_by (own := [("_law_letter", 2)]) (N := ["_law_unit_here", "_law_word", "_law_letter"]) (sc := defScope s__law_count) (by decide +kernel)) (fun _ _ _ _ _ => (pg_name (i := 2) sc__law_count.nd rfl (Or.inl rfl))) (fun _ _ _ _ _ => pts_nil) (fun _ _ _ _ _ => (pe_sub (units1 hr.units) (pv 0) (pe_m1 PySem.F.slot_str_index PySem.F.type_str_index mt_sindex pe_str (pv 2))))) pa_nil)))),
 (is_ret (im_cb rc_sum (iaw_cons ((if_comp (vs := [2]) (ii_seq (im_var 1)) (ig_name 2) it_yes (im_sub ((im_var 0)).w ((im_m1 rm_sindex (im_str).w ((im_var 2)).w)).w) (by decide))).w iaw_nil)))⟩
theorem ok__law_one_cut (T : Txt K mg) {f : Addr} {fd : FuncData} (Fn : Fun K "_law_one_cut" "_law_one_cut" s__law_one_cut f fd) (c__law_count : Cal P w K mg base 1 "_law_count" ["_law_unit_here", "_law_word"] (spD K 2 m__law_count)) : FnG P w K mg base 2 f fd ["_law_units_here", "_law_cut_here", "_law_word"] (spD K 3 m__law_one_cut) :=
  fnD Fn sc__law_one_cut (by decide) fun cdv A outer s H E hr gd => ⟨_, (pss_cons (ps_set (i := 3) sc__law_one_cut.nd rfl (Or.inl rfl) pe_str)
 (pss_cons (ps_for PassesOwn.never rfl (pi_range1 (by rfl) T.n_range (pa_cons (pe_op op_addA (pe_callB call_lenA (by rfl) T.n_len (by decide +kernel) (pa_cons (pv 2) pa_nil)) pe_int) pa_nil)) (pg_name (i := 4) sc__law_one_cut.nd rfl (Or.inl rfl))
 (pss_cons (ps_set (i := 5) sc__law_one_cut.nd rfl (Or.inl rfl) (L2.pe_or (pe_cmpR (op_eqA hr.units) (pv 4) pe_int (nomark _)) (L2.pe_or (pe_cmpR (op_eqA hr.units) (pv 4) (pe_callB call_lenA (by rfl) T.n_len (by decide +kernel) (pa_cons (pv 2) pa_nil)) (nomark _)) (pe_one (pe_notIn (units1 hr.units) (pe_sub (units1 hr.units) (pv 2) (pv 4)) (pe_sub (units1 hr.units) (pv 1) pe_int))))))
 (pss_one (ps_if (PW.pt (pw_and (pt_truth (pv 5) (by intro _; rfl)) (pw_and1 (pt_cmpR op_le (pe_callC c__law_count hr gd (by rfl) (pa_cons (pe_sub (units1 hr.units) (pv 0) (pe_sub (units1 hr.units) (pv 1) pe_int)) (pa_cons (pe_slice sl_any (pv 2) po_none (po_some (pv 4))) pa_nil))) (pe_sub (units1 hr.units) (pv 1) pe_int) (nomark _)))))
 (pss_one (ps_set (i := 3) sc__law_one_cut.nd rfl (Or.inl rfl) (pe_slice sl_any (pv 2) po_none (po_some (pv 4)))))
 pss_nil))))
 (pss_one (ps_ret (pv 3))))),
 (is_seq (is_asg im_str (ig_name 3))
 (is_seq (is_for (ii_range1 (iaw_cons ((im_op ro_addA ((im_cb rc_lenA (iaw_cons ((im_var 2)).w iaw_nil))).w (im_int).w)).w iaw_nil)) (ig_name 4)
 (is_seq (is_asg (im_orV (im_op ro_eq ((im_var 4)).w (im_int).w) (im_orV (im_op ro_eq ((im_var 4)).w ((im_cb rc_lenA (iaw_cons ((im_var 2)).w iaw_nil))).w) (im_notIn ((im_sub ((im_var 2)).w ((im_var 4)).w)).w ((im_sub ((im_var 1)).w (im_int).w)).w))) (ig_name 5))
 (is_if (it_and (it_truth ((im_var 5)).w) (it_test (im_op ro_le ((im_call (ia_cons (im_sub ((im_var 0)).w ((im_sub ((im_var 1)).w (im_int).w)).w) (ia_cons (im_sl rs_any ((im_var 2)).w io_none (io_some ((im_var 4)).w)) ia_nil)) (an_cons (an_cons an_nil)))).w ((im_sub ((im_var 1)).w (im_int).w)).w)))
 (is_asg (im_sl rs_any ((im_var 2)).w io_none (io_some ((im_var 4)).w)) (ig_name 3))
 is_next)))
 (is_ret (im_var 3))))⟩
theorem ok__law_pieces (T : Txt K mg) {f : Addr} {fd : FuncData} (Fn : Fun K "_law_pieces" "_law_pieces" s__law_pieces f fd) (c__law_one_cut : Cal P w K mg base 2 "_law_one_cut" ["_law_units_here", "_law_cut_here", "_law_word"] (spD K 3 m__law_one_cut)) : FnG P w K mg base 3 f fd ["_law_units_here", "_law_cut_here", "_law_word"] (spD K 3 m__law_pieces) :=
  fnD Fn sc__law_pieces (by decide) fun cdv A outer s H E hr gd => ⟨_, (pss_cons (ps_set (i := 3) sc__law_pieces.nd rfl (Or.inl rfl) (pe_lst pa_nil))
 (pss_cons (ps_for PassesOwn.never rfl (pi_range1 (by rfl) T.n_range (pa_cons (pe_callB call_lenA (by rfl) T.n_len (by decide +kernel) (pa_cons (pv 2) pa_nil)) pa_nil)) (pg_name (i := 4) sc__law_pieces.nd rfl (Or.inl rfl))
 (pss_one (ps_if (pt_cmpR (op_neA hr.units) (pv 2) pe_str (nomark _))
 (pss_cons (ps_set (i := 5) sc__law_pieces.nd rfl (Or.inl rfl) (pe_callC c__law_one_cut hr gd (by rfl) (pa_cons (pv 0) (pa_cons (pv 1) (pa_cons (pv 2) pa_nil)))))
 (pss_cons (ps_if (pt_cmpR (op_eqA hr.units) (pv 5) pe_str (nomark _))
 (pss_one (ps_ret pe_non))
 pss_nil)
 (pss_cons (ps_expr (pe_bm PySem.F.plainAttrs_list PySem.F.slot_list_append PySem.F.type_list_append mt_append (pv 3) (pa_cons (pv 5) pa_nil)))
 (pss_one (ps_set (i := 2) sc__law_pieces.nd rfl (Or.inl rfl) (pe_slice sl_any (pv 2) (po_some (pe_callB call_lenA (by rfl) T.n_len (by decide +kernel) (pa_cons (pv 5) pa_nil))) po_none))))))
 pss_nil)))
 (pss_one (ps_ret (pv 3))))),
 (is_seq (is_own 3 (if_lst ia_nil))
 (is_seq (is_for (ii_range1 (iaw_cons ((im_cb rc_lenA (iaw_cons ((im_var 2)).w iaw_nil))).w iaw_nil)) (ig_name 4)
 (is_if (it_test (im_op ro_ne ((im_var 2)).w (im_str).w))
 (is_seq (is_asg (im_call (ia_cons (im_var 0) (ia_cons (im_var 1) (ia_cons (im_var 2) ia_nil))) (an_cons (an_cons (an_cons an_nil)))) (ig_name 5))
 (is_seq (is_if (it_test (im_op ro_eq ((im_var 5)).w (im_str).w))
 (is_ret im_non)
 is_next)
 (is_seq (is_app 3 (im_var 5))
 (is_asg (im_sl rs_any ((im_var 2)).w (io_some ((im_cb rc_lenA (iaw_cons ((im_var 5)).w iaw_nil))).w) io_none) (ig_name 2)))))
 is_next))
 (is_frz 3 (is_ret (im_var 3)))))⟩
theorem ok_law (T : Txt K mg) {f : Addr} {fd : FuncData} (Fn : Fun K "law" "law" s_law f fd) (c__law_deck : Cal P w K mg base 1 "_law_deck" ["_law_script"] (spDeck K)) (c__law_some_kind : Cal P w K mg base 4 "_law_some_kind" ["_law_deck_here", "_law_most"] (spD K 2 m__law_some_kind)) (c__law_units : Cal P w K mg base 4 "_law_units" ["_law_deck_here", "_law_letters"] (spD K 2 m__law_units)) (c__law_one : Cal P w K mg base 2 "_law_one" ["_law_deck_here", "_law_items"] (spD K 2 m__law_one)) (c__law_cut : Cal P w K mg base 2 "_law_cut" ["_law_deck_here", "_law_letters", "_law_units_here", "_law_most"] (spD K 4 m__law_cut)) (c_stuck : Cal P w K mg base 2 "stuck" ["kind", "units", "cut"] (spD K 3 m_stuck)) (c__law_is_of : Cal P w K mg base 1 "_law_is_of" ["_law_kind_here", "_law_word"] (spD K 2 m__law_is_of)) (c__law_pieces : Cal P w K mg base 3 "_law_pieces" ["_law_units_here", "_law_cut_here", "_law_word"] (spD K 3 m__law_pieces)) (c__law_all : Cal P w K mg base 2 "_law_all" ["_law_kind_here", "_law_most"] (spD K 2 m__law_all)) (c__law_far : Cal P w K mg base 3 "_law_far" ["_law_deck_here", "_law_kind_here", "_law_wide"] (spD K 3 m__law_far)) (hb : ∀ ns : List Int, ns.length ≤ 63 → ∃ s1, b_law (env0 8) ⟨ns.map absI, 0, []⟩ = some (.rt (.bl true), s1)) : FnG P w K mg base 5 f fd ["_law_script"] (spLaw K) :=
  fn_law Fn sc_law (by decide) rfl hb fun cdv A outer s H E hr gd => ⟨_, pss_cons (ps_set (i := 1) sc_law.nd rfl (Or.inl rfl) (pe_callC c__law_deck hr gd (by rfl) (pa_cons (pv 0) pa_nil)))
 (pss_cons (ps_for PassesOwn.never rfl (pi_range1 (by rfl) T.n_range (pa_cons pe_int pa_nil)) (pg_name (i := 2) sc_law.nd rfl (Or.inl rfl))
 (pss_cons (ps_set (i := 3) sc_law.nd rfl (Or.inl rfl) (pe_callC c__law_some_kind hr gd (by rfl) (pa_cons (pv 1) (pa_cons pe_int pa_nil))))
 (pss_cons (ps_set (i := 4) sc_law.nd rfl (Or.inl rfl) (pe_callC c__law_units hr gd (by rfl) (pa_cons (pv 1) (pa_cons (pe_sub (units1 hr.units) (pv 3) pe_int) pa_nil))))
 (pss_cons (ps_set (i := 5) sc_law.nd rfl (Or.inl rfl) (pe_callC c__law_cut hr gd (by rfl) (pa_cons (pv 1) (pa_cons (pe_sub (units1 hr.units) (pv 3) pe_int) (pa_cons (pv 4) (pa_cons (pe_callC c__law_one hr gd (by rfl) (pa_cons (pv 1) (pa_cons (pe_lst (pa_cons pe_int (pa_cons pe_int (pa_cons pe_int pa_nil)))) pa_nil))) pa_nil))))))
 (pss_cons (ps_set (i := 6) sc_law.nd rfl (Or.inl rfl) (pe_callC c_stuck hr gd (by rfl) (pa_cons (pv 3) (pa_cons (pv 4) (pa_cons (pv 5) pa_nil)))))
 (pss_cons (ps_if (PW.pt (pw_and (pt_cmpR op_notN (pv 6) pe_non (nomark _)) (pw_and1 (PW.pt (pw_or (pt_not (pt_truth (pe_callC c__law_is_of hr gd (by rfl) (pa_cons (pv 3) (pa_cons (pv 6) pa_nil))) (by intro _; rfl))) (pw_or1 (pt_cmpR op_notN (pe_callC c__law_pieces hr gd (by rfl) (pa_cons (pv 4) (pa_cons (pv 5) (pa_cons (pv 6) pa_nil)))) pe_non (nomark _))))))))
 (pss_one (ps_ret pe_bl))
 pss_nil)
 (pss_one (ps_for PassesOwn.never rfl (pi_seq (pe_op op_addA (pe_callC c__law_all hr gd (by rfl) (pa_cons (pv 3) (pa_cons (pe_sub (units1 hr.units) (pe_lst (pa_cons pe_int (pa_cons pe_int (pa_cons pe_int (pa_cons pe_int (pa_cons pe_int pa_nil)))))) (pe_sub (units1 hr.units) (pv 3) pe_int)) pa_nil))) (pe_callC c__law_far hr gd (by rfl) (pa_cons (pv 1) (pa_cons (pv 3) (pa_cons pe_int pa_nil)))))) (pg_name (i := 7) sc_law.nd rfl (Or.inl rfl))
 (pss_one (ps_if (PW.pt (pw_and (pt_cmpR op_isN (pe_callC c__law_pieces hr gd (by rfl) (pa_cons (pv 4) (pa_cons (pv 5) (pa_cons (pv 7) pa_nil)))) pe_non (nomark _)) (pw_and1 (PW.pt (pw_or (pt_cmpR op_isN (pv 6) pe_non (nomark _)) (pw_or1 (pt_cmpR (op_ltA hr.units) (pe_tup (pa_cons (pe_callB call_lenA (by rfl) T.n_len (by decide +kernel) (pa_cons (pv 7) pa_nil)) (pa_cons (pv 7) pa_nil))) (pe_tup (pa_cons (pe_callB call_lenA (by rfl) T.n_len (by decide +kernel) (pa_cons (pv 6) pa_nil)) (pa_cons (pv 6) pa_nil))) (nomark _))))))))
 (pss_one (ps_ret pe_bl))
 pss_nil))))))))))
 (pss_one (ps_ret pe_bl))),
 (is_seq (is_for (ii_range1 (iaw_cons (im_int).w iaw_nil)) (ig_name 2)
 (is_seq (is_asg (im_call (ia_cons (im_var 1) (ia_cons im_int ia_nil)) (an_cons (an_cons an_nil))) (ig_name 3))
 (is_seq (is_asg (im_call (ia_cons (im_var 1) (ia_cons (im_sub ((im_var 3)).w (im_int).w) ia_nil)) (an_cons (an_cons an_nil))) (ig_name 4))
 (is_seq (is_asg (im_call (ia_cons (im_var 1) (ia_cons (im_sub ((im_var 3)).w (im_int).w) (ia_cons (im_var 4) (ia_cons (im_call (ia_cons (im_var 1) (ia_cons ((if_lst (ia_cons im_int (ia_cons im_int (ia_cons im_int ia_nil))))).im ia_nil)) (an_cons (an_cons an_nil))) ia_nil)))) (an_cons (an_cons (an_cons (an_cons an_nil))))) (ig_name 5))
 (is_seq (is_asg (im_call (ia_cons (im_var 3) (ia_cons (im_var 4) (ia_cons (im_var 5) ia_nil))) (an_cons (an_cons (an_cons an_nil)))) (ig_name 6))
 (is_seq (is_if (it_and (it_test (im_op ro_isNot ((im_var 6)).w (im_non).w)) (it_or (it_not (it_truth ((im_call (ia_cons (im_var 3) (ia_cons (im_var 6) ia_nil)) (an_cons (an_cons an_nil)))).w)) (it_test (im_op ro_isNot ((im_call (ia_cons (im_var 4) (ia_cons (im_var 5) (ia_cons (im_var 6) ia_nil))) (an_cons (an_cons (an_cons an_nil))))).w (im_non).w))))
 (is_ret im_bl)
 is_next)
 (is_for (ii_seq (im_op ro_addA ((im_call (ia_cons (im_var 3) (ia_cons (im_sub ((if_lst (ia_cons im_int (ia_cons im_int (ia_cons im_int (ia_cons im_int (ia_cons im_int ia_nil))))))).w ((im_sub ((im_var 3)).w (im_int).w)).w) ia_nil)) (an_cons (an_cons an_nil)))).w ((im_call (ia_cons (im_var 1) (ia_cons (im_var 3) (ia_cons im_int ia_nil))) (an_cons (an_cons (an_cons an_nil))))).w)) (ig_name 7)
 (is_if (it_and (it_test (im_op ro_is ((im_call (ia_cons (im_var 4) (ia_cons (im_var 5) (ia_cons (im_var 7) ia_nil))) (an_cons (an_cons (an_cons an_nil))))).w (im_non).w)) (it_or (it_test (im_op ro_is ((im_var 6)).w (im_non).w)) (it_test (im_op ro_ltA ((im_tup (ia_cons (im_cb rc_lenA (iaw_cons ((im_var 7)).w iaw_nil)) (ia_cons (im_var 7) ia_nil)))).w ((im_tup (ia_cons (im_cb rc_lenA (iaw_cons ((im_var 6)).w iaw_nil)) (ia_cons (im_var 6) ia_nil)))).w))))
 (is_ret im_bl)
 is_next))))))))
 (is_ret im_bl))⟩
end
/-! ### what the top has written -/
theorem all_mk {l : PySem.W.OpenLaw} {w : World} {K : Fg} {h : Heap} {mg : Str → Option Value} {fa : Addr} (hb : ∀ ns : List Int, ns.length ≤ 63 → ∃ s1, b_law (env0 8) ⟨ns.map absI, 0, []⟩ = some (.rt (.bl true), s1)) (X : K.In h) (G : h.Ns mainGlobals mg) (hfa : mg "law" = some (.ref fa))
    {f__law_deck : Addr} {odx0 anx0 : Option Addr} {slx0 : Array (Option Value)} {ocx0 kVx0 dcx0 pmx0 cdx0 ctx0 : Value} (ax0 : PySem.W.nsIn K mainGlobals "_law_deck" = some (some (.ref f__law_deck))) (lx0 : K.lookup f__law_deck = some ⟨ocx0, odx0, .func (PySem.W.fnOf "_law_deck" "_law_deck" (defArgs s__law_deck) (defBody s__law_deck) (defScope s__law_deck) .none kVx0 dcx0 pmx0 anx0 cdx0 ctx0), slx0⟩) (ccx0 : PySem.W.codeIn K cdx0 "_law_deck" = true) (kx0 : PySem.W.keepIn K (.ref f__law_deck) = true)
    {f__law_draw : Addr} {odx1 anx1 : Option Addr} {slx1 : Array (Option Value)} {ocx1 kVx1 dcx1 pmx1 cdx1 ctx1 : Value} (ax1 : PySem.W.nsIn K mainGlobals "_law_draw" = some (some (.ref f__law_draw))) (lx1 : K.lookup f__law_draw = some ⟨ocx1, odx1, .func (PySem.W.fnOf "_law_draw" "_law_draw" (defArgs s__law_draw) (defBody s__law_draw) (defScope s__law_draw) .none kVx1 dcx1 pmx1 anx1 cdx1 ctx1), slx1⟩) (ccx1 : PySem.W.codeIn K cdx1 "_law_draw" = true) (kx1 : PySem.W.keepIn K (.ref f__law_draw) = true)
    {f__law_one : Addr} {odx2 anx2 : Option Addr} {slx2 : Array (Option Value)} {ocx2 kVx2 dcx2 pmx2 cdx2 ctx2 : Value} (ax2 : PySem.W.nsIn K mainGlobals "_law_one" = some (some (.ref f__law_one))) (lx2 : K.lookup f__law_one = some ⟨ocx2, odx2, .func (PySem.W.fnOf "_law_one" "_law_one" (defArgs s__law_one) (defBody s__law_one) (defScope s__law_one) .none kVx2 dcx2 pmx2 anx2 cdx2 ctx2), slx2⟩) (ccx2 : PySem.W.codeIn K cdx2 "_law_one" = true) (kx2 : PySem.W.keepIn K (.ref f__law_one) = true)
    {f__law_long : Addr} {odx3 anx3 : Option Addr} {slx3 : Array (Option Value)} {ocx3 kVx3 dcx3 pmx3 cdx3 ctx3 : Value} (ax3 : PySem.W.nsIn K mainGlobals "_law_long" = some (some (.ref f__law_long))) (lx3 : K.lookup f__law_long = some ⟨ocx3, odx3, .func (PySem.W.fnOf "_law_long" "_law_long" (defArgs s__law_long) (defBody s__law_long) (defScope s__law_long) .none kVx3 dcx3 pmx3 anx3 cdx3 ctx3), slx3⟩) (ccx3 : PySem.W.codeIn K cdx3 "_law_long" = true) (kx3 : PySem.W.keepIn K (.ref f__law_long) = true)
    {f__law_kind : Addr} {odx4 anx4 : Option Addr} {slx4 : Array (Option Value)} {ocx4 kVx4 dcx4 pmx4 cdx4 ctx4 : Value} (ax4 : PySem.W.nsIn K mainGlobals "_law_kind" = some (some (.ref f__law_kind))) (lx4 : K.lookup f__law_kind = some ⟨ocx4, odx4, .func (PySem.W.fnOf "_law_kind" "_law_kind" (defArgs s__law_kind) (defBody s__law_kind) (defScope s__law_kind) .none kVx4 dcx4 pmx4 anx4 cdx4 ctx4), slx4⟩) (ccx4 : PySem.W.codeIn K cdx4 "_law_kind" = true) (kx4 : PySem.W.keepIn K (.ref f__law_kind) = true)
    {f__law_some_kind : Addr} {odx5 anx5 : Option Addr} {slx5 : Array (Option Value)} {ocx5 kVx5 dcx5 pmx5 cdx5 ctx5 : Value} (ax5 : PySem.W.nsIn K mainGlobals "_law_some_kind" = some (some (.ref f__law_some_kind))) (lx5 : K.lookup f__law_some_kind = some ⟨ocx5, odx5, .func (PySem.W.fnOf "_law_some_kind" "_law_some_kind" (defArgs s__law_some_kind) (defBody s__law_some_kind) (defScope s__law_some_kind) .none kVx5 dcx5 pmx5 anx5 cdx5 ctx5), slx5⟩) (ccx5 : PySem.W.codeIn K cdx5 "_law_some_kind" = true) (kx5 : PySem.W.keepIn K (.ref f__law_some_kind) = true)
    {f__law_unit : Addr} {odx6 anx6 : Option Addr} {slx6 : Array (Option Value)} {ocx6 kVx6 dcx6 pmx6 cdx6 ctx6 : Value} (ax6 : PySem.W.nsIn K mainGlobals "_law_unit" = some (some (.ref f__law_unit))) (lx6 : K.lookup f__law_unit = some ⟨ocx6, odx6, .func (PySem.W.fnOf "_law_unit" "_law_unit" (defArgs s__law_unit) (defBody s__law_unit) (defScope s__law_unit) .none kVx6 dcx6 pmx6 anx6 cdx6 ctx6), slx6⟩) (ccx6 : PySem.W.codeIn K cdx6 "_law_unit" = true) (kx6 : PySem.W.keepIn K (.ref f__law_unit) = true)
    {f__law_units : Addr} {odx7 anx7 : Option Addr} {slx7 : Array (Option Value)} {ocx7 kVx7 dcx7 pmx7 cdx7 ctx7 : Value} (ax7 : PySem.W.nsIn K mainGlobals "_law_units" = some (some (.ref f__law_units))) (lx7 : K.lookup f__law_units = some ⟨ocx7, odx7, .func (PySem.W.fnOf "_law_units" "_law_units" (defArgs s__law_units) (defBody s__law_units) (defScope s__law_units) .none kVx7 dcx7 pmx7 anx7 cdx7 ctx7), slx7⟩) (ccx7 : PySem.W.codeIn K cdx7 "_law_units" = true) (kx7 : PySem.W.keepIn K (.ref f__law_units) = true)
    {f__law_cut : Addr} {odx8 anx8 : Option Addr} {slx8 : Array (Option Value)} {ocx8 kVx8 dcx8 pmx8 cdx8 ctx8 : Value} (ax8 : PySem.W.nsIn K mainGlobals "_law_cut" = some (some (.ref f__law_cut))) (lx8 : K.lookup f__law_cut = some ⟨ocx8, odx8, .func (PySem.W.fnOf "_law_cut" "_law_cut" (defArgs s__law_cut) (defBody s__law_cut) (defScope s__law_cut) .none kVx8 dcx8 pmx8 anx8 cdx8 ctx8), slx8⟩) (ccx8 : PySem.W.codeIn K cdx8 "_law_cut" = true) (kx8 : PySem.W.keepIn K (.ref f__law_cut) = true)
    {f_moves_of : Addr} {odx9 anx9 : Option Addr} {slx9 : Array (Option Value)} {ocx9 kVx9 dcx9 pmx9 cdx9 ctx9 : Value} (ax9 : PySem.W.nsIn K mainGlobals "moves_of" = some (some (.ref f_moves_of))) (lx9 : K.lookup f_moves_of = some ⟨ocx9, odx9, .func (PySem.W.fnOf "moves_of" "moves_of" (defArgs s_moves_of) (defBody s_moves_of) (defScope s_moves_of) .none kVx9 dcx9 pmx9 anx9 cdx9 ctx9), slx9⟩) (ccx9 : PySem.W.codeIn K cdx9 "moves_of" = true) (kx9 : PySem.W.keepIn K (.ref f_moves_of) = true)
    {f_next_rest : Addr} {odx10 anx10 : Option Addr} {slx10 : Array (Option Value)} {ocx10 kVx10 dcx10 pmx10 cdx10 ctx10 : Value} (ax10 : PySem.W.nsIn K mainGlobals "next_rest" = some (some (.ref f_next_rest))) (lx10 : K.lookup f_next_rest = some ⟨ocx10, odx10, .func (PySem.W.fnOf "next_rest" "next_rest" (defArgs s_next_rest) (defBody s_next_rest) (defScope s_next_rest) .none kVx10 dcx10 pmx10 anx10 cdx10 ctx10), slx10⟩) (ccx10 : PySem.W.codeIn K cdx10 "next_rest" = true) (kx10 : PySem.W.keepIn K (.ref f_next_rest) = true)
    {f_stuck : Addr} {odx11 anx11 : Option Addr} {slx11 : Array (Option Value)} {ocx11 kVx11 dcx11 pmx11 cdx11 ctx11 : Value} (ax11 : PySem.W.nsIn K mainGlobals "stuck" = some (some (.ref f_stuck))) (lx11 : K.lookup f_stuck = some ⟨ocx11, odx11, .func (PySem.W.fnOf "stuck" "stuck" (defArgs s_stuck) (defBody s_stuck) (defScope s_stuck) .none kVx11 dcx11 pmx11 anx11 cdx11 ctx11), slx11⟩) (ccx11 : PySem.W.codeIn K cdx11 "stuck" = true) (kx11 : PySem.W.keepIn K (.ref f_stuck) = true)
    {f__law_words : Addr} {odx12 anx12 : Option Addr} {slx12 : Array (Option Value)} {ocx12 kVx12 dcx12 pmx12 cdx12 ctx12 : Value} (ax12 : PySem.W.nsIn K mainGlobals "_law_words" = some (some (.ref f__law_words))) (lx12 : K.lookup f__law_words = some ⟨ocx12, odx12, .func (PySem.W.fnOf "_law_words" "_law_words" (defArgs s__law_words) (defBody s__law_words) (defScope s__law_words) .none kVx12 dcx12 pmx12 anx12 cdx12 ctx12), slx12⟩) (ccx12 : PySem.W.codeIn K cdx12 "_law_words" = true) (kx12 : PySem.W.keepIn K (.ref f__law_words) = true)
    {f__law_is_of : Addr} {odx13 anx13 : Option Addr} {slx13 : Array (Option Value)} {ocx13 kVx13 dcx13 pmx13 cdx13 ctx13 : Value} (ax13 : PySem.W.nsIn K mainGlobals "_law_is_of" = some (some (.ref f__law_is_of))) (lx13 : K.lookup f__law_is_of = some ⟨ocx13, odx13, .func (PySem.W.fnOf "_law_is_of" "_law_is_of" (defArgs s__law_is_of) (defBody s__law_is_of) (defScope s__law_is_of) .none kVx13 dcx13 pmx13 anx13 cdx13 ctx13), slx13⟩) (ccx13 : PySem.W.codeIn K cdx13 "_law_is_of" = true) (kx13 : PySem.W.keepIn K (.ref f__law_is_of) = true)
    {f__law_all : Addr} {odx14 anx14 : Option Addr} {slx14 : Array (Option Value)} {ocx14 kVx14 dcx14 pmx14 cdx14 ctx14 : Value} (ax14 : PySem.W.nsIn K mainGlobals "_law_all" = some (some (.ref f__law_all))) (lx14 : K.lookup f__law_all = some ⟨ocx14, odx14, .func (PySem.W.fnOf "_law_all" "_law_all" (defArgs s__law_all) (defBody s__law_all) (defScope s__law_all) .none kVx14 dcx14 pmx14 anx14 cdx14 ctx14), slx14⟩) (ccx14 : PySem.W.codeIn K cdx14 "_law_all" = true) (kx14 : PySem.W.keepIn K (.ref f__law_all) = true)
    {f__law_far : Addr} {odx15 anx15 : Option Addr} {slx15 : Array (Option Value)} {ocx15 kVx15 dcx15 pmx15 cdx15 ctx15 : Value} (ax15 : PySem.W.nsIn K mainGlobals "_law_far" = some (some (.ref f__law_far))) (lx15 : K.lookup f__law_far = some ⟨ocx15, odx15, .func (PySem.W.fnOf "_law_far" "_law_far" (defArgs s__law_far) (defBody s__law_far) (defScope s__law_far) .none kVx15 dcx15 pmx15 anx15 cdx15 ctx15), slx15⟩) (ccx15 : PySem.W.codeIn K cdx15 "_law_far" = true) (kx15 : PySem.W.keepIn K (.ref f__law_far) = true)
    {f__law_count : Addr} {odx16 anx16 : Option Addr} {slx16 : Array (Option Value)} {ocx16 kVx16 dcx16 pmx16 cdx16 ctx16 : Value} (ax16 : PySem.W.nsIn K mainGlobals "_law_count" = some (some (.ref f__law_count))) (lx16 : K.lookup f__law_count = some ⟨ocx16, odx16, .func (PySem.W.fnOf "_law_count" "_law_count" (defArgs s__law_count) (defBody s__law_count) (defScope s__law_count) .none kVx16 dcx16 pmx16 anx16 cdx16 ctx16), slx16⟩) (ccx16 : PySem.W.codeIn K cdx16 "_law_count" = true) (kx16 : PySem.W.keepIn K (.ref f__law_count) = true)
    {f__law_one_cut : Addr} {odx17 anx17 : Option Addr} {slx17 : Array (Option Value)} {ocx17 kVx17 dcx17 pmx17 cdx17 ctx17 : Value} (ax17 : PySem.W.nsIn K mainGlobals "_law_one_cut" = some (some (.ref f__law_one_cut))) (lx17 : K.lookup f__law_one_cut = some ⟨ocx17, odx17, .func (PySem.W.fnOf "_law_one_cut" "_law_one_cut" (defArgs s__law_one_cut) (defBody s__law_one_cut) (defScope s__law_one_cut) .none kVx17 dcx17 pmx17 anx17 cdx17 ctx17), slx17⟩) (ccx17 : PySem.W.codeIn K cdx17 "_law_one_cut" = true) (kx17 : PySem.W.keepIn K (.ref f__law_one_cut) = true)
    {f__law_pieces : Addr} {odx18 anx18 : Option Addr} {slx18 : Array (Option Value)} {ocx18 kVx18 dcx18 pmx18 cdx18 ctx18 : Value} (ax18 : PySem.W.nsIn K mainGlobals "_law_pieces" = some (some (.ref f__law_pieces))) (lx18 : K.lookup f__law_pieces = some ⟨ocx18, odx18, .func (PySem.W.fnOf "_law_pieces" "_law_pieces" (defArgs s__law_pieces) (defBody s__law_pieces) (defScope s__law_pieces) .none kVx18 dcx18 pmx18 anx18 cdx18 ctx18), slx18⟩) (ccx18 : PySem.W.codeIn K cdx18 "_law_pieces" = true) (kx18 : PySem.W.keepIn K (.ref f__law_pieces) = true)
    {f_law : Addr} {odx19 anx19 : Option Addr} {slx19 : Array (Option Value)} {ocx19 kVx19 dcx19 pmx19 cdx19 ctx19 : Value} (ax19 : PySem.W.nsIn K mainGlobals "law" = some (some (.ref f_law))) (lx19 : K.lookup f_law = some ⟨ocx19, odx19, .func (PySem.W.fnOf "law" "law" (defArgs s_law) (defBody s_law) (defScope s_law) .none kVx19 dcx19 pmx19 anx19 cdx19 ctx19), slx19⟩) (ccx19 : PySem.W.codeIn K cdx19 "law" = true) (kx19 : PySem.W.keepIn K (.ref f_law) = true)
    (z_n_len : PySem.W.nsIn K mainGlobals "len" = some none)
    (z_n_range : PySem.W.nsIn K mainGlobals "range" = some none)
    (z_n_tuple : PySem.W.nsIn K mainGlobals "tuple" = some none)
    (z_n_int : PySem.W.nsIn K mainGlobals "int" = some none)
    {t_c_LETTERS : Tok} (z_c_LETTERS : PySem.W.nsIn K mainGlobals "LETTERS" = some (some (.str "abcd" t_c_LETTERS)))
    (z_n_max : PySem.W.nsIn K mainGlobals "max" = some none)
    {a_c_FRESH : Addr} {n_c_FRESH : Nat} {od_c_FRESH : Option Addr} {sl_c_FRESH : Array (Option Value)} {t0_c_FRESH t2_c_FRESH : Tok} (z_c_FRESH : PySem.W.nsIn K mainGlobals "FRESH" = some (some (.ref a_c_FRESH))) (y_c_FRESH : K.lookup a_c_FRESH = some ⟨.type "tuple", od_c_FRESH, .seq #[.int 0 t0_c_FRESH, .bool false, .int (-1) t2_c_FRESH] n_c_FRESH, sl_c_FRESH⟩)
    (z_n_sum : PySem.W.nsIn K mainGlobals "sum" = some none)
    (z_n_abs : PySem.W.nsIn K mainGlobals "abs" = some none) :
    ∃ fd : FuncData, (∀ (s : Shared) (v : Value), BindsTo s fd ⟨[v], []⟩ [("_law_script", v)]) ∧ ∀ base : Heap, K.In base → base.Ns mainGlobals mg → FnG l.prog w K mg base 5 fa fd ["_law_script"] (spLaw K) := by
  have e := hfa.symm.trans (PySem.W.mg_of X G ax19)
  cases e
  have T : Txt K mg := ⟨PySem.W.mg_none_of X G z_n_len, PySem.W.mg_none_of X G z_n_range, PySem.W.mg_none_of X G z_n_tuple, PySem.W.mg_none_of X G z_n_int, ⟨_, PySem.W.mg_of X G z_c_LETTERS⟩, PySem.W.mg_none_of X G z_n_max, gtup_of (PySem.W.mg_of X G z_c_FRESH) y_c_FRESH rfl rfl (by simp) ⟨[.int 0, .bl false, .int (-1)], rfl, rfl, rfl⟩, PySem.W.mg_none_of X G z_n_sum, PySem.W.mg_none_of X G z_n_abs⟩
  refine ⟨PySem.W.fnOf "law" "law" (defArgs s_law) (defBody s_law) (defScope s_law) .none kVx19 dcx19 pmx19 anx19 cdx19 ctx19, fun s v => .of_eq rfl, fun base _ _ => ?_⟩
  have F__law_deck := fun_mk (st := s__law_deck) lx0 ccx0 kx0
  have b__law_deck := F__law_deck.binds (ps := ["_law_script"]) fun _ _ _ _ _ _ us hl => match us, hl with | [_], _ => rfl
  have C__law_deck : Cal l.prog w K mg base 1 "_law_deck" ["_law_script"] (spDeck K) := ⟨_, _, ok__law_deck T F__law_deck , PySem.W.mg_of X G ax0, F__law_deck.kp, b__law_deck⟩
  have F__law_draw := fun_mk (st := s__law_draw) lx1 ccx1 kx1
  have b__law_draw := F__law_draw.binds (ps := ["_law_deck_here", "_law_most"]) fun _ _ _ _ _ _ us hl => match us, hl with | [_, _], _ => rfl
  have C__law_draw : Cal l.prog w K mg base 1 "_law_draw" ["_law_deck_here", "_law_most"] (spD K 2 m__law_draw) := ⟨_, _, ok__law_draw T F__law_draw , PySem.W.mg_of X G ax1, F__law_draw.kp, b__law_draw⟩
  have F__law_one := fun_mk (st := s__law_one) lx2 ccx2 kx2
  have b__law_one := F__law_one.binds (ps := ["_law_deck_here", "_law_items"]) fun _ _ _ _ _ _ us hl => match us, hl with | [_, _], _ => rfl
  have C__law_one : Cal l.prog w K mg base 2 "_law_one" ["_law_deck_here", "_law_items"] (spD K 2 m__law_one) := ⟨_, _, ok__law_one T F__law_one C__law_draw, PySem.W.mg_of X G ax2, F__law_one.kp, b__law_one⟩
  have F__law_long := fun_mk (st := s__law_long) lx3 ccx3 kx3
  have b__law_long := F__law_long.binds (ps := ["_law_deck_here", "_law_letters"]) fun _ _ _ _ _ _ us hl => match us, hl with | [_, _], _ => rfl
  have C__law_long : Cal l.prog w K mg base 3 "_law_long" ["_law_deck_here", "_law_letters"] (spD K 2 m__law_long) := ⟨_, _, ok__law_long T F__law_long C__law_draw C__law_one, PySem.W.mg_of X G ax3, F__law_long.kp, b__law_long⟩
  have F__law_kind := fun_mk (st := s__law_kind) lx4 ccx4 kx4
  have b__law_kind := F__law_kind.binds (ps := ["_law_deck_here", "_law_most", "_law_states"]) fun _ _ _ _ _ _ us hl => match us, hl with | [_, _, _], _ => rfl
  have C__law_kind : Cal l.prog w K mg base 3 "_law_kind" ["_law_deck_here", "_law_most", "_law_states"] (spD K 3 m__law_kind) := ⟨_, _, ok__law_kind T F__law_kind C__law_draw C__law_one, PySem.W.mg_of X G ax4, F__law_kind.kp, b__law_kind⟩
  have F__law_some_kind := fun_mk (st := s__law_some_kind) lx5 ccx5 kx5
  have b__law_some_kind := F__law_some_kind.binds (ps := ["_law_deck_here", "_law_most"]) fun _ _ _ _ _ _ us hl => match us, hl with | [_, _], _ => rfl
  have C__law_some_kind : Cal l.prog w K mg base 4 "_law_some_kind" ["_law_deck_here", "_law_most"] (spD K 2 m__law_some_kind) := ⟨_, _, ok__law_some_kind T F__law_some_kind C__law_draw C__law_kind C__law_long, PySem.W.mg_of X G ax5, F__law_some_kind.kp, b__law_some_kind⟩
  have F__law_unit := fun_mk (st := s__law_unit) lx6 ccx6 kx6
  have b__law_unit := F__law_unit.binds (ps := ["_law_deck_here", "_law_letters", "_law_least"]) fun _ _ _ _ _ _ us hl => match us, hl with | [_, _, _], _ => rfl
  have C__law_unit : Cal l.prog w K mg base 3 "_law_unit" ["_law_deck_here", "_law_letters", "_law_least"] (spD K 3 m__law_unit) := ⟨_, _, ok__law_unit T F__law_unit C__law_draw C__law_one, PySem.W.mg_of X G ax6, F__law_unit.kp, b__law_unit⟩
  have F__law_units := fun_mk (st := s__law_units) lx7 ccx7 kx7
  have b__law_units := F__law_units.binds (ps := ["_law_deck_here", "_law_letters"]) fun _ _ _ _ _ _ us hl => match us, hl with | [_, _], _ => rfl
  have C__law_units : Cal l.prog w K mg base 4 "_law_units" ["_law_deck_here", "_law_letters"] (spD K 2 m__law_units) := ⟨_, _, ok__law_units T F__law_units C__law_draw C__law_unit, PySem.W.mg_of X G ax7, F__law_units.kp, b__law_units⟩
  have F__law_cut := fun_mk (st := s__law_cut) lx8 ccx8 kx8
  have b__law_cut := F__law_cut.binds (ps := ["_law_deck_here", "_law_letters", "_law_units_here", "_law_most"]) fun _ _ _ _ _ _ us hl => match us, hl with | [_, _, _, _], _ => rfl
  have C__law_cut : Cal l.prog w K mg base 2 "_law_cut" ["_law_deck_here", "_law_letters", "_law_units_here", "_law_most"] (spD K 4 m__law_cut) := ⟨_, _, ok__law_cut T F__law_cut C__law_draw, PySem.W.mg_of X G ax8, F__law_cut.kp, b__law_cut⟩
  have F_moves_of := fun_mk (st := s_moves_of) lx9 ccx9 kx9
  have b_moves_of := F_moves_of.binds (ps := ["kind", "state"]) fun _ _ _ _ _ _ us hl => match us, hl with | [_, _], _ => rfl
  have C_moves_of : Cal l.prog w K mg base 1 "moves_of" ["kind", "state"] (spD K 2 m_moves_of) := ⟨_, _, ok_moves_of T F_moves_of , PySem.W.mg_of X G ax9, F_moves_of.kp, b_moves_of⟩
  have F_next_rest := fun_mk (st := s_next_rest) lx10 ccx10 kx10
  have b_next_rest := F_next_rest.binds (ps := ["rest", "cut", "letter", "count"]) fun _ _ _ _ _ _ us hl => match us, hl with | [_, _, _, _], _ => rfl
  have C_next_rest : Cal l.prog w K mg base 1 "next_rest" ["rest", "cut", "letter", "count"] (spD K 4 m_next_rest) := ⟨_, _, ok_next_rest T F_next_rest , PySem.W.mg_of X G ax10, F_next_rest.kp, b_next_rest⟩
  have F_stuck := fun_mk (st := s_stuck) lx11 ccx11 kx11
  have b_stuck := F_stuck.binds (ps := ["kind", "units", "cut"]) fun _ _ _ _ _ _ us hl => match us, hl with | [_, _, _], _ => rfl
  have C_stuck : Cal l.prog w K mg base 2 "stuck" ["kind", "units", "cut"] (spD K 3 m_stuck) := ⟨_, _, ok_stuck T F_stuck C_moves_of C_next_rest, PySem.W.mg_of X G ax11, F_stuck.kp, b_stuck⟩
  have F__law_words := fun_mk (st := s__law_words) lx12 ccx12 kx12
  have b__law_words := F__law_words.binds (ps := ["_law_letters", "_law_size"]) fun _ _ _ _ _ _ us hl => match us, hl with | [_, _], _ => rfl
  have C__law_words : Cal l.prog w K mg base 1 "_law_words" ["_law_letters", "_law_size"] (spD K 2 m__law_words) := ⟨_, _, ok__law_words T F__law_words , PySem.W.mg_of X G ax12, F__law_words.kp, b__law_words⟩
  have F__law_is_of := fun_mk (st := s__law_is_of) lx13 ccx13 kx13
  have b__law_is_of := F__law_is_of.binds (ps := ["_law_kind_here", "_law_word"]) fun _ _ _ _ _ _ us hl => match us, hl with | [_, _], _ => rfl
  have C__law_is_of : Cal l.prog w K mg base 1 "_law_is_of" ["_law_kind_here", "_law_word"] (spD K 2 m__law_is_of) := ⟨_, _, ok__law_is_of T F__law_is_of , PySem.W.mg_of X G ax13, F__law_is_of.kp, b__law_is_of⟩
  have F__law_all := fun_mk (st := s__law_all) lx14 ccx14 kx14
  have b__law_all := F__law_all.binds (ps := ["_law_kind_here", "_law_most"]) fun _ _ _ _ _ _ us hl => match us, hl with | [_, _], _ => rfl
  have C__law_all : Cal l.prog w K mg base 2 "_law_all" ["_law_kind_here", "_law_most"] (spD K 2 m__law_all) := ⟨_, _, ok__law_all T F__law_all C__law_words C__law_is_of, PySem.W.mg_of X G ax14, F__law_all.kp, b__law_all⟩
  have F__law_far := fun_mk (st := s__law_far) lx15 ccx15 kx15
  have b__law_far := F__law_far.binds (ps := ["_law_deck_here", "_law_kind_here", "_law_wide"]) fun _ _ _ _ _ _ us hl => match us, hl with | [_, _, _], _ => rfl
  have C__law_far : Cal l.prog w K mg base 3 "_law_far" ["_law_deck_here", "_law_kind_here", "_law_wide"] (spD K 3 m__law_far) := ⟨_, _, ok__law_far T F__law_far C__law_draw C__law_one, PySem.W.mg_of X G ax15, F__law_far.kp, b__law_far⟩
  have F__law_count := fun_mk (st := s__law_count) lx16 ccx16 kx16
  have b__law_count := F__law_count.binds (ps := ["_law_unit_here", "_law_word"]) fun _ _ _ _ _ _ us hl => match us, hl with | [_, _], _ => rfl
  have C__law_count : Cal l.prog w K mg base 1 "_law_count" ["_law_unit_here", "_law_word"] (spD K 2 m__law_count) := ⟨_, _, ok__law_count T F__law_count , PySem.W.mg_of X G ax16, F__law_count.kp, b__law_count⟩
  have F__law_one_cut := fun_mk (st := s__law_one_cut) lx17 ccx17 kx17
  have b__law_one_cut := F__law_one_cut.binds (ps := ["_law_units_here", "_law_cut_here", "_law_word"]) fun _ _ _ _ _ _ us hl => match us, hl with | [_, _, _], _ => rfl
  have C__law_one_cut : Cal l.prog w K mg base 2 "_law_one_cut" ["_law_units_here", "_law_cut_here", "_law_word"] (spD K 3 m__law_one_cut) := ⟨_, _, ok__law_one_cut T F__law_one_cut C__law_count, PySem.W.mg_of X G ax17, F__law_one_cut.kp, b__law_one_cut⟩
  have F__law_pieces := fun_mk (st := s__law_pieces) lx18 ccx18 kx18
  have b__law_pieces := F__law_pieces.binds (ps := ["_law_units_here", "_law_cut_here", "_law_word"]) fun _ _ _ _ _ _ us hl => match us, hl with | [_, _, _], _ => rfl
  have C__law_pieces : Cal l.prog w K mg base 3 "_law_pieces" ["_law_units_here", "_law_cut_here", "_law_word"] (spD K 3 m__law_pieces) := ⟨_, _, ok__law_pieces T F__law_pieces C__law_one_cut, PySem.W.mg_of X G ax18, F__law_pieces.kp, b__law_pieces⟩
  have F_law := fun_mk (st := s_law) lx19 ccx19 kx19
  exact ok_law T F_law C__law_deck C__law_some_kind C__law_units C__law_one C__law_cut C_stuck C__law_is_of C__law_pieces C__law_all C__law_far hb
end Lw

set_option Elab.async false
set_option linter.all false
set_option maxRecDepth 100000
set_option maxHeartbeats 1000000
namespace Lw
open PySem MD
/-! ### kinds -/
structure Kd where
  k : Nat
  rows : List (List (Option Nat))
  ends : List Bool
def optD : Option Nat → D
  | none => .non
  | some s => .int (s : Nat)
abbrev rowD (r : List (Option Nat)) : D := .tup (r.map optD)
abbrev tK (kd : Kd) : D := .tup [.int (kd.k : Nat), .tup (kd.rows.map rowD), .tup (kd.ends.map D.bl)]
structure Kd.Ok (kd : Kd) : Prop where
  k0 : 1 ≤ kd.k
  k4 : kd.k ≤ 4
  m0 : 1 ≤ kd.rows.length
  m8 : kd.rows.length ≤ 9
  me : kd.ends.length = kd.rows.length
  rl : ∀ r ∈ kd.rows, r.length = kd.k
  rs : ∀ r ∈ kd.rows, ∀ s, some s ∈ r → s < kd.rows.length
def row (kd : Kd) (s : Nat) : List (Option Nat) := kd.rows.getD s []
def stp (kd : Kd) (s x : Nat) : Option Nat := ((row kd s)[x]?).join
def isE (kd : Kd) (s : Nat) : Bool := kd.ends.getD s false
theorem row_at {kd : Kd} {s : Nat} (h : s < kd.rows.length) : kd.rows[s]? = some (row kd s) := by
  unfold row
  rw [List.getD_eq_getElem?_getD, List.getElem?_eq_getElem h]; rfl
theorem row_mem {kd : Kd} {s : Nat} (h : s < kd.rows.length) : row kd s ∈ kd.rows := List.mem_of_getElem? (row_at h)
theorem row_D {kd : Kd} {s : Nat} (h : s < kd.rows.length) : L2.atI (kd.rows.map rowD) ((s : Nat) : Int) = some (rowD (row kd s)) := by
  rw [atI_nn (by omega), Int.toNat_natCast, List.getElem?_map, row_at h]; rfl
theorem end_D {kd : Kd} (ok : kd.Ok) {s : Nat} (h : s < kd.rows.length) : L2.atI (kd.ends.map D.bl) ((s : Nat) : Int) = some (.bl (isE kd s)) := by
  rw [atI_nn (by omega), Int.toNat_natCast, List.getElem?_map]
  have h' : s < kd.ends.length := by rw [ok.me]; exact h
  unfold isE
  rw [List.getD_eq_getElem?_getD, List.getElem?_eq_getElem h']; rfl
theorem item_D {kd : Kd} (ok : kd.Ok) {s x : Nat} (h : s < kd.rows.length) (hx : x < kd.k) : L2.atI ((row kd s).map optD) ((x : Nat) : Int) = some (optD (stp kd s x)) := by
  rw [atI_nn (by omega), Int.toNat_natCast, List.getElem?_map]
  have hl : x < (row kd s).length := by rw [ok.rl _ (row_mem h)]; exact hx
  unfold stp
  rw [List.getElem?_eq_getElem hl]; rfl
theorem stp_lt {kd : Kd} (ok : kd.Ok) {s x s' : Nat} (h : s < kd.rows.length) (e : stp kd s x = some s') : s' < kd.rows.length := by
  unfold stp at e
  refine ok.rs _ (row_mem h) s' ?_
  cases hx : (row kd s)[x]? with
  | none => rw [hx] at e; cases e
  | some o =>
    rw [hx] at e
    have : o = some s' := e
    rw [← this]
    exact List.mem_of_getElem? hx
theorem tK0 (kd : Kd) : L2.atI [D.int (kd.k : Nat), .tup (kd.rows.map rowD), .tup (kd.ends.map D.bl)] 0 = some (.int (kd.k : Nat)) := atI_of (j := 0) rfl
theorem tK1 (kd : Kd) : L2.atI [D.int (kd.k : Nat), .tup (kd.rows.map rowD), .tup (kd.ends.map D.bl)] 1 = some (.tup (kd.rows.map rowD)) := atI_of (j := 1) rfl
theorem tK2 (kd : Kd) : L2.atI [D.int (kd.k : Nat), .tup (kd.rows.map rowD), .tup (kd.ends.map D.bl)] 2 = some (.tup (kd.ends.map D.bl)) := atI_of (j := 2) rfl
@[simp] theorem nonD_opt (o : Option Nat) : nonD (optD o) = o.isNone := by cases o <;> rfl
@[simp] theorem dr_opt (st : S) (o : Option Nat) : dr st (optD o) = optD o := by cases o <;> rfl
theorem rng_of {k : Nat} (h : k ≤ 1000000) : rng1 [.int ((k : Nat) : Int)] = some (rngD 0 k) := by rw [rng1_of (by omega) (by omega)]; simp
theorem rng_map (k : Nat) : rngD 0 k = (List.range k).map fun x => D.int ((x : Nat) : Int) := by
  unfold rngD
  simp
theorem abcd_at {x : Nat} (h : x < 4) : ixM (.str "abcd") (.int ((x : Nat) : Int)) = some (.str (W [97 + x])) := by
  rw [v_ixS, grd_of (by rw [abcd_W, W_len]; decide), atI_nn (by omega), Int.toNat_natCast, abcd_W, W_list]
  have : x = 0 ∨ x = 1 ∨ x = 2 ∨ x = 3 := by omega
  rcases this with rfl | rfl | rfl | rfl <;> rfl
/-! ### moves_of -/
def mvD (x s' : Nat) : D := .tup [.str (W [97 + x]), .int ((x : Nat) : Int), .int ((s' : Nat) : Int)]
def mvs (kd : Kd) (s : Nat) (xs : List Nat) : List D := xs.filterMap fun x => (stp kd s x).map (mvD x)
theorem moves_ok {kd : Kd} (ok : kd.Ok) {s : Nat} (hs : s < kd.rows.length) (st : S) : m_moves_of [tK kd, .int ((s : Nat) : Int)] st = some (.lst (mvs kd s (List.range kd.k)), st) := by
  have hk4 := ok.k4
  have hc : ∀ (xs : List Nat), (∀ x ∈ xs, x < kd.k) → compL (nameT 3) (tstM (opM isNotM (opM subD (rd 2) (rd 3)) (cst .non))) (tupM (aCons (opM subD (cst (.str "abcd")) (rd 3)) (aCons (rd 3) (aCons (opM subD (rd 2) (rd 3)) aNil))))
      [.val (tK kd), .val (.int ((s : Nat) : Int)), .val (rowD (row kd s)), .un] (xs.map fun x => D.int ((x : Nat) : Int)) st = some (mvs kd s xs, st) := by
    intro xs
    induction xs with
    | nil => intro _; rfl
    | cons x xs ih =>
      intro h
      have hx := h x List.mem_cons_self
      have ih' := ih fun y hy => h y (List.mem_cons_of_mem _ hy)
      rw [List.map_cons, v_compL]
      have e1 := item_D ok hs hx
      cases hst : stp kd s x with
      | none =>
        rw [hst] at e1
        simp [e1, ih', mvs, hst]
      | some s' =>
        rw [hst] at e1
        simp [e1, ih', mvs, hst, abcd_at (show x < 4 by omega), mvD, grd_of (show 3 ≤ 1000000 by decide), optD]
        rfl
  simp [m_moves_of, b_moves_of, tK0, tK1, row_D hs, rng_of (show kd.k ≤ 1000000 by omega), rngD_len, grd_of (show kd.k ≤ 1000000 by omega)]
  rw [rng_map, hc _ fun x hx => List.mem_range.mp hx]
  rfl
end Lw

set_option Elab.async false
set_option linter.all false
set_option maxRecDepth 100000
set_option maxHeartbeats 2000000
namespace Lw
open PySem MD
/-! ### words, their counts, whether they are of a kind -/
def Lets (k : Nat) (ws : List Nat) : Prop := ∀ c ∈ ws, Let k c
theorem Let.four {k c : Nat} (h : Let k c) (hk : k ≤ 4) : Let 4 c := ⟨h.1, by have := h.2; omega⟩
theorem Lets.snoc {k : Nat} {ws : List Nat} (h : Lets k ws) {x : Nat} (hx : x < k) : Lets k (ws ++ [97 + x]) := fun c hc => by
  rcases List.mem_append.mp hc with z | z
  · exact h c z
  · rw [List.mem_singleton.mp z]; exact ⟨by omega, by omega⟩
def uu (us : List Int) (c : Nat) : Int := us.getD (c - 97) 0
def cnt (us : List Int) (ws : List Nat) : Int := (ws.map (uu us)).sum
abbrev tI (us : List Int) : D := .tup (us.map D.int)
theorem unit_at {us : List Int} {c : Nat} (h : Let us.length c) : L2.atI (us.map D.int) ((c - 97 : Nat) : Int) = some (.int (uu us c)) := by
  rw [atI_nn (by omega)]
  have h1 := h.1
  have h2 := h.2
  have hl : c - 97 < us.length := by omega
  simp only [Int.toNat_natCast, List.getElem?_map, List.getElem?_eq_getElem hl, Option.map_some]
  unfold uu
  rw [List.getD_eq_getElem?_getD, List.getElem?_eq_getElem hl]
  rfl
theorem count_comp {us : List Int} (h4 : us.length ≤ 4) (x : Sl) (st : S) : ∀ (ws : List Nat), Lets us.length ws →
    compL (nameT 2) yesM (opM subD (rd 0) (m1M sindexM (cst (.str "abcd")) (rd 2))) [.val (tI us), x, .un] (ws.map fun c => D.str (W [c])) st = some ((ws.map (uu us)).map D.int, st)
  | [], _ => rfl
  | c :: ws, h => by
    have hc := h c List.mem_cons_self
    have ih := count_comp h4 x st ws fun d hd => h d (List.mem_cons_of_mem _ hd)
    rw [List.map_cons, v_compL]
    simp [idx_abcd (Let.four hc h4), unit_at hc, ih]
theorem count_ok {us : List Int} (h4 : us.length ≤ 4) {ws : List Nat} (hw : Lets us.length ws) (hz : ws.length ≤ 1000000) (st : S) : m__law_count [tI us, .str (W ws)] st = some (.int (cnt us ws), st) := by
  have h := count_comp h4 (.val (.str (W ws))) st ws hw
  simp [m__law_count, b__law_count, grd_of hz, Function.comp_def]
  rw [h]
  simp only [Option.map_some, Option.bind_some, List.map_cons, List.map_nil, dr_lst, v_sumM, intsOf_map]
  rfl
def walk (kd : Kd) : Nat → List Nat → Option Nat
  | s, [] => some s
  | s, c :: w => (stp kd s (c - 97)).bind fun s' => walk kd s' w
def isOf (kd : Kd) (w : List Nat) : Bool := match walk kd 0 w with
  | none => false
  | some s => isE kd s
theorem walk_snoc {kd : Kd} : ∀ (w : List Nat) (s c : Nat), walk kd s (w ++ [c]) = (walk kd s w).bind fun s' => stp kd s' (c - 97)
  | [], s, c => by
    show (stp kd s (c - 97)).bind (fun s' => some s') = stp kd s (c - 97)
    cases stp kd s (c - 97) <;> rfl
  | y :: w, s, c => by
    show (stp kd s (y - 97)).bind (fun s' => walk kd s' (w ++ [c])) = ((stp kd s (y - 97)).bind fun s' => walk kd s' w).bind _
    cases stp kd s (y - 97) with
    | none => rfl
    | some s' => exact walk_snoc w s' c
theorem walk_lt {kd : Kd} (ok : kd.Ok) : ∀ (w : List Nat) (s s' : Nat), s < kd.rows.length → walk kd s w = some s' → s' < kd.rows.length
  | [], s, s', h, e => by cases e; exact h
  | c :: w, s, s', h, e => by
    obtain ⟨s1, h1, e⟩ := bnd (show ((stp kd s (c - 97)).bind fun s' => walk kd s' w) = some s' from e)
    exact walk_lt ok w s1 s' (stp_lt ok h h1) e
noncomputable def ofB : MS := (asgM (nameT 2) (ifM (tstM (opM isNotM (rd 2) (cst .non))) (opM subD (opM subD (opM subD (rd 0) (cst (.int 1))) (rd 2)) (m1M sindexM (cst (.str "abcd")) (rd 3))) (cst .non)))
theorem of_loop {kd : Kd} (ok : kd.Ok) (x1 : Sl) (st : S) : ∀ (ws : List Nat) (o : Option Nat) (x3 : Sl), Lets kd.k ws → (∀ s, o = some s → s < kd.rows.length) →
    ∃ y3, forL (nameT 3) ofB (ws.map fun c => D.str (W [c])) [.val (tK kd), x1, .val (optD o), x3] st = some (.nx [.val (tK kd), x1, .val (optD (o.bind fun s => walk kd s ws)), y3], st)
  | [], o, x3, _, _ => ⟨x3, by cases o <;> rfl⟩
  | c :: ws, o, x3, h, ho => by
    have hc := h c List.mem_cons_self
    have h1 := hc.1
    have h2 := hc.2
    have ws' : Lets kd.k ws := fun d hd => h d (List.mem_cons_of_mem _ hd)
    have ek : kd.k ≤ 4 := ok.k4
    cases o with
    | none =>
      obtain ⟨y3, e⟩ := of_loop ok x1 st ws none (.val (.str (W [c]))) ws' (fun s h => by cases h)
      refine ⟨y3, ?_⟩
      rw [List.map_cons, v_forL]
      have e' : ofB [.val (tK kd), x1, .val (optD none), .val (.str (W [c]))] st = some (.nx [.val (tK kd), x1, .val (optD none), .val (.str (W [c]))], st) := by
        simp [ofB, optD, nonD]
      simp only [v_nameT, Option.bind_some, List.set_cons_succ, List.set_cons_zero]
      rw [e']
      exact e
    | some s =>
      have hs := ho s rfl
      have e1 := item_D ok hs (show c - 97 < kd.k by omega)
      obtain ⟨y3, e⟩ := of_loop ok x1 st ws (stp kd s (c - 97)) (.val (.str (W [c]))) ws' (fun s' h' => stp_lt ok hs h')
      refine ⟨y3, ?_⟩
      rw [List.map_cons, v_forL]
      have e' : ofB [.val (tK kd), x1, .val (optD (some s)), .val (.str (W [c]))] st = some (.nx [.val (tK kd), x1, .val (optD (stp kd s (c - 97))), .val (.str (W [c]))], st) := by
        show ofB [.val (tK kd), x1, .val (.int ((s : Nat) : Int)), .val (.str (W [c]))] st = _
        have en : nonD (.int ((s : Nat) : Int)) = false := rfl
        simp [ofB, row_D hs, idx_abcd (Let.four hc ek), e1, en]
      simp only [v_nameT, Option.bind_some, List.set_cons_succ, List.set_cons_zero]
      rw [e']
      exact e
theorem isof_ok {kd : Kd} (ok : kd.Ok) {ws : List Nat} (hw : Lets kd.k ws) (st : S) : m__law_is_of [tK kd, .str (W ws)] st = some (.bl (isOf kd ws), st) := by
  obtain ⟨y3, e⟩ := of_loop ok (.val (.str (W ws))) st ws (some 0) .un hw (fun s h => by cases h; exact ok.m0)
  have hb : b__law_is_of = seqM (asgM (nameT 2) (cst (.int 0))) (seqM (forM (seqI (rd 1)) (nameT 3) ofB) (retM (andV (opM isNotM (rd 2) (cst .non)) (opM subD (opM subD (rd 0) (cst (.int 2))) (rd 2))))) := rfl
  unfold m__law_is_of
  rw [hb]
  generalize ofB = B at e
  have e2 : forL (nameT 3) B (ws.map fun c => D.str (W [c])) [.val (tK kd), .val (.str (W ws)), .val (.int 0), .un] st = some (.nx [.val (tK kd), .val (.str (W ws)), .val (optD (walk kd 0 ws)), y3], st) := e
  simp [Function.comp_def]
  rw [e2]
  unfold isOf
  cases hwk : walk kd 0 ws with
  | none => simp [optD, nonD]
  | some s =>
    have hs := walk_lt ok ws 0 s ok.m0 hwk
    have en : nonD (.int ((s : Nat) : Int)) = false := rfl
    simp [optD, end_D ok hs, en]
/-! ### all words -/
abbrev tW (ps : List (List Nat)) : List D := ps.map fun p => D.str (W p)
def ext1 (k : Nat) (ws : List (List Nat)) : List (List Nat) := ws.flatMap fun w => (List.range k).map fun x => w ++ [97 + x]
def allW (k : Nat) : Nat → List (List Nat)
  | 0 => [[]]
  | n + 1 => ext1 k (allW k n)
theorem allW_len (k : Nat) : ∀ n, (allW k n).length = k ^ n
  | 0 => rfl
  | n + 1 => by
    show (ext1 k (allW k n)).length = _
    unfold ext1
    rw [List.length_flatMap]
    have e : ((allW k n).map fun w => ((List.range k).map fun x => w ++ [97 + x]).length) = (allW k n).map fun _ => k := by
      apply List.map_congr_left
      intro w _
      simp
    have e2 : ∀ (l : List (List Nat)), (l.map fun _ => k).sum = l.length * k := fun l => by
      induction l with
      | nil => simp
      | cons x l ih => rw [List.map_cons, List.sum_cons, ih, List.length_cons, Nat.succ_mul]; omega
    rw [e, e2, allW_len k n, Nat.pow_succ]
theorem allW_in (k : Nat) : ∀ n, ∀ w ∈ allW k n, Lets k w ∧ w.length = n
  | 0, w, h => by
    have : w = [] := by simpa [allW] using h
    subst this
    refine ⟨fun c hc => ?_, rfl⟩
    cases hc
  | n + 1, w, h => by
    obtain ⟨v, hv, h⟩ := List.mem_flatMap.mp (show w ∈ (allW k n).flatMap _ from h)
    obtain ⟨x, hx, rfl⟩ := List.mem_map.mp h
    obtain ⟨i1, i2⟩ := allW_in k n v hv
    exact ⟨i1.snoc (List.mem_range.mp hx), by simp [i2]⟩
theorem cut_abcd {k : Nat} (h : k ≤ 4) : L2.cutS ("abcd" : Str) none (some ((k : Nat) : Int)) = W ((List.range k).map (97 + ·)) := by
  rw [abcd_W, cutW_to (by omega) (by simp; omega)]
  have : k = 0 ∨ k = 1 ∨ k = 2 ∨ k = 3 ∨ k = 4 := by omega
  rcases this with rfl | rfl | rfl | rfl | rfl <;> rfl
theorem abcd_len : ("abcd" : Str).length ≤ 1000000 := by rw [abcd_W, W_len]; decide
noncomputable def wdB : MS := (extM 4 (frz (compM (seqI (slM slAny (cst (.str "abcd")) noP (prt (rd 0)))) (nameT 6) yesM (opM addM (rd 5) (rd 6)) [6])))
theorem wd_turn {k : Nat} (hk : k ≤ 4) (st : S) (w : List Nat) (hw : w.length ≤ 1000) (acc : List (List Nat)) (ha : acc.length ≤ 100000) (x1 x2 x3 x6 : Sl) :
    wdB [.val (.int ((k : Nat) : Int)), x1, x2, x3, .own (.lst, tW acc), .val (.str (W w)), x6] st = some (.nx [.val (.int ((k : Nat) : Int)), x1, x2, x3, .own (.lst, tW (acc ++ (List.range k).map fun x => w ++ [97 + x])), .val (.str (W w)), x6], st) := by
  have hc : ∀ (xs : List Nat), compL (nameT 6) yesM (opM addM (rd 5) (rd 6)) [.val (.int ((k : Nat) : Int)), x1, x2, x3, .own (.lst, tW acc), .val (.str (W w)), .un] ((xs.map (97 + ·)).map fun c => D.str (W [c])) st = some (tW (xs.map fun x => w ++ [97 + x]), st) := by
    intro xs
    induction xs with
    | nil => rfl
    | cons x xs ih =>
      rw [List.map_cons, List.map_cons, v_compL]
      simp [grd_of (show w.length + 1 ≤ 1000000 by omega), W_app]
      simp at ih
      rw [ih]
  have h := hc (List.range k)
  unfold wdB
  have hz : ((List.range k).map (97 + ·)).length ≤ 1000000 := by simp; omega
  simp [grd_of abcd_len, cut_abcd hk]
  rw [grd_of (by omega)]
  rw [List.map_map] at h
  have h' : compL (nameT 6) yesM (opM addM (rd 5) (rd 6)) [.val (.int ((k : Nat) : Int)), x1, x2, x3, .own (.lst, tW acc), .val (.str (W w)), .un] (List.map (D.str ∘ (fun c => W [c]) ∘ fun x => 97 + x) (List.range k)) st = _ := h
  rw [h']
  simp [grd_of (show acc.length + k ≤ 1000000 by omega)]
theorem wd_loop {k : Nat} (hk : k ≤ 4) (st : S) (x1 x2 x3 x6 : Sl) : ∀ (ws : List (List Nat)), (∀ w ∈ ws, w.length ≤ 1000) → ∀ (acc : List (List Nat)) (x5 : Sl), acc.length + ws.length * 4 ≤ 100000 →
    ∃ y5, forL (nameT 5) wdB (tW ws) [.val (.int ((k : Nat) : Int)), x1, x2, x3, .own (.lst, tW acc), x5, x6] st = some (.nx [.val (.int ((k : Nat) : Int)), x1, x2, x3, .own (.lst, tW (acc ++ ext1 k ws)), y5, x6], st)
  | [], _, acc, x5, _ => ⟨x5, by simp [ext1]⟩
  | w :: ws, hw, acc, x5, ha => by
    rw [List.length_cons] at ha
    obtain ⟨y5, e⟩ := wd_loop hk st x1 x2 x3 x6 ws (fun v hv => hw v (List.mem_cons_of_mem _ hv)) (acc ++ (List.range k).map fun x => w ++ [97 + x]) (.val (.str (W w))) (by simp; omega)
    refine ⟨y5, ?_⟩
    have et : tW (w :: ws) = D.str (W w) :: tW ws := rfl
    rw [et, v_forL]
    simp only [v_nameT, Option.bind_some, List.set_cons_succ, List.set_cons_zero]
    rw [wd_turn hk st w (hw w List.mem_cons_self) acc (by omega)]
    simp only [Option.bind_some]
    rw [e]
    simp [ext1]
noncomputable def wsB : MS := (seqM (ownM 4 (lstM aNil)) (seqM (forM (seqI (rd 2)) (nameT 5) wdB) (frzM 4 (asgM (nameT 2) (rd 4)))))
theorem ws_loop {k : Nat} (hk : k ≤ 4) (st : S) (x1 x6 : Sl) : ∀ (j n : Nat) (ds : List D), ds.length = j → (∀ m, m ≤ n + j → k ^ m ≤ 20000) → n + j ≤ 1000 → ∀ (x3 x4 x5 : Sl),
    ∃ y3 y4 y5, forL (nameT 3) wsB ds [.val (.int ((k : Nat) : Int)), x1, .val (.lst (tW (allW k n))), x3, x4, x5, x6] st = some (.nx [.val (.int ((k : Nat) : Int)), x1, .val (.lst (tW (allW k (n + j)))), y3, y4, y5, x6], st)
  | 0, n, ds, hj, _, _, x3, x4, x5 => by
    have : ds = [] := List.eq_nil_of_length_eq_zero hj
    subst this
    exact ⟨x3, x4, x5, rfl⟩
  | j + 1, n, [], hj, _, _, _, _, _ => by simp at hj
  | j + 1, n, d :: ds, hj, hp, hm, x3, x4, x5 => by
    have hl := allW_len k n
    have hb := hp n (by omega)
    obtain ⟨y5, e⟩ := wd_loop hk st x1 (.val (.lst (tW (allW k n)))) (.val d) x6 (allW k n) (fun w hw => by rw [(allW_in k n w hw).2]; omega) [] x5 (by rw [hl]; simp; omega)
    obtain ⟨z3, z4, z5, e2⟩ := ws_loop hk st x1 x6 j (n + 1) ds (by simpa using hj) (fun m hm => hp m (by omega)) (by omega) (.val d) (.val (.lst (tW (ext1 k (allW k n))))) y5
    refine ⟨z3, z4, z5, ?_⟩
    rw [v_forL]
    have et : wsB [.val (.int ((k : Nat) : Int)), x1, .val (.lst (tW (allW k n))), .val d, x4, x5, x6] st = some (.nx [.val (.int ((k : Nat) : Int)), x1, .val (.lst (tW (allW k (n + 1)))), .val d, .val (.lst (tW (ext1 k (allW k n)))), y5, x6], st) := by
      unfold wsB
      generalize wdB = B at e
      simp [grd_of (show 0 ≤ 1000000 by decide)]
      simp at e
      rw [e]
      simp
      rfl
    simp only [v_nameT, Option.bind_some, List.set_cons_succ, List.set_cons_zero]
    rw [et]
    simp only [Option.bind_some]
    rw [e2]
    have : n + 1 + j = n + (j + 1) := by omega
    rw [this]
theorem words_ok {k : Nat} (hk : k ≤ 4) {n : Nat} (hn : ∀ m, m ≤ n → k ^ m ≤ 20000) (hn2 : n ≤ 1000) (st : S) : m__law_words [.int ((k : Nat) : Int), .int ((n : Nat) : Int)] st = some (.lst (tW (allW k n)), st) := by
  obtain ⟨y3, y4, y5, e⟩ := ws_loop hk st (.val (.int ((n : Nat) : Int))) .un n 0 (rngD 0 n) (rngD_len 0 n) (fun m hm => hn m (by omega)) (by omega) .un .un .un
  have hb : b__law_words = seqM (asgM (nameT 2) (frz (lstM (aCons (cst (.str "")) aNil)))) (seqM (forM (r1M (aCons (rd 1) aNil)) (nameT 3) wsB) (retM (rd 2))) := rfl
  unfold m__law_words
  rw [hb]
  generalize wsB = B at e
  simp [grd_of (show 1 ≤ 1000000 by decide), rng_of (show n ≤ 1000000 by omega)]
  have e' : forL (nameT 3) B (rngD 0 n) [.val (.int ((k : Nat) : Int)), .val (.int ((n : Nat) : Int)), .val (.lst [.str ""]), .un, .un, .un, .un] st = some (.nx [.val (.int ((k : Nat) : Int)), .val (.int ((n : Nat) : Int)), .val (.lst (tW (allW k n))), y3, y4, y5, .un], st) := by
    have h0 : tW (allW k 0) = [D.str ""] := by rw [empty_W]; rfl
    rw [h0, Nat.zero_add] at e
    exact e
  rw [e']
  simp
end Lw

set_option Elab.async false
set_option linter.all false
set_option maxRecDepth 100000
set_option maxHeartbeats 2000000
namespace Lw
open PySem MD
/-- a loop that keeps I, turn by turn, and always goes on -/
theorem forL_yesI {t : MG} {b : MS} {k : Nat} {I : Nat → Sg → Prop} : ∀ (ds : List D) (j : Nat) (env : Sg), I j env → (∀ d ∈ ds, ∀ i env, i < j + ds.length → I i env → ∃ e, t d env = some e ∧ Yes k (b e) fun fl => ∃ e', fl = .nx e' ∧ I (i + 1) e') →
    Yes (ds.length * k) (forL t b ds env) fun fl => ∃ e, fl = .nx e ∧ I (j + ds.length) e
  | [], j, env, hi, _ => (Yes.of_eq (fun _ => rfl) ⟨env, rfl, hi⟩).mono (Nat.zero_le _) fun _ h => h
  | d :: ds, j, env, hi, h => by
    obtain ⟨e, h1, h2⟩ := h d List.mem_cons_self j env (by rw [List.length_cons]; omega) hi
    intro st h0 hn
    have en : ((d :: ds).length * k : Nat) = k + ds.length * k := by rw [List.length_cons, Nat.succ_mul]; omega
    rw [en] at hn ⊢
    obtain ⟨fl, s1, e1, ⟨e', rfl, i1⟩, l1, l2⟩ := h2 st h0 (by omega)
    obtain ⟨fl2, s2, e2, ⟨e3, p3, p4⟩, l3, l4⟩ := forL_yesI ds (j + 1) e' i1 (fun x hx i env hi => h x (List.mem_cons_of_mem _ hx) i env (by rw [List.length_cons]; omega)) s1 (by omega) (by omega)
    refine ⟨fl2, s2, ?_, ⟨e3, p3, ?_⟩, by omega, by omega⟩
    · rw [v_forL, h1]
      simp [e1, e2]
    · have : j + 1 + ds.length = j + (d :: ds).length := by rw [List.length_cons]; omega
      rw [this] at p4
      exact p4
/-! ### the words of a kind -/
def allK (kd : Kd) (n : Nat) : List (List Nat) := (allW kd.k n).filter (isOf kd)
noncomputable def alB : MS := (extM 2 (frz (compM (seqI (callM m__law_words (aCons (opM subD (rd 0) (cst (.int 0))) (aCons (rd 3) aNil)))) (nameT 4) (truM (callM m__law_is_of (aCons (rd 0) (aCons (rd 4) aNil)))) (rd 4) [4])))
theorem al_comp {kd : Kd} (ok : kd.Ok) (st : S) (x1 x2 x3 : Sl) : ∀ (ws : List (List Nat)), (∀ w ∈ ws, Lets kd.k w) →
    compL (nameT 4) (truM (callM m__law_is_of (aCons (rd 0) (aCons (rd 4) aNil)))) (rd 4) [.val (tK kd), x1, x2, x3, .un] (tW ws) st = some (tW (ws.filter (isOf kd)), st)
  | [], _ => rfl
  | w :: ws, h => by
    have e1 := isof_ok ok (h w List.mem_cons_self) st
    have ih := al_comp ok st x1 x2 x3 ws fun v hv => h v (List.mem_cons_of_mem _ hv)
    have et : tW (w :: ws) = D.str (W w) :: tW ws := rfl
    rw [et, v_compL]
    by_cases hi : isOf kd w = true
    · rw [hi] at e1
      rw [List.filter_cons_of_pos hi]
      simp [e1, ih]
    · have hi' : isOf kd w = false := by simpa using hi
      rw [hi'] at e1
      rw [List.filter_cons_of_neg hi]
      simp [e1, ih]
theorem al_turn {kd : Kd} (ok : kd.Ok) (st : S) {n : Nat} (hN : ∀ m, m ≤ n → kd.k ^ m ≤ 20000) (hn : n ≤ 1000) (x1 x4 : Sl) (acc : List (List Nat)) (hz : kd.k ^ n ≤ 1000000) (hf : acc.length + ((allW kd.k n).filter (isOf kd)).length ≤ 1000000) :
    alB [.val (tK kd), x1, .own (.lst, tW acc), .val (.int ((n : Nat) : Int)), x4] st = some (.nx [.val (tK kd), x1, .own (.lst, tW (acc ++ allK kd n)), .val (.int ((n : Nat) : Int)), x4], st) := by
  have e1 := words_ok ok.k4 (n := n) hN hn st
  have e2 := al_comp ok st x1 (.own (.lst, tW acc)) (.val (.int ((n : Nat) : Int))) (allW kd.k n) fun w hw => (allW_in kd.k n w hw).1
  have hlen := allW_len kd.k n
  have ea : (aCons (opM subD (rd 0) (cst (.int 0))) (aCons (rd 3) aNil)) [.val (tK kd), x1, .own (.lst, tW acc), .val (.int ((n : Nat) : Int)), x4] st = some ([.int (kd.k : Nat), .int ((n : Nat) : Int)], st) := by simp
  have ec : callM m__law_words (aCons (opM subD (rd 0) (cst (.int 0))) (aCons (rd 3) aNil)) [.val (tK kd), x1, .own (.lst, tW acc), .val (.int ((n : Nat) : Int)), x4] st = some (.lst (tW (allW kd.k n)), st) := by
    rw [v_callM, ea, Option.bind_some]
    exact e1
  have hb : alB = extM 2 (frz (compM (seqI (callM m__law_words (aCons (opM subD (rd 0) (cst (.int 0))) (aCons (rd 3) aNil)))) (nameT 4) (truM (callM m__law_is_of (aCons (rd 0) (aCons (rd 4) aNil)))) (rd 4) [4])) := rfl
  rw [hb]
  generalize truM (callM m__law_is_of (aCons (rd 0) (aCons (rd 4) aNil))) = B at e2
  generalize callM m__law_words (aCons (opM subD (rd 0) (cst (.int 0))) (aCons (rd 3) aNil)) = CW at ec
  have hl : (tW (allW kd.k n)).length ≤ 1000000 := by rw [List.length_map, hlen]; exact hz
  have ef : (frz (compM (seqI CW) (nameT 4) B (rd 4) [4])) [.val (tK kd), x1, .own (.lst, tW acc), .val (.int ((n : Nat) : Int)), x4] st = some (.lst (tW ((allW kd.k n).filter (isOf kd))), st) := by
    rw [v_frz, v_compM, v_seqI, ec]
    simp only [Option.bind_some, v_seqL, Option.map_some, grd_of hl, v_wipe1, v_wipe0, List.set_cons_succ, List.set_cons_zero]
    rw [e2]
    rfl
  rw [v_extM]
  simp only [List.getElem?_cons_succ, List.getElem?_cons_zero, ef, Option.bind_some, dr_lst, v_lstOf, List.length_map, grd_of hf, List.map_append, allK, List.set_cons_succ, List.set_cons_zero]
theorem al_step {kd : Kd} (ok : kd.Ok) (st : S) {n : Nat} (hN : ∀ m, m ≤ n → kd.k ^ m ≤ 20000) (hn : n ≤ 1000) (x1 x3 x4 : Sl) (acc : List (List Nat)) (hz : kd.k ^ n ≤ 1000000) (hf : acc.length + ((allW kd.k n).filter (isOf kd)).length ≤ 1000000) (ds : List D) (r : Option (Fl × S))
    (h : forL (nameT 3) alB ds [.val (tK kd), x1, .own (.lst, tW (acc ++ allK kd n)), .val (.int ((n : Nat) : Int)), x4] st = r) : forL (nameT 3) alB (D.int ((n : Nat) : Int) :: ds) [.val (tK kd), x1, .own (.lst, tW acc), x3, x4] st = r := by
  rw [v_forL]
  have et : nameT 3 (D.int ((n : Nat) : Int)) [.val (tK kd), x1, .own (.lst, tW acc), x3, x4] = some [.val (tK kd), x1, .own (.lst, tW acc), .val (.int ((n : Nat) : Int)), x4] := rfl
  rw [et, Option.bind_some, al_turn ok st hN hn x1 x4 acc hz hf, Option.bind_some]
  exact h
theorem al_loop {kd : Kd} (ok : kd.Ok) (st : S) {N : Nat} (hN : ∀ m, m ≤ N → kd.k ^ m ≤ 20000) (hN2 : N ≤ 20) (x1 x4 : Sl) (ns : List Nat) (hn : ∀ n ∈ ns, n ≤ N) : ∀ (acc : List (List Nat)) (x3 : Sl), acc.length + (ns.map fun n => (allK kd n).length).sum ≤ 1000000 →
    ∃ y3, forL (nameT 3) alB (ns.map fun (n : Nat) => D.int ((n : Nat) : Int)) [.val (tK kd), x1, .own (.lst, tW acc), x3, x4] st = some (.nx [.val (tK kd), x1, .own (.lst, tW (acc ++ ns.flatMap (allK kd))), y3, x4], st) := by
  induction ns with
  | nil => intro acc x3 _; exact ⟨x3, by simp⟩
  | cons n ns ih =>
    intro acc x3 ha
    rw [List.map_cons, List.sum_cons] at ha
    have hnN := hn n List.mem_cons_self
    have hb := hN n hnN
    have hf : acc.length + ((allW kd.k n).filter (isOf kd)).length ≤ 1000000 := Nat.le_trans (Nat.add_le_add_left (Nat.le_add_right _ _) _) ha
    have hr : (acc ++ allK kd n).length + (ns.map fun n => (allK kd n).length).sum ≤ 1000000 := by rw [List.length_append, Nat.add_assoc]; exact ha
    obtain ⟨y3, e3⟩ := ih (fun m hm => hn m (List.mem_cons_of_mem _ hm)) (acc ++ allK kd n) (.val (.int ((n : Nat) : Int))) hr
    refine ⟨y3, ?_⟩
    rw [List.map_cons]
    refine al_step ok st (fun m hm => hN m (Nat.le_trans hm hnN)) (Nat.le_trans hnN (Nat.le_trans hN2 (by decide))) x1 x3 x4 acc (Nat.le_trans hb (by decide)) hf _ _ ?_
    rw [e3, List.flatMap_cons, List.append_assoc]
theorem all_few {kd : Kd} : ∀ (ns : List Nat) (B : Nat), (∀ n ∈ ns, kd.k ^ n ≤ B) → (ns.map fun n => (allK kd n).length).sum ≤ ns.length * B
  | [], B, _ => by simp
  | n :: ns, B, h => by
    have h1 := all_few ns B fun m hm => h m (List.mem_cons_of_mem _ hm)
    have h2 : (allK kd n).length ≤ B := Nat.le_trans (List.length_filter_le _ _) (by rw [allW_len]; exact h n List.mem_cons_self)
    rw [List.map_cons, List.sum_cons, List.length_cons, Nat.succ_mul]
    omega
theorem all_ok {kd : Kd} (ok : kd.Ok) {N : Nat} (hN : ∀ m, m ≤ N → kd.k ^ m ≤ 20000) (hN2 : N ≤ 20) (st : S) : m__law_all [tK kd, .int ((N : Nat) : Int)] st = some (.lst (tW ((List.range (N + 1)).flatMap (allK kd))), st) := by
  obtain ⟨y3, e⟩ := al_loop ok st hN hN2 (.val (.int ((N : Nat) : Int))) .un (List.range (N + 1)) (fun n hn => by have := List.mem_range.mp hn; omega) [] .un (by
    have h1 := all_few (kd := kd) (List.range (N + 1)) 20000 fun n hn => hN n (by have := List.mem_range.mp hn; omega)
    have h2 : (List.range (N + 1)).length * 20000 ≤ 21 * 20000 := Nat.mul_le_mul_right _ (by simp; omega)
    have h3 : 21 * 20000 ≤ 1000000 := by decide
    rw [List.length_nil, Nat.zero_add]
    exact Nat.le_trans h1 (Nat.le_trans h2 h3))
  have hb : b__law_all = seqM (ownM 2 (lstM aNil)) (seqM (forM (r1M (aCons (opM addM (rd 1) (cst (.int 1))) aNil)) (nameT 3) alB) (frzM 2 (retM (rd 2)))) := rfl
  have hr : rng1 [.int (((N : Nat) : Int) + 1)] = some ((List.range (N + 1)).map fun (n : Nat) => D.int ((n : Nat) : Int)) := by
    have := rng_of (k := N + 1) (by omega)
    rw [rng_map] at this
    rw [← this]
    rfl
  unfold m__law_all
  rw [hb]
  generalize alB = B at e
  simp [grd_of (show 0 ≤ 1000000 by decide), hr]
  simp at e
  rw [e]
  simp
/-! ### walked words -/
theorem draw_int {n : Int} {st : S} {p : D × S} (h : m__law_draw [.deck, .int n] st = some p) : ∃ r, p.1 = .int r := by
  have h : drawM dc [.deck, .int n] st = some p := h
  unfold drawM at h
  by_cases hc : 0 < n ∧ n < 1073741824 ∧ 0 ≤ st.n ∧ st.n < nMax
  · simp only [if_pos hc] at h
    cases h
    exact ⟨_, rfl⟩
  · simp only [if_neg hc] at h
    cases h
theorem one_eq {x : D} {n : Int} (h : lenA [x] = some (.int n)) (hx : ∀ m, x ≠ .ref m) (st : S) : m__law_one [.deck, x] st = (m__law_draw [.deck, .int n] st).bind fun p => (subD x p.1).map fun z => (z, p.2) := by
  have hd : ∀ st : S, dr st x = x := fun st => dr_of hx
  simp [m__law_one, b__law_one, h, hd]
  cases hdr : m__law_draw [D.deck, D.int n] st with
  | none => rfl
  | some p =>
    simp
    obtain ⟨r, hr⟩ := draw_int hdr
    have hp : dr p.2 p.1 = p.1 := by rw [hr]; rfl
    rw [hp]
    cases subD x p.1 <;> rfl
theorem one_lst {ds : List D} (h0 : ds ≠ []) (h1 : ds.length ≤ 1000) : Yes 1 (m__law_one [.deck, .lst ds]) fun d => d ∈ ds := by
  refine (Yes.bind (c := 1) (c' := 0) (draw_yes (c := dc) (many := (ds.length : Int)) (by have := List.length_pos_iff.mpr h0; omega) (by omega)) (g := fun p => (subD (.lst ds) p.1).map fun z => (z, p.2)) fun d hd => ?_).congr fun st => one_eq (n := (ds.length : Int)) (v_lenAL) (fun m z => by cases z) st
  obtain ⟨r, rfl, r0, r1⟩ := hd
  have hl : r.toNat < ds.length := by omega
  have e : subD (.lst ds) (.int r) = some ds[r.toNat] := by
    rw [v_subL, v_ixL, atI_nn r0, List.getElem?_eq_getElem hl]
  refine Yes.of_eq (a := ds[r.toNat]) (fun st => ?_) (List.getElem_mem hl)
  show (subD (.lst ds) (.int r)).map _ = _
  rw [e]; rfl
noncomputable def faB : MS := (seqM (asgM (nameT 8) (frz (compM (r1M (aCons (opM subD (rd 1) (cst (.int 0))) aNil)) (nameT 10) (tstM (opM isNotM (opM subD (opM subD (opM subD (rd 1) (cst (.int 1))) (rd 6)) (rd 10)) (cst .non))) (rd 10) [10])))
 (ifS (tstM (opM neM (rd 8) (frz (lstM aNil))))
 (seqM (asgM (nameT 9) (callM m__law_one (aCons (rd 0) (aCons (rd 8) aNil))))
 (asgM (tupT 2 (consT (nameT 5) (consT (nameT 6) nilT))) (tupM (aCons (opM addM (rd 5) (opM subD (cst (.str "abcd")) (rd 9))) (aCons (opM subD (opM subD (opM subD (rd 1) (cst (.int 1))) (rd 6)) (rd 9)) aNil)))))
 nxM))
def outs (kd : Kd) (s : Nat) : List Nat := (List.range kd.k).filter fun x => (stp kd s x).isSome
theorem fa_comp {kd : Kd} (ok : kd.Ok) {s : Nat} (hs : s < kd.rows.length) (st : S) (x2 x3 x4 x5 x7 x8 x9 : Sl) : ∀ (xs : List Nat), (∀ x ∈ xs, x < kd.k) →
    compL (nameT 10) (tstM (opM isNotM (opM subD (opM subD (opM subD (rd 1) (cst (.int 1))) (rd 6)) (rd 10)) (cst .non))) (rd 10) [.val .deck, .val (tK kd), x2, x3, x4, x5, .val (.int ((s : Nat) : Int)), x7, x8, x9, .un] (xs.map fun (x : Nat) => D.int ((x : Nat) : Int)) st =
      some ((xs.filter fun x => (stp kd s x).isSome).map fun (x : Nat) => D.int ((x : Nat) : Int), st)
  | [], _ => rfl
  | x :: xs, h => by
    have hx := h x List.mem_cons_self
    have ih := fa_comp ok hs st x2 x3 x4 x5 x7 x8 x9 xs fun y hy => h y (List.mem_cons_of_mem _ hy)
    have e1 := item_D ok hs hx
    rw [List.map_cons, v_compL]
    cases hst : stp kd s x with
    | none =>
      rw [hst] at e1
      simp [row_D hs, e1, ih, hst]
    | some s' =>
      rw [hst] at e1
      simp [row_D hs, e1, ih, hst]
structure FaI (kd : Kd) (x2 x3 x4 : Sl) (j : Nat) (env : Sg) : Prop where
  ex : ∃ w s x7 x8 x9 x10, env = [.val .deck, .val (tK kd), x2, x3, x4, .val (.str (W w)), .val (.int ((s : Nat) : Int)), x7, x8, x9, x10] ∧ Lets kd.k w ∧ walk kd 0 w = some s ∧ s < kd.rows.length ∧ w.length ≤ j
theorem fa_turn {kd : Kd} (ok : kd.Ok) (x2 x3 x4 : Sl) (d : D) (j : Nat) (hj : j ≤ 1000) (env : Sg) (hi : FaI kd x2 x3 x4 j env) : ∃ e, nameT 7 d env = some e ∧ Yes 1 (faB e) fun fl => ∃ e', fl = .nx e' ∧ FaI kd x2 x3 x4 (j + 1) e' := by
  obtain ⟨w, s, x7, x8, x9, x10, rfl, hw, hwk, hs, hl⟩ := hi.ex
  refine ⟨_, rfl, ?_⟩
  have hk4 := ok.k4
  intro st h0 hn
  have e1 := fa_comp ok hs st x2 x3 x4 (.val (.str (W w))) (.val d) x8 x9 (List.range kd.k) fun x hx => List.mem_range.mp hx
  have ea : asgM (nameT 8) (frz (compM (r1M (aCons (opM subD (rd 1) (cst (.int 0))) aNil)) (nameT 10) (tstM (opM isNotM (opM subD (opM subD (opM subD (rd 1) (cst (.int 1))) (rd 6)) (rd 10)) (cst .non))) (rd 10) [10])) [.val .deck, .val (tK kd), x2, x3, x4, .val (.str (W w)), .val (.int ((s : Nat) : Int)), .val d, x8, x9, x10] st =
      some (.nx [.val .deck, .val (tK kd), x2, x3, x4, .val (.str (W w)), .val (.int ((s : Nat) : Int)), .val d, .val (.lst ((outs kd s).map fun (x : Nat) => D.int ((x : Nat) : Int))), x9, x10], st) := by
    generalize (tstM (opM isNotM (opM subD (opM subD (opM subD (rd 1) (cst (.int 1))) (rd 6)) (rd 10)) (cst .non))) = B at e1
    simp [rng_of (show kd.k ≤ 1000000 by omega), rngD_len, grd_of (show kd.k ≤ 1000000 by omega)]
    rw [rng_map, e1]
    rfl
  have hints : ((outs kd s).map fun (x : Nat) => D.int ((x : Nat) : Int)) = ((outs kd s).map fun (x : Nat) => ((x : Nat) : Int)).map D.int := by rw [List.map_map]; rfl
  have hne := ne_ints ((outs kd s).map fun (x : Nat) => ((x : Nat) : Int)) []
  rw [← hints, List.map_nil] at hne
  by_cases ho : outs kd s = []
  · refine ⟨_, st, ?_, ⟨_, rfl, ⟨w, s, .val d, .val (.lst []), x9, x10, rfl, hw, hwk, hs, by omega⟩⟩, Int.le_refl _, by omega⟩
    rw [ho] at ea hne
    unfold faB
    rw [v_seqM]
    have ea' : _ = _ := ea
    rw [show ([Sl.val D.deck, Sl.val (tK kd), x2, x3, x4, Sl.val (D.str (W w)), Sl.val (D.int ↑s), x7, x8, x9, x10].set 7 (Sl.val d)) = [.val .deck, .val (tK kd), x2, x3, x4, .val (.str (W w)), .val (.int ((s : Nat) : Int)), .val d, x8, x9, x10] from rfl]
    rw [ea']
    simp at hne
    simp [grd_of (show 0 ≤ 1000000 by decide), hne]
  · have hlen : ((outs kd s).map fun (x : Nat) => D.int ((x : Nat) : Int)).length ≤ 1000 := by
      rw [List.length_map]
      have : (outs kd s).length ≤ (List.range kd.k).length := List.length_filter_le _ _
      simp at this
      omega
    obtain ⟨y, s1, e2, hy, l1, l2⟩ := one_lst (ds := (outs kd s).map fun (x : Nat) => D.int ((x : Nat) : Int)) (fun z => ho (List.map_eq_nil_iff.mp z)) hlen st h0 (by omega)
    obtain ⟨x, hx, rfl⟩ := List.mem_map.mp hy
    obtain ⟨hx1, hx2⟩ := List.mem_filter.mp hx
    have hxk : x < kd.k := List.mem_range.mp hx1
    obtain ⟨s', hs'⟩ := Option.isSome_iff_exists.mp hx2
    have hlt := stp_lt ok hs hs'
    have e3 := item_D ok hs hxk
    rw [hs'] at e3
    have e4 := abcd_at (show x < 4 by omega)
    refine ⟨_, s1, ?_, ⟨_, rfl, ⟨w ++ [97 + x], s', .val d, .val (.lst ((outs kd s).map fun (x : Nat) => D.int ((x : Nat) : Int))), .val (.int ((x : Nat) : Int)), x10, rfl, hw.snoc hxk, ?_, hlt, by simp; omega⟩⟩, l1, by omega⟩
    · unfold faB
      rw [show ([Sl.val D.deck, Sl.val (tK kd), x2, x3, x4, Sl.val (D.str (W w)), Sl.val (D.int ↑s), x7, x8, x9, x10].set 7 (Sl.val d)) = [.val .deck, .val (tK kd), x2, x3, x4, .val (.str (W w)), .val (.int ((s : Nat) : Int)), .val d, x8, x9, x10] from rfl]
      rw [v_seqM, ea]
      have hdec : decide (((outs kd s).map fun (x : Nat) => ((x : Nat) : Int)) = []) = false := decide_eq_false fun z => ho (List.map_eq_nil_iff.mp z)
      rw [hdec] at hne
      generalize hLL : ((outs kd s).map fun (x : Nat) => D.int ((x : Nat) : Int)) = LL at *
      simp [grd_of (show 0 ≤ 1000000 by decide), hne, e2, row_D hs, e3, e4, grd_of (show w.length + 1 ≤ 1000000 by omega), W_app, grd_of (show 2 ≤ 1000000 by decide), optD]
    · rw [walk_snoc, hwk]
      show stp kd s (97 + x - 97) = _
      rw [Nat.add_sub_cancel_left, hs']
end Lw

set_option Elab.async false
set_option linter.all false
set_option maxRecDepth 100000
set_option maxHeartbeats 2000000
namespace Lw
open PySem MD
/-! ### _law_far -/
noncomputable def foB : MS := (seqM (asgM (tupT 2 (consT (nameT 5) (consT (nameT 6) nilT))) (tupM (aCons (cst (.str "")) (aCons (cst (.int 0)) aNil))))
 (seqM (forM (r1M (aCons (callM m__law_draw (aCons (rd 0) (aCons (cst (.int 40)) aNil))) aNil)) (nameT 7) faB)
 (ifS (truM (opM subD (opM subD (rd 1) (cst (.int 2))) (rd 6)))
 (appM 3 (rd 5))
 nxM)))
structure FoI (kd : Kd) (x2 : Sl) (j : Nat) (env : Sg) : Prop where
  ex : ∃ ws x4 x5 x6 x7 x8 x9 x10, env = [.val .deck, .val (tK kd), x2, .own (.lst, tW ws), x4, x5, x6, x7, x8, x9, x10] ∧ ws.length ≤ j ∧ ∀ w ∈ ws, Lets kd.k w ∧ isOf kd w = true ∧ w.length ≤ 1000
theorem fo_turn {kd : Kd} (ok : kd.Ok) (x2 : Sl) (d : D) (j : Nat) (hj : j ≤ 1000) (env : Sg) (hi : FoI kd x2 j env) : ∃ e, nameT 4 d env = some e ∧ Yes 41 (foB e) fun fl => ∃ e', fl = .nx e' ∧ FoI kd x2 (j + 1) e' := by
  obtain ⟨ws, x4, x5, x6, x7, x8, x9, x10, rfl, hl, hws⟩ := hi.ex
  refine ⟨_, rfl, ?_⟩
  intro st h0 hn
  obtain ⟨dd, s1, e1, ⟨r, rfl, r0, r1⟩, l1, l2⟩ := draw_yes (c := dc) (many := 40) (by decide) (by decide) st h0 (by omega)
  have e1' : m__law_draw [D.deck, D.int 40] st = some (.int r, s1) := e1
  obtain ⟨nr, hnr⟩ : ∃ n : Nat, r = ((n : Nat) : Int) := ⟨r.toNat, by omega⟩
  subst hnr
  have hF := forL_yesI (t := nameT 7) (b := faB) (k := 1) (I := FaI kd x2 (.own (.lst, tW ws)) (.val d)) (rngD 0 nr) 0 [.val .deck, .val (tK kd), x2, .own (.lst, tW ws), .val d, .val (.str (W [])), .val (.int ((0 : Nat) : Int)), x7, x8, x9, x10]
    ⟨[], 0, x7, x8, x9, x10, rfl, fun c hc => (by cases hc), rfl, ok.m0, Nat.zero_le _⟩ fun d' _ i e hi hI => fa_turn ok x2 (.own (.lst, tW ws)) (.val d) d' i (by rw [rngD_len] at hi; omega) e hI
  rw [rngD_len] at hF
  obtain ⟨fl, s2, e2, ⟨ee, rfl, hE⟩, l3, l4⟩ := hF s1 (by omega) (by omega)
  obtain ⟨w, s, y7, y8, y9, y10, rfl, hw, hwk, hs, hwl⟩ := hE.ex
  have hnr : nr < 40 := by omega
  have eE := end_D ok hs
  have pre : seqM (asgM (tupT 2 (consT (nameT 5) (consT (nameT 6) nilT))) (tupM (aCons (cst (.str "")) (aCons (cst (.int 0)) aNil)))) (forM (r1M (aCons (callM m__law_draw (aCons (rd 0) (aCons (cst (.int 40)) aNil))) aNil)) (nameT 7) faB) [.val .deck, .val (tK kd), x2, .own (.lst, tW ws), .val d, x5, x6, x7, x8, x9, x10] st =
      some (.nx [.val .deck, .val (tK kd), x2, .own (.lst, tW ws), .val d, .val (.str (W w)), .val (.int ((s : Nat) : Int)), y7, y8, y9, y10], s2) := by
    generalize faB = B at e2
    simp [grd_of (show 2 ≤ 1000000 by decide), e1', rng_of (show nr ≤ 1000000 by omega)]
    rw [empty_W]
    exact e2
  have whole : foB [.val .deck, .val (tK kd), x2, .own (.lst, tW ws), .val d, x5, x6, x7, x8, x9, x10] st = (ifS (truM (opM subD (opM subD (rd 1) (cst (.int 2))) (rd 6))) (appM 3 (rd 5)) nxM) [.val .deck, .val (tK kd), x2, .own (.lst, tW ws), .val d, .val (.str (W w)), .val (.int ((s : Nat) : Int)), y7, y8, y9, y10] s2 := by
    have : foB = seqM (asgM (tupT 2 (consT (nameT 5) (consT (nameT 6) nilT))) (tupM (aCons (cst (.str "")) (aCons (cst (.int 0)) aNil)))) (seqM (forM (r1M (aCons (callM m__law_draw (aCons (rd 0) (aCons (cst (.int 40)) aNil))) aNil)) (nameT 7) faB) (ifS (truM (opM subD (opM subD (rd 1) (cst (.int 2))) (rd 6))) (appM 3 (rd 5)) nxM)) := rfl
    rw [this]
    generalize (ifS (truM (opM subD (opM subD (rd 1) (cst (.int 2))) (rd 6))) (appM 3 (rd 5)) nxM) = LL
    generalize (forM (r1M (aCons (callM m__law_draw (aCons (rd 0) (aCons (cst (.int 40)) aNil))) aNil)) (nameT 7) faB) = FF at pre
    generalize (asgM (tupT 2 (consT (nameT 5) (consT (nameT 6) nilT))) (tupM (aCons (cst (.str "")) (aCons (cst (.int 0)) aNil)))) = AA at pre
    rw [v_seqM] at pre ⊢
    cases hA : AA [.val .deck, .val (tK kd), x2, .own (.lst, tW ws), .val d, x5, x6, x7, x8, x9, x10] st with
    | none => rw [hA] at pre; cases pre
    | some p =>
      obtain ⟨fl, sA⟩ := p
      rw [hA] at pre
      cases fl with
      | nx eA =>
        simp only [Option.bind_some] at pre ⊢
        rw [v_seqM, pre]
        rfl
      | rt r => cases pre
      | bk r => cases pre
      | ct r => cases pre
  have hst : st.n ≤ s2.n ∧ s2.n ≤ st.n + (41 : Nat) := ⟨by omega, by omega⟩
  by_cases he : isE kd s = true
  · rw [he] at eE
    refine ⟨_, s2, ?_, ⟨_, rfl, ⟨ws ++ [w], .val d, .val (.str (W w)), .val (.int ((s : Nat) : Int)), y7, y8, y9, y10, rfl, by simp; omega, fun v hv => ?_⟩⟩, hst.1, hst.2⟩
    · refine whole.trans ?_
      simp [eE, grd_of (show ws.length + 1 ≤ 1000000 by omega)]
    · rcases List.mem_append.mp hv with z | z
      · exact hws v z
      · rw [List.mem_singleton.mp z]
        refine ⟨hw, ?_, by omega⟩
        unfold isOf
        rw [hwk]
        exact he
  · have he' : isE kd s = false := by simpa using he
    rw [he'] at eE
    refine ⟨_, s2, ?_, ⟨_, rfl, ⟨ws, .val d, .val (.str (W w)), .val (.int ((s : Nat) : Int)), y7, y8, y9, y10, rfl, by omega, hws⟩⟩, hst.1, hst.2⟩
    refine whole.trans ?_
    simp [eE]
theorem far_yes {kd : Kd} (ok : kd.Ok) : Yes 820 (m__law_far [.deck, tK kd, .int 20]) fun d => ∃ ws, d = .lst (tW ws) ∧ ws.length ≤ 20 ∧ ∀ w ∈ ws, Lets kd.k w ∧ isOf kd w = true ∧ w.length ≤ 1000 := by
  intro st h0 hn
  have hF := forL_yesI (t := nameT 4) (b := foB) (k := 41) (I := FoI kd (.val (.int 20))) (rngD 0 20) 0 [.val .deck, .val (tK kd), .val (.int 20), .own (.lst, tW []), .un, .un, .un, .un, .un, .un, .un]
    ⟨[], .un, .un, .un, .un, .un, .un, .un, rfl, Nat.le_refl _, fun w hw => (by cases hw)⟩ fun d' _ i e hi hI => fo_turn ok _ d' i (by rw [rngD_len] at hi; omega) e hI
  rw [rngD_len] at hF
  obtain ⟨fl, s1, e1, ⟨ee, rfl, hE⟩, l1, l2⟩ := hF st h0 (by omega)
  obtain ⟨ws, x4, x5, x6, x7, x8, x9, x10, rfl, hl, hws⟩ := hE.ex
  refine ⟨.lst (tW ws), s1, ?_, ⟨ws, rfl, by omega, hws⟩, l1, by omega⟩
  have hb : b__law_far = seqM (ownM 3 (lstM aNil)) (seqM (forM (r1M (aCons (rd 2) aNil)) (nameT 4) foB) (frzM 3 (retM (rd 3)))) := rfl
  have hr : rng1 [.int 20] = some (rngD 0 20) := rng_of (k := 20) (by decide)
  unfold m__law_far
  rw [hb]
  generalize foB = B at e1
  simp [grd_of (show 0 ≤ 1000000 by decide), hr]
  simp at e1
  rw [e1]
  simp
end Lw

set_option Elab.async false
set_option linter.all false
set_option maxRecDepth 100000
set_option maxHeartbeats 2000000
namespace Lw
open PySem MD
theorem maps_of {α : Type} {f : α → D} {P : α → Prop} : ∀ (l : List D), (∀ x ∈ l, ∃ i, x = f i ∧ P i) → ∃ ns : List α, l = ns.map f ∧ ∀ i ∈ ns, P i
  | [], _ => ⟨[], rfl, fun _ h => nomatch h⟩
  | x :: l, h => by
    obtain ⟨i, rfl, hi⟩ := h x List.mem_cons_self
    obtain ⟨ns, rfl, hns⟩ := maps_of l fun y hy => h y (List.mem_cons_of_mem _ hy)
    exact ⟨i :: ns, rfl, fun j hj => by
      rcases List.mem_cons.mp hj with z | z
      · rw [z]; exact hi
      · exact hns j z⟩
/-- one number drawn below a number -/
theorem drawN {m : Nat} (h0 : 0 < m) (h1 : m ≤ 1000) : Yes 1 (m__law_draw [.deck, .int ((m : Nat) : Int)]) fun d => ∃ r : Nat, d = .int ((r : Nat) : Int) ∧ r < m := by
  refine (draw_yes (c := dc) (many := (m : Int)) (by omega) (by omega)).mono (Nat.le_refl _) fun d ⟨r, e, r0, r1⟩ => ⟨r.toNat, ?_, by omega⟩
  rw [e, Int.toNat_of_nonneg r0]
/-! units -/
noncomputable def unE : ME := (callM m__law_one (aCons (rd 0) (aCons (frz (lstM (aCons (rd 2) (aCons (cst (.int 1)) (aCons (cst (.int 1)) (aCons (cst (.int 2)) (aCons (cst (.int 3)) (aCons (opM addM (callM m__law_draw (aCons (rd 0) (aCons (cst (.int 9)) aNil))) (cst (.int 1))) aNil)))))))) aNil)))
theorem unE_yes (e : Sg) (h : e[0]? = some (.val .deck)) (h2 : e[2]? = some (.val (.int 0))) : Yes 2 (unE e) fun d => ∃ i : Int, d = .int i ∧ 0 ≤ i := by
  intro st h0 hn
  obtain ⟨d1, s1, e1, ⟨r, rfl, r1⟩, l1, l2⟩ := drawN (m := 9) (by decide) (by decide) st h0 (by omega)
  obtain ⟨d2, s2, e2, m2, l3, l4⟩ := one_lst (ds := [.int 0, .int 1, .int 1, .int 2, .int 3, .int ((r : Int) + 1)]) (by simp) (by simp) s1 (by omega) (by omega)
  refine ⟨d2, s2, ?_, ?_, by omega, by omega⟩
  · have e1' : m__law_draw [D.deck, D.int 9] st = some (.int ((r : Nat) : Int), s1) := e1
    simp [unE, h, h2, e1', grd_of (show 6 ≤ 1000000 by decide), e2]
  · simp only [List.mem_cons, List.mem_nil_iff, or_false] at m2
    rcases m2 with rfl | rfl | rfl | rfl | rfl | rfl <;> exact ⟨_, rfl, by omega⟩
theorem unit_yes {k : Nat} (hk : k ≤ 4) : Yes 8 (m__law_unit [.deck, .int (k : Nat), .int 0]) fun d => ∃ us : List Int, d = tI us ∧ us.length = k ∧ ∀ x ∈ us, 0 ≤ x := by
  intro st h0 hn
  have hc := compL_yes (t := nameT 3) (f := unE) (env := [.val .deck, .val (.int (k : Nat)), .val (.int 0), .un]) (k := 2) (P := fun d => ∃ i : Int, d = .int i ∧ 0 ≤ i) (rngD 0 k) fun d _ => ⟨_, rfl, unE_yes _ rfl rfl⟩
  rw [rngD_len] at hc
  obtain ⟨l, s1, e1, ⟨hl, hp⟩, l1, l2⟩ := hc st h0 (by omega)
  obtain ⟨us, rfl, hus⟩ := maps_of l hp
  refine ⟨tI us, s1, ?_, ⟨us, rfl, by simpa using hl, hus⟩, l1, by omega⟩
  have hb : b__law_unit = retM (cbM tupleM (aCons (frz (compM (r1M (aCons (rd 1) aNil)) (nameT 3) yesM unE [3])) aNil)) := rfl
  unfold m__law_unit
  rw [hb]
  generalize hg : unE = B at e1
  simp [rng_of (show k ≤ 1000000 by omega), rngD_len, grd_of (show k ≤ 1000000 by omega)]
  rw [e1]
  simp
/-! kinds -/
def OkO (m : Nat) (d : D) : Prop := ∃ o : Option Nat, d = optD o ∧ ∀ s, o = some s → s < m
noncomputable def rwE : ME := (callM m__law_one (aCons (rd 0) (aCons (slM slAny (rd 8) (prt (callM m__law_draw (aCons (rd 0) (aCons (cst (.int 2)) aNil)))) noP) aNil)))
theorem rwE_yes {m : Nat} (e : Sg) (ds : List D) (h : e[0]? = some (.val .deck)) (h8 : e[8]? = some (.val (.lst ds))) (hl : ds.length = 6) (hd : ∀ d ∈ ds, OkO m d) : Yes 2 (rwE e) (OkO m) := by
  intro st h0 hn
  obtain ⟨d1, s1, e1, ⟨r, rfl, r1⟩, l1, l2⟩ := drawN (m := 2) (by decide) (by decide) st h0 (by omega)
  have e1' : m__law_draw [D.deck, D.int 2] st = some (.int ((r : Nat) : Int), s1) := e1
  have ec : cutD ds (some ((r : Nat) : Int)) none = ds.drop r := by rw [cutD_from (by omega) (by omega)]; simp
  have hne : ds.drop r ≠ [] := fun z => by
    have := congrArg List.length z
    rw [List.length_drop] at this
    simp at this
    omega
  obtain ⟨d2, s2, e2, m2, l3, l4⟩ := one_lst (ds := ds.drop r) hne (by rw [List.length_drop]; omega) s1 (by omega) (by omega)
  refine ⟨d2, s2, ?_, hd d2 (List.mem_of_mem_drop m2), by omega, by omega⟩
  simp [rwE, h, h8, e1', ec, e2]
noncomputable def kiB : MS := (seqM (asgM (nameT 8) (frz (lstM (aCons (cst .non) (aCons (cst (.int 0)) (aCons (opM modM (cbM int1M (aCons (opM addM (rd 7) (cst (.int 1))) aNil)) (rd 4)) (aCons (callM m__law_draw (aCons (rd 0) (aCons (rd 4) aNil))) (aCons (callM m__law_draw (aCons (rd 0) (aCons (rd 4) aNil))) (aCons (callM m__law_draw (aCons (rd 0) (aCons (rd 4) aNil))) aNil)))))))))
 (seqM (appM 5 (cbM tupleM (aCons (frz (compM (r1M (aCons (rd 3) aNil)) (nameT 9) yesM rwE [9])) aNil)))
 (appM 6 (opM gtM (callM m__law_draw (aCons (rd 0) (aCons (cst (.int 4)) aNil))) (cst (.int 0))))))
structure KiI (k m : Nat) (x1 x2 : Sl) (j : Nat) (env : Sg) : Prop where
  ex : ∃ (rows : List (List (Option Nat))) (ends : List Bool) (x7 x8 x9 : Sl), env = [.val .deck, x1, x2, .val (.int ((k : Nat) : Int)), .val (.int ((m : Nat) : Int)), .own (.lst, rows.map rowD), .own (.lst, ends.map D.bl), x7, x8, x9] ∧ rows.length = j ∧ ends.length = j ∧ (∀ r ∈ rows, r.length = k) ∧ ∀ r ∈ rows, ∀ s, some s ∈ r → s < m
theorem ki_turn {k m : Nat} (hk : k ≤ 4) (hm0 : 0 < m) (hm : m ≤ 100) (x1 x2 : Sl) (i : Nat) (d : D) (hd : ∃ q : Nat, d = .int ((q : Nat) : Int)) (hi : i ≤ 1000) (env : Sg) (hI : KiI k m x1 x2 i env) : ∃ e, nameT 7 d env = some e ∧ Yes 12 (kiB e) fun fl => ∃ e', fl = .nx e' ∧ KiI k m x1 x2 (i + 1) e' := by
  obtain ⟨rows, ends, x7, x8, x9, rfl, h1, h2, h3, h4⟩ := hI.ex
  obtain ⟨q, rfl⟩ := hd
  refine ⟨_, rfl, ?_⟩
  intro st h0 hn
  obtain ⟨_, s1, e1, ⟨r1, rfl, q1⟩, l1, l2⟩ := drawN (m := m) hm0 (by omega) st h0 (by omega)
  obtain ⟨_, s2, e2, ⟨r2, rfl, q2⟩, l3, l4⟩ := drawN (m := m) hm0 (by omega) s1 (by omega) (by omega)
  obtain ⟨_, s3, e3, ⟨r3, rfl, q3⟩, l5, l6⟩ := drawN (m := m) hm0 (by omega) s2 (by omega) (by omega)
  have hmod : modM (.int (((q : Nat) : Int) + 1)) (.int ((m : Nat) : Int)) = some (.int ((((q : Nat) : Int) + 1) % ((m : Nat) : Int))) := by
    show (if (0 : Int) < ((m : Nat) : Int) then some (D.int ((((q : Nat) : Int) + 1) % ((m : Nat) : Int))) else none) = _
    rw [if_pos (by omega)]
  have hok : ∀ x ∈ [D.non, .int 0, (.int ((((q : Nat) : Int) + 1) % ((m : Nat) : Int))), .int ((r1 : Nat) : Int), .int ((r2 : Nat) : Int), .int ((r3 : Nat) : Int)], OkO m x := fun x hx => by
    simp only [List.mem_cons, List.mem_nil_iff, or_false] at hx
    rcases hx with rfl | rfl | rfl | rfl | rfl | rfl
    · exact ⟨none, rfl, fun s h => by cases h⟩
    · exact ⟨some 0, rfl, fun s h => by cases h; exact hm0⟩
    · exact ⟨some ((q + 1) % m), by simp [optD], fun s h => by cases h; exact Nat.mod_lt _ hm0⟩
    · exact ⟨some r1, rfl, fun s h => by cases h; exact q1⟩
    · exact ⟨some r2, rfl, fun s h => by cases h; exact q2⟩
    · exact ⟨some r3, rfl, fun s h => by cases h; exact q3⟩
  generalize hLL : [D.non, .int 0, (.int ((((q : Nat) : Int) + 1) % ((m : Nat) : Int))), .int ((r1 : Nat) : Int), .int ((r2 : Nat) : Int), .int ((r3 : Nat) : Int)] = LL at hok
  have hLl : LL.length = 6 := by rw [← hLL]; rfl
  have hc := compL_yes (t := nameT 9) (f := rwE) (env := [.val .deck, x1, x2, .val (.int ((k : Nat) : Int)), .val (.int ((m : Nat) : Int)), .own (.lst, rows.map rowD), .own (.lst, ends.map D.bl), .val (.int ((q : Nat) : Int)), .val (.lst LL), .un]) (k := 2) (P := OkO m) (rngD 0 k) fun d' _ => ⟨_, rfl, rwE_yes _ LL rfl rfl hLl hok⟩
  rw [rngD_len] at hc
  obtain ⟨l, s4, e4, ⟨hl, hp⟩, l7, l8⟩ := hc s3 (by omega) (by omega)
  obtain ⟨row, rfl, hrow⟩ := maps_of l hp
  obtain ⟨_, s5, e5, ⟨r5, rfl, q5⟩, l9, l10⟩ := drawN (m := 4) (by decide) (by decide) s4 (by omega) (by omega)
  have e5' : m__law_draw [D.deck, D.int 4] s4 = some (.int ((r5 : Nat) : Int), s5) := e5
  have hrl : row.length = k := by simpa using hl
  refine ⟨_, s5, ?_, ⟨_, rfl, ⟨rows ++ [row], ends ++ [decide (0 < (r5 : Int))], .val (.int ((q : Nat) : Int)), .val (.lst LL), x9, rfl, by simp [h1], by simp [h2], fun r hr => ?_, fun r hr s hs => ?_⟩⟩, by omega, by omega⟩
  · have hset : ([Sl.val D.deck, x1, x2, .val (.int ((k : Nat) : Int)), .val (.int ((m : Nat) : Int)), .own (.lst, rows.map rowD), .own (.lst, ends.map D.bl), x7, x8, x9].set 7 (.val (.int ((q : Nat) : Int)))) = [.val .deck, x1, x2, .val (.int ((k : Nat) : Int)), .val (.int ((m : Nat) : Int)), .own (.lst, rows.map rowD), .own (.lst, ends.map D.bl), .val (.int ((q : Nat) : Int)), x8, x9] := rfl
    rw [hset]
    unfold kiB
    generalize rwE = B at e4
    simp [e1, e2, e3, hmod, grd_of (show LL.length ≤ 1000000 by omega), hLL, grd_of (show rows.length + 1 ≤ 1000000 by omega), grd_of (show ends.length + 1 ≤ 1000000 by omega), rng_of (show k ≤ 1000000 by omega), rngD_len, grd_of (show k ≤ 1000000 by omega)]
    rw [e4]
    simp [e5', grd_of (show ends.length + 1 ≤ 1000000 by omega)]
  · rcases List.mem_append.mp hr with z | z
    · exact h3 r z
    · rw [List.mem_singleton.mp z]; exact hrl
  · rcases List.mem_append.mp hr with z | z
    · exact h4 r z s hs
    · rw [List.mem_singleton.mp z] at hs
      exact hrow _ hs s rfl
theorem kind_yes : Yes 60 (m__law_kind [.deck, .int 4, .int 3]) fun d => ∃ kd : Kd, d = tK kd ∧ kd.Ok := by
  intro st h0 hn
  obtain ⟨_, s1, e1, ⟨r1, rfl, q1⟩, l1, l2⟩ := drawN (m := 4) (by decide) (by decide) st h0 (by omega)
  obtain ⟨_, s2, e2, ⟨r2, rfl, q2⟩, l3, l4⟩ := drawN (m := 3) (by decide) (by decide) s1 (by omega) (by omega)
  obtain ⟨_, s3, e3, ⟨r3, rfl, q3⟩, l5, l6⟩ := drawN (m := 3) (by decide) (by decide) s2 (by omega) (by omega)
  have e1' : m__law_draw [D.deck, D.int 4] st = some (.int ((r1 : Nat) : Int), s1) := e1
  have e2' : m__law_draw [D.deck, D.int 3] s1 = some (.int ((r2 : Nat) : Int), s2) := e2
  have e3' : m__law_draw [D.deck, D.int 3] s2 = some (.int ((r3 : Nat) : Int), s3) := e3
  obtain ⟨k, hk⟩ : ∃ k : Nat, k = 1 + r1 := ⟨_, rfl⟩
  obtain ⟨m, hm⟩ : ∃ m : Nat, m = 1 + r2 := ⟨_, rfl⟩
  have ek : (1 : Int) + ((r1 : Nat) : Int) = ((k : Nat) : Int) := by omega
  have em : (1 : Int) + ((r2 : Nat) : Int) = ((m : Nat) : Int) := by omega
  by_cases hr3 : r3 = 0
  · subst hr3
    have hmul : mulA (.tup [.int 0]) (.int ((k : Nat) : Int)) = some (.tup ((List.replicate k (some 0)).map optD)) := by
      show (if ([D.int 0].length ≤ 1000 ∧ (-1000 : Int) ≤ ((k : Nat) : Int) ∧ ((k : Nat) : Int) ≤ 1000) then some (D.tup (List.replicate ((k : Nat) : Int).toNat [D.int 0]).flatten) else none) = _
      rw [if_pos ⟨by simp, by omega, by omega⟩, Int.toNat_natCast]
      congr 2
      induction k with
      | zero => rfl
      | succ n ih =>
        have : ∀ n : Nat, (List.replicate n [D.int 0]).flatten = (List.replicate n (some 0)).map optD := fun n => by
          induction n with
          | zero => rfl
          | succ n ih => rw [List.replicate_succ, List.flatten_cons, ih, List.replicate_succ]; rfl
        exact this _
    refine ⟨tK ⟨k, [List.replicate k (some 0)], [true]⟩, s3, ?_, ⟨_, rfl, ⟨by show 1 ≤ k; omega, by show k ≤ 4; omega, by show 1 ≤ 1; omega, by show 1 ≤ 9; omega, rfl, fun r hr => ?_, fun r hr s hs => ?_⟩⟩, by omega, by omega⟩
    · simp [m__law_kind, b__law_kind, e1', e2', e3', ek, em, hmul, grd_of (show 1 ≤ 1000000 by decide), grd_of (show 3 ≤ 1000000 by decide)]
    · rw [List.mem_singleton.mp hr]; simp
    · rw [List.mem_singleton.mp hr] at hs
      have := List.eq_of_mem_replicate hs
      cases this
      show 0 < 1; omega
  · have hF := forL_yesI (t := nameT 7) (b := kiB) (k := 12) (I := KiI k m (.val (.int 4)) (.val (.int 3))) (rngD 0 m) 0 [.val .deck, .val (.int 4), .val (.int 3), .val (.int ((k : Nat) : Int)), .val (.int ((m : Nat) : Int)), .own (.lst, []), .own (.lst, []), .un, .un, .un]
      ⟨[], [], .un, .un, .un, rfl, rfl, rfl, fun r h => (by cases h), fun r h => (by cases h)⟩ fun d hd i e hi hI => ki_turn (by omega) (by omega) (by omega) _ _ i d (by
        rw [rng_map] at hd
        obtain ⟨q, _, rfl⟩ := List.mem_map.mp hd
        exact ⟨q, rfl⟩) (by rw [rngD_len] at hi; omega) e hI
    rw [rngD_len] at hF
    obtain ⟨fl, s4, e4, ⟨ee, rfl, hE⟩, l7, l8⟩ := hF s3 (by omega) (by omega)
    obtain ⟨rows, ends, x7, x8, x9, rfl, h1, h2, h3, h4⟩ := hE.ex
    refine ⟨tK ⟨k, rows, ends⟩, s4, ?_, ⟨_, rfl, ⟨by show 1 ≤ k; omega, by show k ≤ 4; omega, by show 1 ≤ rows.length; omega, by show rows.length ≤ 9; omega, by show ends.length = rows.length; omega, h3, fun r hr s hs => by show s < rows.length; have := h4 r hr s hs; omega⟩⟩, by omega, by omega⟩
    have hb : b__law_kind = seqM (parM 3 4 (aCons (opM addM (cst (.int 1)) (callM m__law_draw (aCons (rd 0) (aCons (rd 1) aNil)))) (aCons (opM addM (cst (.int 1)) (callM m__law_draw (aCons (rd 0) (aCons (rd 2) aNil)))) aNil)))
      (seqM (ifS (tstM (opM eqM (callM m__law_draw (aCons (rd 0) (aCons (cst (.int 3)) aNil))) (cst (.int 0))))
      (retM (tupM (aCons (rd 3) (aCons (tupM (aCons (opM mulA (tupM (aCons (cst (.int 0)) aNil)) (rd 3)) aNil)) (aCons (tupM (aCons (cst (.bl true)) aNil)) aNil)))))
      nxM)
      (seqM (par2 5 6 (xL (lstM aNil)) (xL (lstM aNil)))
      (seqM (forM (r1M (aCons (rd 4) aNil)) (nameT 7) kiB)
      (retM (tupM (aCons (rd 3) (aCons (cbM tupleM (aCons (rdW 5) aNil)) (aCons (cbM tupleM (aCons (rdW 6) aNil)) aNil)))))))) := rfl
    unfold m__law_kind
    rw [hb]
    generalize kiB = B at e4
    have hr3' : ¬ ((r3 : Nat) : Int) = 0 := by omega
    simp [e1', e2', e3', ek, em, hr3, grd_of (show 0 ≤ 1000000 by decide), rng_of (show m ≤ 1000000 by omega)]
    rw [e4]
    simp [grd_of (show 3 ≤ 1000000 by decide)]
end Lw

set_option Elab.async false
set_option linter.all false
set_option maxRecDepth 100000
set_option maxHeartbeats 2000000
namespace Lw
open PySem MD
noncomputable def loV : ME := (ifM (tstM (opM ltA (opM addM (rd 4) (cst (.int 1))) (rd 2))) (opM addM (rd 4) (cst (.int 1))) (callM m__law_one (aCons (rd 0) (aCons (frz (lstM (aCons (cst .non) (aCons (cst (.int 0)) (aCons (opM subM (rd 2) (cst (.int 2))) aNil))))) aNil))))
noncomputable def loB : MS := (seqM (ownM 5 (opF lstMul (frz (lstM (aCons (cst .non) aNil))) (rd 1)))
 (seqM (lsetM 5 (callM m__law_draw (aCons (rd 0) (aCons (rd 1) aNil))) loV)
 (seqM (ifS (tstM (opM eqM (callM m__law_draw (aCons (rd 0) (aCons (cst (.int 4)) aNil))) (cst (.int 0))))
 (lsetM 5 (callM m__law_draw (aCons (rd 0) (aCons (rd 1) aNil))) (callM m__law_draw (aCons (rd 0) (aCons (rd 2) aNil))))
 nxM)
 (appM 3 (cbM tupleM (aCons (rdW 5) aNil))))))
structure LoI (k m : Nat) (j : Nat) (env : Sg) : Prop where
  ex : ∃ (rows : List (List (Option Nat))) (x4 x5 : Sl), env = [.val .deck, .val (.int ((k : Nat) : Int)), .val (.int ((m : Nat) : Int)), .own (.lst, rows.map rowD), x4, x5] ∧ rows.length = j ∧ (∀ r ∈ rows, r.length = k) ∧ ∀ r ∈ rows, ∀ s, some s ∈ r → s < m
theorem loV_yes {k m : Nat} (hm0 : 4 ≤ m) (hm : m ≤ 100) (q : Nat) (x3 x5 : Sl) : Yes 1 (loV [.val .deck, .val (.int ((k : Nat) : Int)), .val (.int ((m : Nat) : Int)), x3, .val (.int ((q : Nat) : Int)), x5]) (OkO m) := by
  intro st h0 hn
  by_cases hq : q + 1 < m
  · refine ⟨.int ((q : Int) + 1), st, ?_, ⟨some (q + 1), by simp [optD], fun s h => by cases h; exact hq⟩, Int.le_refl _, by omega⟩
    have hq' : ((q : Nat) : Int) + 1 < ((m : Nat) : Int) := by omega
    simp [loV, hq']
  · obtain ⟨d2, s2, e2, m2, l3, l4⟩ := one_lst (ds := [.non, .int 0, .int (((m : Nat) : Int) - 2)]) (by simp) (by simp) st (by omega) (by omega)
    have hq' : ¬ ((q : Nat) : Int) + 1 < ((m : Nat) : Int) := by omega
    refine ⟨d2, s2, ?_, ?_, l3, l4⟩
    · simp [loV, hq', grd_of (show 3 ≤ 1000000 by decide), e2]
    · simp only [List.mem_cons, List.mem_nil_iff, or_false] at m2
      rcases m2 with rfl | rfl | rfl
      · exact ⟨none, rfl, fun s h => by cases h⟩
      · exact ⟨some 0, rfl, fun s h => by cases h; omega⟩
      · refine ⟨some (m - 2), ?_, fun s h => by cases h; omega⟩
        have em : ((m - 2 : Nat) : Int) = ((m : Nat) : Int) - 2 := by omega
        rw [optD, em]
theorem nones (k : Nat) (hk : k ≤ 1000) : lstMul (.lst [.non]) (.int ((k : Nat) : Int)) = some ((List.replicate k (none : Option Nat)).map optD) := by
  show (if ([D.non].length ≤ 1000 ∧ (-1000 : Int) ≤ ((k : Nat) : Int) ∧ ((k : Nat) : Int) ≤ 1000) then some (List.replicate ((k : Nat) : Int).toNat [D.non]).flatten else none) = _
  rw [if_pos ⟨by simp, by omega, by omega⟩, Int.toNat_natCast]
  congr 1
  have : ∀ n : Nat, (List.replicate n [D.non]).flatten = (List.replicate n (none : Option Nat)).map optD := fun n => by
    induction n with
    | zero => rfl
    | succ n ih => rw [List.replicate_succ, List.flatten_cons, ih, List.replicate_succ]; rfl
  exact this k
theorem ixN_nat {n r : Nat} (h : r < n) : L2.ixN n ((r : Nat) : Int) = some r := by
  unfold L2.ixN
  rw [if_pos (by omega), if_pos (by omega)]
  simp
def RowOk (k m : Nat) (row : List (Option Nat)) : Prop := row.length = k ∧ ∀ s, some s ∈ row → s < m
theorem RowOk.set {k m : Nat} {row : List (Option Nat)} (h : RowOk k m row) (j : Nat) {o : Option Nat} (ho : ∀ s, o = some s → s < m) : RowOk k m (row.set j o) := by
  refine ⟨by rw [List.length_set]; exact h.1, fun s hs => ?_⟩
  rcases List.mem_or_eq_of_mem_set hs with z | z
  · exact h.2 s z
  · exact ho s z.symm
theorem lo_turn {k m : Nat} (hk0 : 0 < k) (hk : k ≤ 4) (hm0 : 4 ≤ m) (hm : m ≤ 100) (i : Nat) (d : D) (hd : ∃ q : Nat, d = .int ((q : Nat) : Int)) (hi : i ≤ 1000) (env : Sg) (hI : LoI k m i env) : ∃ e, nameT 4 d env = some e ∧ Yes 5 (loB e) fun fl => ∃ e', fl = .nx e' ∧ LoI k m (i + 1) e' := by
  obtain ⟨rows, x4, x5, rfl, h1, h3, h4⟩ := hI.ex
  obtain ⟨q, rfl⟩ := hd
  refine ⟨_, rfl, ?_⟩
  have hset : ([Sl.val D.deck, .val (.int ((k : Nat) : Int)), .val (.int ((m : Nat) : Int)), .own (.lst, rows.map rowD), x4, x5].set 4 (.val (.int ((q : Nat) : Int)))) = [.val .deck, .val (.int ((k : Nat) : Int)), .val (.int ((m : Nat) : Int)), .own (.lst, rows.map rowD), .val (.int ((q : Nat) : Int)), x5] := rfl
  rw [hset]
  intro st h0 hn
  have row0 : RowOk k m (List.replicate k none) := ⟨by simp, fun s hs => by have := List.eq_of_mem_replicate hs; cases this⟩
  obtain ⟨_, s1, e1, ⟨o, rfl, ho⟩, l1, l2⟩ := loV_yes (k := k) hm0 hm q (.own (.lst, rows.map rowD)) (.own (.lst, (List.replicate k (none : Option Nat)).map optD)) st h0 (by omega)
  obtain ⟨_, s2, e2, ⟨r, rfl, hr⟩, l3, l4⟩ := drawN (m := k) hk0 (by omega) s1 (by omega) (by omega)
  have row1 := row0.set r ho
  have e1s : seqM (ownM 5 (opF lstMul (frz (lstM (aCons (cst .non) aNil))) (rd 1))) (lsetM 5 (callM m__law_draw (aCons (rd 0) (aCons (rd 1) aNil))) loV) [.val .deck, .val (.int ((k : Nat) : Int)), .val (.int ((m : Nat) : Int)), .own (.lst, rows.map rowD), .val (.int ((q : Nat) : Int)), x5] st =
      some (.nx [.val .deck, .val (.int ((k : Nat) : Int)), .val (.int ((m : Nat) : Int)), .own (.lst, rows.map rowD), .val (.int ((q : Nat) : Int)), .own (.lst, ((List.replicate k none).set r o).map optD)], s2) := by
    generalize loV = B at e1
    have hx : L2.ixN k ((r : Nat) : Int) = some r := ixN_nat hr
    simp [grd_of (show 1 ≤ 1000000 by decide), nones k (by omega)]
    simp at e1
    simp [e1, e2, hx]
  obtain ⟨_, s3, e3, ⟨r3, rfl, q3⟩, l5, l6⟩ := drawN (m := 4) (by decide) (by decide) s2 (by omega) (by omega)
  have e3' : m__law_draw [D.deck, D.int 4] s2 = some (.int ((r3 : Nat) : Int), s3) := e3
  obtain ⟨row, s5, e5, hrow, l7, l8⟩ : ∃ row s5, (ifS (tstM (opM eqM (callM m__law_draw (aCons (rd 0) (aCons (cst (.int 4)) aNil))) (cst (.int 0)))) (lsetM 5 (callM m__law_draw (aCons (rd 0) (aCons (rd 1) aNil))) (callM m__law_draw (aCons (rd 0) (aCons (rd 2) aNil)))) nxM)
      [.val .deck, .val (.int ((k : Nat) : Int)), .val (.int ((m : Nat) : Int)), .own (.lst, rows.map rowD), .val (.int ((q : Nat) : Int)), .own (.lst, ((List.replicate k none).set r o).map optD)] s2 =
      some (.nx [.val .deck, .val (.int ((k : Nat) : Int)), .val (.int ((m : Nat) : Int)), .own (.lst, rows.map rowD), .val (.int ((q : Nat) : Int)), .own (.lst, row.map optD)], s5) ∧ RowOk k m row ∧ s3.n ≤ s5.n ∧ s5.n ≤ s3.n + 2 := by
    by_cases hz : r3 = 0
    · subst hz
      obtain ⟨_, s4, e4, ⟨r4, rfl, q4⟩, l7, l8⟩ := drawN (m := m) (by omega) (by omega) s3 (by omega) (by omega)
      obtain ⟨_, s5, e5, ⟨r5, rfl, q5⟩, l9, l10⟩ := drawN (m := k) hk0 (by omega) s4 (by omega) (by omega)
      refine ⟨((List.replicate k none).set r o).set r5 (some r4), s5, ?_, row1.set r5 (fun s h => by cases h; exact q4), by omega, by omega⟩
      have hx : L2.ixN k ((r5 : Nat) : Int) = some r5 := ixN_nat q5
      have hl : (List.map optD ((List.replicate k none).set r o)).length = k := by simp
      simp [e3', e4, e5, hx]
      rfl
    · refine ⟨_, s3, ?_, row1, Int.le_refl _, by omega⟩
      have hz' : ¬ ((r3 : Nat) : Int) = 0 := by omega
      simp [e3', hz]
  refine ⟨_, s5, ?_, ⟨_, rfl, ⟨rows ++ [row], .val (.int ((q : Nat) : Int)), .own (.lst, row.map optD), rfl, by simp [h1], fun r hr => ?_, fun r hr s hs => ?_⟩⟩, by omega, by omega⟩
  · have : loB = seqM (ownM 5 (opF lstMul (frz (lstM (aCons (cst .non) aNil))) (rd 1))) (seqM (lsetM 5 (callM m__law_draw (aCons (rd 0) (aCons (rd 1) aNil))) loV)
      (seqM (ifS (tstM (opM eqM (callM m__law_draw (aCons (rd 0) (aCons (cst (.int 4)) aNil))) (cst (.int 0)))) (lsetM 5 (callM m__law_draw (aCons (rd 0) (aCons (rd 1) aNil))) (callM m__law_draw (aCons (rd 0) (aCons (rd 2) aNil)))) nxM) (appM 3 (cbM tupleM (aCons (rdW 5) aNil))))) := rfl
    rw [this]
    generalize (lsetM 5 (callM m__law_draw (aCons (rd 0) (aCons (rd 1) aNil))) loV) = A2 at e1s
    generalize (ifS (tstM (opM eqM (callM m__law_draw (aCons (rd 0) (aCons (cst (.int 4)) aNil))) (cst (.int 0)))) (lsetM 5 (callM m__law_draw (aCons (rd 0) (aCons (rd 1) aNil))) (callM m__law_draw (aCons (rd 0) (aCons (rd 2) aNil)))) nxM) = A3 at e5
    generalize ownM 5 (opF lstMul (frz (lstM (aCons (cst .non) aNil))) (rd 1)) = A1 at e1s
    rw [v_seqM] at e1s ⊢
    cases hA : A1 [.val .deck, .val (.int ((k : Nat) : Int)), .val (.int ((m : Nat) : Int)), .own (.lst, rows.map rowD), .val (.int ((q : Nat) : Int)), x5] st with
    | none => rw [hA] at e1s; cases e1s
    | some p =>
      obtain ⟨fl, sA⟩ := p
      rw [hA] at e1s
      cases fl with
      | nx eA =>
        simp only [Option.bind_some] at e1s ⊢
        rw [v_seqM, e1s]
        simp only [Option.bind_some]
        rw [v_seqM, e5]
        simp [grd_of (show rows.length + 1 ≤ 1000000 by omega)]
      | rt r => cases e1s
      | bk r => cases e1s
      | ct r => cases e1s
  · rcases List.mem_append.mp hr with z | z
    · exact h3 r z
    · rw [List.mem_singleton.mp z]; exact hrow.1
  · rcases List.mem_append.mp hr with z | z
    · exact h4 r z s hs
    · rw [List.mem_singleton.mp z] at hs
      exact hrow.2 s hs
theorem long_yes {k : Nat} (hk0 : 0 < k) (hk : k ≤ 4) : Yes 60 (m__law_long [.deck, .int ((k : Nat) : Int)]) fun d => ∃ kd : Kd, d = tK kd ∧ kd.Ok := by
  intro st h0 hn
  obtain ⟨_, s1, e1, ⟨r1, rfl, q1⟩, l1, l2⟩ := drawN (m := 5) (by decide) (by decide) st h0 (by omega)
  have e1' : m__law_draw [D.deck, D.int 5] st = some (.int ((r1 : Nat) : Int), s1) := e1
  obtain ⟨m, hm⟩ : ∃ m : Nat, m = 4 + r1 := ⟨_, rfl⟩
  have em : (4 : Int) + ((r1 : Nat) : Int) = ((m : Nat) : Int) := by omega
  have hF := forL_yesI (t := nameT 4) (b := loB) (k := 5) (I := LoI k m) (rngD 0 m) 0 [.val .deck, .val (.int ((k : Nat) : Int)), .val (.int ((m : Nat) : Int)), .own (.lst, []), .un, .un]
    ⟨[], .un, .un, rfl, rfl, fun r h => (by cases h), fun r h => (by cases h)⟩ fun d hd i e hi hI => lo_turn hk0 hk (by omega) (by omega) i d (by
      rw [rng_map] at hd
      obtain ⟨q, _, rfl⟩ := List.mem_map.mp hd
      exact ⟨q, rfl⟩) (by rw [rngD_len] at hi; omega) e hI
  rw [rngD_len] at hF
  obtain ⟨fl, s2, e2, ⟨ee, rfl, hE⟩, l3, l4⟩ := hF s1 (by omega) (by omega)
  obtain ⟨rows, x4, x5, rfl, h1, h3, h4⟩ := hE.ex
  have hc := compL_yes (t := nameT 4) (f := opM eqM (callM m__law_draw (aCons (rd 0) (aCons (cst (.int 3)) aNil))) (cst (.int 0))) (env := [.val .deck, .val (.int ((k : Nat) : Int)), .val (.int ((m : Nat) : Int)), .own (.lst, rows.map rowD), .un, x5]) (k := 1) (P := fun d => ∃ b : Bool, d = .bl b ∧ True) (rngD 0 (m - 1)) fun d' _ => ⟨_, rfl, by
    intro st h0 hn
    obtain ⟨_, s1, e1, ⟨r, rfl, q⟩, l1, l2⟩ := drawN (m := 3) (by decide) (by decide) st h0 (by omega)
    have e1' : m__law_draw [D.deck, D.int 3] st = some (.int ((r : Nat) : Int), s1) := e1
    exact ⟨.bl (decide ((r : Int) = 0)), s1, by simp [e1'], ⟨_, rfl, trivial⟩, l1, l2⟩⟩
  rw [rngD_len] at hc
  obtain ⟨l, s3, e3, ⟨hl, hp⟩, l5, l6⟩ := hc s2 (by omega) (by omega)
  obtain ⟨ends, rfl, _⟩ := maps_of l hp
  have hel : ends.length = m - 1 := by simpa using hl
  refine ⟨tK ⟨k, rows, ends ++ [true]⟩, s3, ?_, ⟨_, rfl, ⟨hk0, hk, by show 1 ≤ rows.length; omega, by show rows.length ≤ 9; omega, by show (ends ++ [true]).length = rows.length; simp; omega, h3, fun r hr s hs => by show s < rows.length; have := h4 r hr s hs; omega⟩⟩, by omega, by omega⟩
  have hb : b__law_long = seqM (asgM (nameT 2) (opM addM (cst (.int 4)) (callM m__law_draw (aCons (rd 0) (aCons (cst (.int 5)) aNil)))))
    (seqM (ownM 3 (lstM aNil)) (seqM (forM (r1M (aCons (rd 2) aNil)) (nameT 4) loB)
    (retM (tupM (aCons (rd 1) (aCons (cbM tupleM (aCons (rdW 3) aNil)) (aCons (opM addM (cbM tupleM (aCons (frz (compM (r1M (aCons (opM subM (rd 2) (cst (.int 1))) aNil)) (nameT 4) yesM (opM eqM (callM m__law_draw (aCons (rd 0) (aCons (cst (.int 3)) aNil))) (cst (.int 0))) [4])) aNil)) (tupM (aCons (cst (.bl true)) aNil))) aNil))))))) := rfl
  have hr1 : rng1 [.int (((m : Nat) : Int) - 1)] = some (rngD 0 (m - 1)) := by
    have := rng_of (k := m - 1) (by omega)
    rw [← this]
    congr 3
    omega
  unfold m__law_long
  rw [hb]
  generalize loB = B at e2
  generalize (opM eqM (callM m__law_draw (aCons (rd 0) (aCons (cst (.int 3)) aNil))) (cst (.int 0))) = B2 at e3
  simp [e1', em, grd_of (show 0 ≤ 1000000 by decide), rng_of (show m ≤ 1000000 by omega)]
  rw [e2]
  simp [hr1, rngD_len, grd_of (show m - 1 ≤ 1000000 by omega)]
  rw [e3]
  simp [grd_of (show 1 ≤ 1000000 by decide), grd_of (show ends.length + 1 ≤ 1000000 by omega), grd_of (show 3 ≤ 1000000 by decide)]
theorem some_yes : Yes 70 (m__law_some_kind [.deck, .int 4]) fun d => ∃ kd : Kd, d = tK kd ∧ kd.Ok := by
  intro st h0 hn
  obtain ⟨_, s1, e1, ⟨r1, rfl, q1⟩, l1, l2⟩ := drawN (m := 3) (by decide) (by decide) st h0 (by omega)
  have e1' : m__law_draw [D.deck, D.int 3] st = some (.int ((r1 : Nat) : Int), s1) := e1
  by_cases hr : 0 < r1
  · obtain ⟨d, s2, e2, p2, l3, l4⟩ := kind_yes s1 (by omega) (by omega)
    refine ⟨d, s2, ?_, p2, by omega, by omega⟩
    have hr' : (0 : Int) < ((r1 : Nat) : Int) := by omega
    simp [m__law_some_kind, b__law_some_kind, e1', hr, e2]
  · obtain ⟨_, s2, e2, ⟨r2, rfl, q2⟩, l3, l4⟩ := drawN (m := 4) (by decide) (by decide) s1 (by omega) (by omega)
    have e2' : m__law_draw [D.deck, D.int 4] s1 = some (.int ((r2 : Nat) : Int), s2) := e2
    obtain ⟨d, s3, e3, p3, l5, l6⟩ := long_yes (k := 1 + r2) (by omega) (by omega) s2 (by omega) (by omega)
    refine ⟨d, s3, ?_, p3, by omega, by omega⟩
    have ek : (((1 + r2 : Nat)) : Int) = 1 + ((r2 : Nat) : Int) := by omega
    rw [ek] at e3
    simp [m__law_some_kind, b__law_some_kind, e1', hr, e2', e3]
end Lw

set_option Elab.async false
set_option linter.all false
set_option maxRecDepth 100000
set_option maxHeartbeats 2000000
namespace Lw
open PySem MD
abbrev nD (n : Nat) : D := .int ((n : Nat) : Int)
theorem call_of {m : MF} {a : MA} {env : Sg} {st s1 s2 : S} {d : D} {ds : List D} (h1 : a env st = some (ds, s1)) (h2 : m ds s1 = some (d, s2)) : callM m a env st = some (d, s2) := by rw [v_callM, h1, Option.bind_some]; exact h2
/-! ### units and cuts -/
abbrev tU (uss : List (List Int)) : D := .tup (uss.map tI)
abbrev tC (u : Nat) (most : Int) (cl : List Nat) : D := .tup [.int ((u : Nat) : Int), .int most, .str (W cl)]
abbrev tL3 (u : Nat) (most : Int) (cl : List Nat) : List D := [.int ((u : Nat) : Int), .int most, .str (W cl)]
theorem tC0 (u : Nat) (most : Int) (cl : List Nat) : L2.atI (tL3 u most cl) 0 = some (.int ((u : Nat) : Int)) := atI_of (j := 0) rfl
theorem tC1 (u : Nat) (most : Int) (cl : List Nat) : L2.atI (tL3 u most cl) 1 = some (.int most) := atI_of (j := 1) rfl
theorem tC2 (u : Nat) (most : Int) (cl : List Nat) : L2.atI (tL3 u most cl) 2 = some (.str (W cl)) := atI_of (j := 2) rfl
structure Fit (k : Nat) (uss : List (List Int)) (u : Nat) (ct : Pm.Ct) : Prop where
  k4 : k ≤ 4
  len : ∀ us ∈ uss, us.length = k
  nn : ∀ us ∈ uss, ∀ x ∈ us, 0 ≤ x
  at_ : uss[u]? = some ct.us
  m0 : 0 ≤ ct.most
  m1 : ct.most ≤ 20
  cl : ct.cl.length ≤ 1000
theorem Fit.ok {k : Nat} {uss : List (List Int)} {u : Nat} {ct : Pm.Ct} (f : Fit k uss u ct) : ct.Ok := ⟨f.nn _ (List.mem_of_getElem? f.at_), f.m0⟩
theorem Fit.ul {k : Nat} {uss : List (List Int)} {u : Nat} {ct : Pm.Ct} (f : Fit k uss u ct) : ct.us.length = k := f.len _ (List.mem_of_getElem? f.at_)
theorem Fit.ix {k : Nat} {uss : List (List Int)} {u : Nat} {ct : Pm.Ct} (f : Fit k uss u ct) : L2.atI (uss.map tI) ((u : Nat) : Int) = some (tI ct.us) := by
  rw [atI_nn (by omega), Int.toNat_natCast, List.getElem?_map, f.at_]; rfl
theorem notIn_W (x : Nat) (cl : List Nat) : notInM (.str (W [x])) (.str (W cl)) = some (.bl (!decide (x ∈ cl))) := by
  have e : signOf (W [x]) = some x := by unfold signOf; rw [W_list]
  unfold notInM notInSign
  simp [e]
theorem W_at {ws : List Nat} {p x : Nat} (h : ws[p]? = some x) : L2.atI ws ((p : Nat) : Int) = some x := by
  rw [atI_nn (by omega), Int.toNat_natCast, h]
/-! ### _law_one_cut -/
noncomputable def ocE : ME := (orV (opM eqM (rd 4) (cst (.int 0))) (orV (opM eqM (rd 4) (cbM lenA (aCons (rd 2) aNil))) (opM (cntD true) (opM subD (rd 2) (rd 4)) (opM subD (rd 1) (cst (.int 2))))))
noncomputable def ocB : MS := (seqM (asgM (nameT 5) ocE)
 (ifS (andM (truM (rd 5)) (tstM (opM leM (callM m__law_count (aCons (opM subD (rd 0) (opM subD (rd 1) (cst (.int 0)))) (aCons (slM slAny (rd 2) noP (prt (rd 4))) aNil))) (opM subD (rd 1) (cst (.int 1))))))
 (asgM (nameT 3) (slM slAny (rd 2) noP (prt (rd 4))))
 nxM))
section
variable {k : Nat} {uss : List (List Int)} {u : Nat} {ct : Pm.Ct} (f : Fit k uss u ct)
include f
theorem ocE_ok {ws : List Nat} (hl : ws.length ≤ 1000000) (p : Nat) (hp : p ≤ ws.length) (x0 x3 x5 : Sl) (st : S) :
    ocE [x0, .val (tC u ct.most ct.cl), .val (.str (W ws)), x3, .val (nD p), x5] st = some (.bl (Pm.bord ct ws p), st) := by
  unfold Pm.bord ocE
  by_cases h0 : p = 0
  · subst h0
    simp
  · by_cases hlen : p = ws.length
    · subst hlen
      have : ¬ ((ws.length : Nat) : Int) = 0 := by omega
      simp [this, h0, grd_of hl]
    · have h1 : ¬ ((p : Nat) : Int) = 0 := by omega
      have h2 : ¬ ((p : Nat) : Int) = (ws.length : Int) := by omega
      have hlt : p < ws.length := by omega
      obtain ⟨x, hx⟩ : ∃ x, ws[p]? = some x := ⟨ws[p], List.getElem?_eq_getElem hlt⟩
      have hw : (⟨#[x]⟩ : Str) = W [x] := rfl
      simp [h1, h2, h0, hlen, grd_of hl, W_at hx, hw, notIn_W, hx]
theorem oc_turn {ws : List Nat} (hw : Lets k ws) (hl : ws.length ≤ 1000000) (p : Nat) (hp : p ≤ ws.length) (x3 x5 : Sl) (st : S) :
    ocB [.val (tU uss), .val (tC u ct.most ct.cl), .val (.str (W ws)), x3, .val (nD p), x5] st = some (.nx [.val (tU uss), .val (tC u ct.most ct.cl), .val (.str (W ws)), if Pm.okP ct ws p = true then .val (.str (W (ws.take p))) else x3, .val (nD p), .val (.bl (Pm.bord ct ws p))], st) := by
  have e1 : L2.cutS (W ws) none (some ((p : Nat) : Int)) = W (ws.take p) := by rw [cutW_to (by omega) (by omega)]; simp
  have hul := f.ul
  have hk4 := f.k4
  have e2 := count_ok (us := ct.us) (by omega) (ws := ws.take p) (by rw [hul]; exact fun c hc => hw c (List.mem_of_mem_take hc)) (by rw [List.length_take]; omega) st
  have hb := ocE_ok f hl p hp (.val (tU uss)) x3 x5 st
  have hcnt : Lw.cnt ct.us (ws.take p) = Pm.cnt ct.us (ws.take p) := rfl
  rw [hcnt] at e2
  unfold ocB
  generalize ocE = B at hb
  unfold Pm.okP
  have hix := f.ix
  cases hbd : Pm.bord ct ws p with
  | true =>
    rw [hbd] at hb
    by_cases hc : Pm.cnt ct.us (ws.take p) ≤ ct.most
    · simp [hb, hix, grd_of hl, e1, e2, hc]
    · simp [hb, hix, grd_of hl, e1, e2, hc]
  | false =>
    rw [hbd] at hb
    simp [hb]
def foldG (g : Nat → Bool) (f : Nat) (ps : List Nat) : Nat := ps.foldl (fun f p => if g p = true then p else f) f
omit f in
theorem foldG_range (g : Nat → Bool) : ∀ n, foldG g 0 (List.range n) = Pm.lst g n
  | 0 => rfl
  | n + 1 => by
    have ih := foldG_range g n
    unfold foldG at ih ⊢
    rw [List.range_succ, List.foldl_append, ih]
    rfl
theorem oc_loop {ws : List Nat} (hw : Lets k ws) (hl : ws.length ≤ 1000000) (st : S) : ∀ (ps : List Nat) (q : Nat) (x4 x5 : Sl), (∀ p ∈ ps, p ≤ ws.length) → ∃ y4 y5,
    forL (nameT 4) ocB (ps.map nD) [.val (tU uss), .val (tC u ct.most ct.cl), .val (.str (W ws)), .val (.str (W (ws.take q))), x4, x5] st = some (.nx [.val (tU uss), .val (tC u ct.most ct.cl), .val (.str (W ws)), .val (.str (W (ws.take (foldG (Pm.okP ct ws) q ps)))), y4, y5], st)
  | [], q, x4, x5, _ => ⟨x4, x5, rfl⟩
  | n :: ps, q, x4, x5, h => by
    obtain ⟨y4, y5, e⟩ := oc_loop hw hl st ps (if Pm.okP ct ws n = true then n else q) (.val (nD n)) (.val (.bl (Pm.bord ct ws n))) fun p hp => h p (List.mem_cons_of_mem _ hp)
    refine ⟨y4, y5, ?_⟩
    have e1 := oc_turn f hw hl n (h n List.mem_cons_self) (.val (.str (W (ws.take q)))) x5 st
    generalize ocB = B at *
    show forL (nameT 4) B (nD n :: ps.map nD) _ st = _
    rw [v_forL]
    show (B [.val (tU uss), .val (tC u ct.most ct.cl), .val (.str (W ws)), .val (.str (W (ws.take q))), .val (nD n), x5] st).bind _ = _
    rw [e1]
    show forL (nameT 4) B (ps.map nD) _ st = _
    rw [show foldG (Pm.okP ct ws) q (n :: ps) = foldG (Pm.okP ct ws) (if Pm.okP ct ws n = true then n else q) ps from rfl, ← e]
    by_cases hg : Pm.okP ct ws n = true
    · rw [if_pos hg, if_pos hg]
    · rw [if_neg hg, if_neg hg]
theorem oc_ok {ws : List Nat} (hw : Lets k ws) (hl : ws.length ≤ 100000) (st : S) : m__law_one_cut [tU uss, tC u ct.most ct.cl, .str (W ws)] st = some (.str (W (ws.take (Pm.cutLen ct ws))), st) := by
  obtain ⟨y4, y5, e⟩ := oc_loop f hw (by omega) st (List.range (ws.length + 1)) 0 .un .un fun p hp => by have := List.mem_range.mp hp; omega
  rw [foldG_range] at e
  have er : (List.range (ws.length + 1)).map nD = rngD 0 (ws.length + 1) := (rng_map _).symm
  rw [er] at e
  have hr1 : rng1 [.int ((ws.length : Int) + 1)] = some (rngD 0 (ws.length + 1)) := by
    have := rng_of (k := ws.length + 1) (by omega)
    simpa using this
  have hb : b__law_one_cut = seqM (asgM (nameT 3) (cst (.str ""))) (seqM (forM (r1M (aCons (opM addM (cbM lenA (aCons (rd 2) aNil)) (cst (.int 1))) aNil)) (nameT 4) ocB) (retM (rd 3))) := rfl
  unfold m__law_one_cut
  rw [hb]
  generalize ocB = B at e
  simp [grd_of (show ws.length ≤ 1000000 by omega), hr1, empty_W]
  rw [List.take_zero] at e
  rw [e]
  simp [Pm.cutLen]
/-! ### _law_pieces -/
noncomputable def pcT : MS := (seqM (asgM (nameT 5) (callM m__law_one_cut (aCons (rd 0) (aCons (rd 1) (aCons (rd 2) aNil)))))
 (seqM (ifS (tstM (opM eqM (rd 5) (cst (.str ""))))
 (retM (cst .non))
 nxM)
 (seqM (appM 3 (rd 5))
 (asgM (nameT 2) (slM slAny (rd 2) (prt (cbM lenA (aCons (rd 5) aNil))) noP)))))
noncomputable def pcB : MS := (ifS (tstM (opM neM (rd 2) (cst (.str "")))) pcT nxM)
omit f in
theorem eqW_nil (a : List Nat) : eqM (.str (W a)) (.str "") = some (.bl a.isEmpty) := by
  rw [empty_W, eq_str]
  cases a with
  | nil => simp
  | cons x r =>
    have : ¬ W (x :: r) = W [] := fun z => by have := W_inj z; cases this
    simp [this]
omit f in
theorem neW_nil (a : List Nat) : neM (.str (W a)) (.str "") = some (.bl (!a.isEmpty)) := by
  rw [empty_W, ne_str]
  cases a with
  | nil => simp
  | cons x r =>
    have : ¬ W (x :: r) = W [] := fun z => by have := W_inj z; cases this
    simp [this]
theorem pcB_nil (st : S) (x0 x1 x3 x4 x5 : Sl) : pcB [x0, x1, .val (.str (W [])), x3, x4, x5] st = some (.nx [x0, x1, .val (.str (W [])), x3, x4, x5], st) := by
  unfold pcB
  generalize pcT = B
  simp [empty_W]
theorem cut_le (ws : List Nat) : Pm.cutLen ct ws ≤ ws.length := by
  have := Pm.lst_lt (P := Pm.okP ct ws) (n := ws.length + 1) (by omega)
  unfold Pm.cutLen
  omega
theorem pcB_ok {x : Nat} {ws : List Nat} (hw : Lets k (x :: ws)) (hl : (x :: ws).length ≤ 100000) (acc : List D) (ha : acc.length ≤ 200000) (x4 x5 : Sl) (st : S) :
    pcB [.val (tU uss), .val (tC u ct.most ct.cl), .val (.str (W (x :: ws))), .own (.lst, acc), x4, x5] st = if Pm.cutLen ct (x :: ws) = 0 then some (.rt .non, st) else
      some (.nx [.val (tU uss), .val (tC u ct.most ct.cl), .val (.str (W ((x :: ws).drop (Pm.cutLen ct (x :: ws))))), .own (.lst, acc ++ [.str (W ((x :: ws).take (Pm.cutLen ct (x :: ws))))]), x4, .val (.str (W ((x :: ws).take (Pm.cutLen ct (x :: ws)))))], st) := by
  have c1 : callM m__law_one_cut (aCons (rd 0) (aCons (rd 1) (aCons (rd 2) aNil))) [.val (tU uss), .val (tC u ct.most ct.cl), .val (.str (W (x :: ws))), .own (.lst, acc), x4, x5] st = some (.str (W ((x :: ws).take (Pm.cutLen ct (x :: ws)))), st) :=
    call_of (ds := [tU uss, tC u ct.most ct.cl, .str (W (x :: ws))]) (s1 := st) (by simp) (oc_ok f hw hl st)
  have hcl := cut_le f (x :: ws)
  have hne := neW_nil (x :: ws)
  have hw0 : (x :: ws).isEmpty = false := rfl
  rw [hw0] at hne
  clear hw0
  generalize hj : Pm.cutLen ct (x :: ws) = j at *
  have he := eqW_nil ((x :: ws).take j)
  have hem : ((x :: ws).take j).isEmpty = decide (j = 0) := by cases j <;> simp
  have hjl : ((x :: ws).take j).length = j := by rw [List.length_take]; omega
  have e4 : L2.cutS (W (x :: ws)) (some ((j : Nat) : Int)) none = W ((x :: ws).drop j) := by rw [cutW_from (by omega) (by omega)]; simp
  have g1 : j ≤ 1000000 := by omega
  have g2 : (x :: ws).length ≤ 1000000 := by omega
  have g3 : acc.length + 1 ≤ 1000000 := by omega
  rw [hem] at he
  generalize (x :: ws).take j = tk at *
  generalize (x :: ws).drop j = dp at *
  generalize (x :: ws) = w0 at *
  unfold pcB pcT
  generalize callM m__law_one_cut (aCons (rd 0) (aCons (rd 1) (aCons (rd 2) aNil))) = C at c1
  by_cases h0 : j = 0
  · rw [decide_eq_true h0] at he
    rw [if_pos h0]
    simp [hne, c1, he]
  · rw [decide_eq_false h0] at he
    rw [if_neg h0]
    simp [hne, c1, he, hjl, grd_of g1, grd_of g2, grd_of g3, e4]
theorem pc_loop (st : S) : ∀ (n : Nat) (ws : List Nat) (acc : List D) (ds : List D) (x4 x5 : Sl), ds.length = n → Lets k ws → ws.length ≤ 100000 → acc.length + ws.length ≤ 200000 →
    ∃ y2 y4 y5 acc', forL (nameT 4) pcB ds [.val (tU uss), .val (tC u ct.most ct.cl), .val (.str (W ws)), .own (.lst, acc), x4, x5] st = if Pm.pc ct n ws = true then some (.rt .non, st) else some (.nx [.val (tU uss), .val (tC u ct.most ct.cl), y2, .own (.lst, acc'), y4, y5], st)
  | 0, ws, acc, [], x4, x5, _, _, _, _ => ⟨_, _, _, _, rfl⟩
  | n + 1, [], acc, d :: ds, x4, x5, hd, hw, hl, ha => by
    obtain ⟨y2, y4, y5, acc', ih⟩ := pc_loop st n [] acc ds (.val d) x5 (by simpa using hd) hw hl ha
    refine ⟨y2, y4, y5, acc', ?_⟩
    have e1 := pcB_nil f st (.val (tU uss)) (.val (tC u ct.most ct.cl)) (.own (.lst, acc)) (.val d) x5
    generalize pcB = B at *
    rw [v_forL]
    show (B [.val (tU uss), .val (tC u ct.most ct.cl), .val (.str (W [])), .own (.lst, acc), .val d, x5] st).bind _ = _
    rw [e1]
    rw [Pm.pc_nil] at ih ⊢
    exact ih
  | n + 1, x :: ws, acc, d :: ds, x4, x5, hd, hw, hl, ha => by
    have e1 := pcB_ok f hw hl acc (by simp at ha; omega) (.val d) x5 st
    have hcl := cut_le f (x :: ws)
    by_cases h0 : Pm.cutLen ct (x :: ws) = 0
    · rw [if_pos h0] at e1
      refine ⟨.un, .un, .un, [], ?_⟩
      generalize pcB = B at *
      rw [v_forL]
      show (B [.val (tU uss), .val (tC u ct.most ct.cl), .val (.str (W (x :: ws))), .own (.lst, acc), .val d, x5] st).bind _ = _
      rw [e1, Pm.pc, if_pos h0]
      rfl
    · rw [if_neg h0] at e1
      obtain ⟨y2, y4, y5, acc', ih⟩ := pc_loop st n ((x :: ws).drop (Pm.cutLen ct (x :: ws))) (acc ++ [.str (W ((x :: ws).take (Pm.cutLen ct (x :: ws))))]) ds (.val d) (.val (.str (W ((x :: ws).take (Pm.cutLen ct (x :: ws)))))) (by simpa using hd) (fun c hc => hw c (List.mem_of_mem_drop hc)) (by rw [List.length_drop]; omega) (by rw [List.length_append, List.length_drop, List.length_singleton]; omega)
      refine ⟨y2, y4, y5, acc', ?_⟩
      generalize pcB = B at *
      rw [v_forL]
      show (B [.val (tU uss), .val (tC u ct.most ct.cl), .val (.str (W (x :: ws))), .own (.lst, acc), .val d, x5] st).bind _ = _
      rw [e1, Pm.pc, if_neg h0]
      exact ih
theorem pieces_ok {ws : List Nat} (hw : Lets k ws) (hl : ws.length ≤ 100000) (st : S) : ∃ ds, m__law_pieces [tU uss, tC u ct.most ct.cl, .str (W ws)] st = some (if Pm.pc ct ws.length ws = true then .non else .lst ds, st) := by
  obtain ⟨y2, y4, y5, acc', e⟩ := pc_loop f st ws.length ws [] (rngD 0 ws.length) .un .un (rngD_len _ _) hw hl (by simp; omega)
  refine ⟨acc', ?_⟩
  have hb : b__law_pieces = seqM (ownM 3 (lstM aNil)) (seqM (forM (r1M (aCons (cbM lenA (aCons (rd 2) aNil)) aNil)) (nameT 4) pcB) (frzM 3 (retM (rd 3)))) := rfl
  have hr := rng_of (k := ws.length) (by omega)
  unfold m__law_pieces
  rw [hb]
  generalize pcB = B at e
  simp [grd_of (show 0 ≤ 1000000 by decide), grd_of (show ws.length ≤ 1000000 by omega), hr]
  rw [e]
  cases Pm.pc ct ws.length ws <;> simp
end
end Lw

set_option Elab.async false
set_option linter.all false
set_option maxRecDepth 100000
set_option maxHeartbeats 2000000
namespace Lw
open PySem MD
/-! ### drawn units and cuts -/
theorem uE_yes {k : Nat} (hk : k ≤ 4) (e : Sg) (h0 : e[0]? = some (.val .deck)) (h1 : e[1]? = some (.val (.int (k : Nat)))) : Yes 8 (callM m__law_unit (aCons (rd 0) (aCons (rd 1) (aCons (cst (.int 0)) aNil))) e) fun d => ∃ us : List Int, d = tI us ∧ us.length = k ∧ ∀ x ∈ us, 0 ≤ x := by
  refine (unit_yes hk).congr fun st => ?_
  have ea : (aCons (rd 0) (aCons (rd 1) (aCons (cst (.int 0)) aNil))) e st = some ([.deck, .int (k : Nat), .int 0], st) := by simp only [v_aCons, v_rd, h0, h1, v_cst, v_aNil, Option.bind_some, Option.map_some]
  rw [v_callM, ea, Option.bind_some]
theorem units_yes {k : Nat} (hk : k ≤ 4) : Yes 17 (m__law_units [.deck, .int (k : Nat)]) fun d => ∃ uss : List (List Int), d = tU uss ∧ 0 < uss.length ∧ uss.length ≤ 2 ∧ ∀ us ∈ uss, us.length = k ∧ ∀ x ∈ us, 0 ≤ x := by
  intro st h0 hn
  obtain ⟨d, s1, e1, ⟨r, rfl, r1⟩, l1, l2⟩ := drawN (m := 2) (by decide) (by decide) st h0 (by omega)
  have hc := compL_yes (t := nameT 2) (f := callM m__law_unit (aCons (rd 0) (aCons (rd 1) (aCons (cst (.int 0)) aNil)))) (env := [.val .deck, .val (.int (k : Nat)), .un]) (k := 8) (P := fun d => ∃ us : List Int, d = tI us ∧ us.length = k ∧ ∀ x ∈ us, 0 ≤ x) (rngD 0 (1 + r)) fun d _ => ⟨_, rfl, uE_yes hk _ rfl rfl⟩
  rw [rngD_len] at hc
  obtain ⟨l, s2, e2, ⟨hl, hp⟩, l3, l4⟩ := hc s1 (by omega) (by omega)
  obtain ⟨uss, rfl, hus⟩ := maps_of l hp
  have hlen : uss.length = 1 + r := by simpa using hl
  refine ⟨tU uss, s2, ?_, ⟨uss, rfl, by omega, by omega, hus⟩, by omega, by omega⟩
  have e1' : m__law_draw [D.deck, D.int 2] st = some (nD r, s1) := e1
  have hr : rng1 [.int (1 + (r : Int))] = some (rngD 0 (1 + r)) := by
    have := rng_of (k := 1 + r) (by omega)
    simpa using this
  have hb : b__law_units = retM (cbM tupleM (aCons (frz (compM (r1M (aCons (opM addM (cst (.int 1)) (callM m__law_draw (aCons (rd 0) (aCons (cst (.int 2)) aNil)))) aNil)) (nameT 2) yesM (callM m__law_unit (aCons (rd 0) (aCons (rd 1) (aCons (cst (.int 0)) aNil)))) [2])) aNil)) := rfl
  unfold m__law_units
  rw [hb]
  generalize (callM m__law_unit (aCons (rd 0) (aCons (rd 1) (aCons (cst (.int 0)) aNil)))) = B at e2
  simp [e1', hr, rngD_len, grd_of (show 1 + r ≤ 1000000 by omega)]
  rw [e2]
  simp
theorem compL_yesT {t : MG} {c : MT} {f : ME} {env : Sg} {k : Nat} {P : D → Prop} : ∀ (ds : List D), (∀ d ∈ ds, ∃ e, t d env = some e ∧ Yes k (c e) (fun _ => True) ∧ ∃ a, (∀ st, f e st = some (a, st)) ∧ P a) → Yes (ds.length * k) (compL t c f env ds) fun l => l.length ≤ ds.length ∧ ∀ x ∈ l, P x
  | [], _ => (Yes.of_eq (fun _ => rfl) ⟨Nat.le_refl _, fun _ h => nomatch h⟩).mono (Nat.zero_le _) fun _ h => h
  | d :: ds, h => by
    obtain ⟨e, h1, h2, a, h3, h4⟩ := h d List.mem_cons_self
    have ih := compL_yesT ds fun x hx => h x (List.mem_cons_of_mem _ hx)
    intro st h0 hn
    have en : ((d :: ds).length * k : Nat) = k + ds.length * k := by rw [List.length_cons, Nat.succ_mul]; omega
    rw [en] at hn ⊢
    obtain ⟨y, s1, e1, p1, l1, l2⟩ := h2 st h0 (by omega)
    obtain ⟨l, s2, e2, p2, l3, l4⟩ := ih s1 (by omega) (by omega)
    cases y with
    | true =>
      refine ⟨a :: l, s2, ?_, ⟨by simp [p2.1], fun x hx => ?_⟩, by omega, by omega⟩
      · rw [v_compL, h1]
        simp [e1, h3, e2]
      · rcases List.mem_cons.mp hx with z | z
        · rw [z]; exact h4
        · exact p2.2 x z
    | false =>
      refine ⟨l, s2, ?_, ⟨Nat.le_trans p2.1 (Nat.le_succ _), p2.2⟩, by omega, by omega⟩
      rw [v_compL, h1]
      simp [e1, e2]
theorem joinL_flat : ∀ (ps : List (List Nat)), TL.joinL [] ps = ps.flatten
  | [] => rfl
  | [p] => by simp [TL.joinL]
  | p :: q :: r => by
    show p ++ ([] ++ TL.joinL [] (q :: r)) = _
    rw [joinL_flat (q :: r)]
    rfl
theorem join_str (ps : List (List Nat)) : Txt.join "" (ps.map W) = W ps.flatten := by
  apply TL.ext_tl
  rw [TL.join_eq, TL.tl_join, empty_W]
  show TL.joinL (W []).cps.toList ((ps.map W).map fun x => x.cps.toList) = (W ps.flatten).cps.toList
  rw [W_list, W_list, List.map_map]
  have e : ((fun (x : Str) => x.cps.toList) ∘ W) = id := by funext x; simp
  rw [e, List.map_id, joinL_flat]
theorem flat_one (ws : List Nat) : (ws.map fun c => [c]).flatten = ws := by
  induction ws with
  | nil => rfl
  | cons x r ih => simp [ih]
theorem join_W (ws : List Nat) (h : ws.length ≤ 1000000) : joinM (.str "") [.lst (ws.map fun c => D.str (W [c]))] = some (.str (W ws)) := by
  have e : (ws.map fun c => D.str (W [c])) = ((ws.map fun c => [c]).map W).map D.str := by rw [List.map_map, List.map_map]; rfl
  rw [e]
  show ((strsOf (((ws.map fun c => [c]).map W).map D.str)).bind fun ys => if (ys.map (·.length)).sum + ys.length * ("" : Str).length ≤ 16777216 then some (D.str (Txt.join "" ys)) else none) = _
  rw [strsOf_map]
  show (if ((((ws.map fun c => [c]).map W)).map (·.length)).sum + (((ws.map fun c => [c]).map W)).length * ("" : Str).length ≤ 16777216 then some (D.str (Txt.join "" ((ws.map fun c => [c]).map W))) else none) = _
  rw [if_pos, join_str, flat_one]
  have e1 : ("" : Str).length = 0 := by rw [empty_W, W_len]; rfl
  have e2 : ∀ (l : List Nat), ((((l.map fun c => [c]).map W)).map (·.length)).sum = l.length := fun l => by
    induction l with
    | nil => rfl
    | cons x r ih => simp at ih ⊢; omega
  rw [e1, e2, Nat.mul_zero]
  omega
theorem cut_yes {k m : Nat} (hk : k ≤ 4) (hm : m ≤ 20) {uss : List (List Int)} (hu0 : 0 < uss.length) (hu2 : uss.length ≤ 2) (hus : ∀ us ∈ uss, us.length = k ∧ ∀ x ∈ us, 0 ≤ x) :
    Yes 6 (m__law_cut [.deck, .int (k : Nat), tU uss, nD m]) fun d => ∃ (u : Nat) (ct : Pm.Ct), d = tC u ct.most ct.cl ∧ Fit k uss u ct := by
  intro st h0 hn
  have hc := compL_yesT (t := nameT 5) (c := tstM (opM eqM (callM m__law_draw (aCons (rd 0) (aCons (cst (.int 4)) aNil))) (cst (.int 0)))) (f := rd 5) (env := [.val .deck, .val (.int (k : Nat)), .val (tU uss), .val (nD m), .un, .un]) (k := 1) (P := fun d => ∃ c : Nat, d = .str (W [c]) ∧ True) ((((List.range k).map (97 + ·)).map fun c => W [c]).map D.str) fun d hd => by
    rw [List.map_map] at hd
    obtain ⟨c, hc, rfl⟩ := List.mem_map.mp hd
    refine ⟨_, rfl, ?_, .str (W [c]), fun st => rfl, c, rfl, trivial⟩
    intro st h0 hn
    obtain ⟨d, s1, e1, ⟨r, rfl, r1⟩, l1, l2⟩ := drawN (m := 4) (by decide) (by decide) st h0 (by omega)
    have e1' : m__law_draw [D.deck, D.int 4] st = some (nD r, s1) := e1
    exact ⟨decide (((r : Nat) : Int) = 0), s1, by simp [e1'], trivial, l1, l2⟩
  rw [List.length_map, List.length_map, List.length_map, List.length_range] at hc
  obtain ⟨l, s1, e1, ⟨hl, hp⟩, l1, l2⟩ := hc st h0 (by omega)
  obtain ⟨cl, rfl, _⟩ := maps_of l hp
  obtain ⟨d2, s2, e2, ⟨r2, rfl, r21⟩, l3, l4⟩ := drawN (m := uss.length) hu0 (by omega) s1 (by omega) (by omega)
  obtain ⟨d3, s3, e3, ⟨r3, rfl, r31⟩, l5, l6⟩ := drawN (m := m + 1) (by omega) (by omega) s2 (by omega) (by omega)
  have hcl : cl.length ≤ k := by simpa using hl
  refine ⟨tC r2 (r3 : Nat) cl, s3, ?_, ⟨r2, ⟨uss[r2], ((r3 : Nat) : Int), cl⟩, rfl, ⟨hk, fun us h => (hus us h).1, fun us h => (hus us h).2, List.getElem?_eq_getElem r21, Int.natCast_nonneg r3, by show ((r3 : Nat) : Int) ≤ 20; omega, by show cl.length ≤ 1000; omega⟩⟩, by omega, by omega⟩
  have hj := join_W cl (by omega)
  have e2' : m__law_draw [D.deck, D.int (uss.length : Int)] s1 = some (nD r2, s2) := e2
  have e3' : m__law_draw [D.deck, D.int ((m : Int) + 1)] s2 = some (nD r3, s3) := by
    have : ((m + 1 : Nat) : Int) = (m : Int) + 1 := by omega
    rw [← this]; exact e3
  simp [m__law_cut, b__law_cut, grd_of abcd_len, cut_abcd hk]
  rw [grd_of (by omega)]
  simp at e1
  rw [e1]
  simp [hj, e2', e3', grd_of (show 3 ≤ 1000000 by decide)]
/-! ### next_rest -/
abbrev rsD (r : Pm.Rest) : D := .tup [.int r.1, .bl r.2.1, .int r.2.2]
def roD : Option Pm.Rest → D
  | none => .non
  | some r => rsD r
theorem v_par3 {a : MA} {i j l : Nat} {env : Sg} {st : S} : par3M i j l a env st = (a env st).bind fun p => (three i j l env p.1).map fun e => (.nx e, p.2) := (rfl)
def mx (g : Int) : Int := if g < 0 then 0 else g
theorem max2 (g : Int) : max2M [.int g, .int 0] = some (.int (mx g)) := rfl
noncomputable def nrT : MS := (seqM (asgM (nameT 6) (opM addM (cbM max2M (aCons (rd 6) (aCons (cst (.int 0)) aNil))) (rd 3)))
 (seqM (ifS (tstM (opM leM (opM addM (rd 4) (rd 6)) (opM subD (rd 1) (cst (.int 1)))))
 (retM (tupM (aCons (tupM (aCons (rd 4) (aCons (rd 5) (aCons (rd 6) aNil)))) (aCons (cst (.bl false)) aNil))))
 nxM)
 (seqM (ifS (orM (notM (truM (rd 5))) (tstM (opM gtM (rd 6) (opM subD (rd 1) (cst (.int 1))))))
 (retM (tupM (aCons (cst .non) (aCons (cst (.bl false)) aNil))))
 nxM)
 (retM (tupM (aCons (tupM (aCons (cst (.int 0)) (aCons (cst (.bl false)) (aCons (rd 6) aNil)))) (aCons (cst (.bl true)) aNil)))))))
theorem nrT_ok {ct : Pm.Ct} {u : Nat} {r : Pm.Rest} {x : Nat} {b2 : Int} {h2 : Bool} {g2 : Int} (e : Pm.mv ct r x = (b2, h2, g2)) (x0 x2 : Sl) (st : S) :
    ∃ b, nrT [x0, .val (tC u ct.most ct.cl), x2, .val (.int (Pm.uu ct.us x)), .val (.int b2), .val (.bl h2), .val (.int g2)] st = some (.rt (.tup [roD (Pm.nxt ct r x), .bl b]), st) := by
  obtain ⟨G, hG⟩ : ∃ G, mx g2 + Pm.uu ct.us x = G := ⟨_, rfl⟩
  have eg : Pm.gp ct r x = G := by rw [← hG]; unfold Pm.gp; rw [e]; rfl
  have hm := max2 g2
  have w2 := @grd_of
  unfold Pm.nxt
  rw [e, eg]
  by_cases hle : b2 + G ≤ ct.most
  · refine ⟨false, ?_⟩
    rw [if_pos hle]
    simp [nrT, hm, hG, hle, grd_of (show 2 ≤ 1000000 by decide), grd_of (show 3 ≤ 1000000 by decide), roD]
  · rw [if_neg hle]
    cases h2 with
    | false =>
      refine ⟨false, ?_⟩
      simp [nrT, hm, hG, hle, grd_of (show 2 ≤ 1000000 by decide), grd_of (show 3 ≤ 1000000 by decide), roD]
    | true =>
      by_cases hg : ct.most < G
      · refine ⟨false, ?_⟩
        simp [nrT, hm, hG, hle, hg, grd_of (show 2 ≤ 1000000 by decide), grd_of (show 3 ≤ 1000000 by decide), roD]
      · refine ⟨true, ?_⟩
        simp [nrT, hm, hG, hle, hg, grd_of (show 2 ≤ 1000000 by decide), grd_of (show 3 ≤ 1000000 by decide), roD]
theorem next_ok {ct : Pm.Ct} {u : Nat} (r : Pm.Rest) (x : Nat) (st : S) :
    ∃ b, m_next_rest [rsD r, tC u ct.most ct.cl, .str (W [x]), .int (Pm.uu ct.us x)] st = some (.tup [roD (Pm.nxt ct r x), .bl b], st) := by
  obtain ⟨be, hb, gr⟩ := r
  have hbd : b_next_rest = (seqM (asgM (tupT 3 (consT (nameT 4) (consT (nameT 5) (consT (nameT 6) nilT)))) (rd 0))
    (seqM (ifS (andM (tstM (opM (cntD true) (rd 2) (opM subD (rd 1) (cst (.int 2))))) (tstM (opM geM (rd 6) (cst (.int 0)))))
    (par3M 4 5 6 (aCons (opM addM (rd 4) (rd 6)) (aCons (cst (.bl true)) (aCons (cst (.int 0)) aNil)))) nxM) nrT)) := rfl
  have hni := notIn_W x ct.cl
  have three3 : ∀ (env : Sg) (a b c : D), three 4 5 6 env [a, b, c] = some (((env.set 4 (.val a)).set 5 (.val b)).set 6 (.val c)) := fun _ _ _ _ => rfl
  unfold m_next_rest
  rw [hbd]
  by_cases hx : x ∈ ct.cl
  · have e : Pm.mv ct (be, hb, gr) x = (be, hb, gr) := by unfold Pm.mv; rw [if_neg fun z => z.1 hx]
    obtain ⟨b, e2⟩ := nrT_ok (u := u) e (.val (rsD (be, hb, gr))) (.val (.str (W [x]))) st
    refine ⟨b, ?_⟩
    generalize nrT = B at e2
    simp [hni, hx, e2]
  · by_cases hg : 0 ≤ gr
    · have e : Pm.mv ct (be, hb, gr) x = (be + gr, true, 0) := by unfold Pm.mv; rw [if_pos ⟨hx, hg⟩]
      obtain ⟨b, e2⟩ := nrT_ok (u := u) e (.val (rsD (be, hb, gr))) (.val (.str (W [x]))) st
      refine ⟨b, ?_⟩
      generalize nrT = B at e2
      simp [hni, hx, hg, v_par3, three3, e2]
    · have e : Pm.mv ct (be, hb, gr) x = (be, hb, gr) := by unfold Pm.mv; rw [if_neg fun z => hg z.2]
      obtain ⟨b, e2⟩ := nrT_ok (u := u) e (.val (rsD (be, hb, gr))) (.val (.str (W [x]))) st
      refine ⟨b, ?_⟩
      generalize nrT = B at e2
      simp [hni, hx, hg, e2]
end Lw

set_option Elab.async false
set_option linter.all false
set_option maxRecDepth 100000
set_option maxHeartbeats 2000000
namespace Lw
open PySem MD Bf
/-! ### the system that stuck searches -/
abbrev Cf := Nat × Option Pm.Rest
def M (kd : Kd) (ct : Pm.Ct) : Sys Cf where
  k := kd.k
  step c x := (stp kd c.1 x).map fun s' => (s', c.2.bind fun r => Pm.nxt ct r (97 + x))
  goal c := c.2.isNone && isE kd c.1
abbrev c0 : Cf := (0, some (0, false, -1))
structure RVal (ct : Pm.Ct) (r : Pm.Rest) : Prop where
  b0 : 0 ≤ r.1
  b1 : r.1 ≤ ct.most
  g0 : -1 ≤ r.2.2
  g1 : r.2.2 ≤ ct.most
def Val (kd : Kd) (ct : Pm.Ct) (c : Cf) : Prop := c.1 < kd.rows.length ∧ ∀ r, c.2 = some r → RVal ct r
def rcode : Option Pm.Rest → Nat
  | none => 0
  | some (b, h, g) => 1 + (b.toNat * 2 + h.toNat) * 22 + (g + 1).toNat
def code (c : Cf) : Nat := c.1 * 2000 + rcode c.2
theorem nxt_val {ct : Pm.Ct} (ok : ct.Ok) {r r' : Pm.Rest} {x : Nat} (v : RVal ct r) (e : Pm.nxt ct r x = some r') : RVal ct r' := by
  have hu := Pm.uu_nn ok x
  have hm : 0 ≤ (Pm.mv ct r x).1 := by
    unfold Pm.mv
    split
    · rename_i h; have := v.b0; show 0 ≤ r.1 + r.2.2; omega
    · exact v.b0
  have hg : 0 ≤ Pm.gp ct r x := by
    unfold Pm.gp
    split <;> omega
  unfold Pm.nxt at e
  split at e
  · cases e
    exact ⟨hm, by show (Pm.mv ct r x).1 ≤ _; omega, by show -1 ≤ Pm.gp ct r x; omega, by show Pm.gp ct r x ≤ _; omega⟩
  · split at e
    · cases e
    · rename_i h
      cases e
      have : ¬ ct.most < Pm.gp ct r x := fun z => h (.inr z)
      exact ⟨Int.le_refl _, ok.m0, by show -1 ≤ Pm.gp ct r x; omega, by show Pm.gp ct r x ≤ _; omega⟩
section
variable {kd : Kd} {ct : Pm.Ct} (ok : kd.Ok) (oc : ct.Ok) (m1 : ct.most ≤ 20)
include ok oc m1
theorem val_step {c c' : Cf} {x : Nat} (v : Val kd ct c) (e : (M kd ct).step c x = some c') : Val kd ct c' := by
  obtain ⟨s', hs, e⟩ := mpd (show ((stp kd c.1 x).map fun s' => (s', c.2.bind fun r => Pm.nxt ct r (97 + x))) = some c' from e)
  cases e
  refine ⟨stp_lt ok v.1 hs, fun r hr => ?_⟩
  obtain ⟨r0, h0, hr⟩ := bnd (show (c.2.bind fun r => Pm.nxt ct r (97 + x)) = some r from hr)
  exact nxt_val oc (v.2 r0 h0) hr
theorem val0 : Val kd ct c0 := ⟨ok.m0, fun r hr => by cases hr; exact ⟨Int.le_refl _, oc.m0, Int.le_refl _, by have := oc.m0; show (-1 : Int) ≤ _; omega⟩⟩
theorem rcode_lt {o : Option Pm.Rest} (v : ∀ r, o = some r → RVal ct r) : rcode o < 2000 := by
  cases o with
  | none => decide
  | some r =>
    obtain ⟨b, h, g⟩ := r
    obtain ⟨v1, v2, v3, v4⟩ := v _ rfl
    simp only at v1 v2 v3 v4
    unfold rcode
    cases h <;> simp <;> omega
theorem code_inj {a b : Cf} (ha : Val kd ct a) (hb : Val kd ct b) (h : code a = code b) : a = b := by
  obtain ⟨s, o⟩ := a
  obtain ⟨t, p⟩ := b
  have h1 := rcode_lt ok oc m1 ha.2
  have h2 := rcode_lt ok oc m1 hb.2
  unfold code at h
  simp only at h h1 h2
  have e1 : s = t := by omega
  have e2 : rcode o = rcode p := by omega
  have e3 : o = p := by
    clear h
    cases o with
    | none =>
      cases p with
      | none => rfl
      | some r =>
        obtain ⟨b, hh, g⟩ := r
        have e2' : 0 = 1 + (b.toNat * 2 + hh.toNat) * 22 + (g + 1).toNat := e2
        omega
    | some r =>
      obtain ⟨b, hh, g⟩ := r
      cases p with
      | none =>
        have e2' : 1 + (b.toNat * 2 + hh.toNat) * 22 + (g + 1).toNat = 0 := e2
        omega
      | some r =>
        obtain ⟨b', hh', g'⟩ := r
        obtain ⟨v1, v2, v3, v4⟩ := ha.2 _ rfl
        obtain ⟨w1, w2, w3, w4⟩ := hb.2 _ rfl
        simp only at v1 v2 v3 v4 w1 w2 w3 w4
        replace e2 : 1 + (b.toNat * 2 + hh.toNat) * 22 + (g + 1).toNat = 1 + (b'.toNat * 2 + hh'.toNat) * 22 + (g' + 1).toNat := e2
        have e5 : hh = hh' := by
          cases hh <;> cases hh' <;> first | rfl | (simp at e2; omega)
        subst e5
        have e4 : b = b' := by omega
        have e6 : g = g' := by omega
        rw [e4, e6]
  rw [e1, e3]
theorem code_lt {a : Cf} (ha : Val kd ct a) : code a < 18000 := by
  have h1 := rcode_lt ok oc m1 ha.2
  have h2 := ha.1
  have h3 := ok.m8
  unfold code
  omega
abbrev FN (kd : Kd) (ct : Pm.Ct) := Fnd (visDom (M kd ct)) c0
theorem fnd_few {kn : List Cf} {Ds : List (Cf × List Nat)} (f : FN kd ct kn Ds) : Ds.length ≤ 18000 :=
  vis_few (Val kd ct) code (val0 ok oc m1) (fun v e => val_step ok oc m1 v e) (fun a b e => code_inj ok oc m1 a b e) (fun a => code_lt ok oc m1 a) f
end
/-! keys -/
abbrev kD (c : Cf) : D := .tup [nD c.1, roD c.2]
def rkey : Option Pm.Rest → NestedKey
  | none => .none
  | some (b, h, g) => .tup [.num b, .num (if h = true then 1 else 0), .num g]
def nkey (c : Cf) : NestedKey := .tup [.num ((c.1 : Nat) : Int), rkey c.2]
theorem nk_ro (o : Option Pm.Rest) : nkOf (roD o) = some (rkey o) := by
  cases o with
  | none => rfl
  | some r => rfl
theorem nk_kD (c : Cf) : nkT (kD c) = some (nkey c) := by
  show (nksOf [nD c.1, roD c.2]).map NestedKey.tup = _
  have : nksOf [nD c.1, roD c.2] = some [.num ((c.1 : Nat) : Int), rkey c.2] := by
    show ((nkOf (nD c.1)).bind fun k => ((nkOf (roD c.2)).bind fun k2 => (nksOf []).map (k2 :: ·)).map (k :: ·)) = _
    rw [nk_ro]; rfl
  rw [this]; rfl
theorem nk_kD' (c : Cf) : nkOf (kD c) = some (nkey c) := nk_kD c
theorem nk_depth (c : Cf) : (nkey c).depth ≤ 8 := by
  obtain ⟨s, o⟩ := c
  cases o with
  | none => simp [nkey, rkey, NestedKey.depth, NestedKey.depthAll]
  | some r => obtain ⟨b, h, g⟩ := r; simp [nkey, rkey, NestedKey.depth, NestedKey.depthAll]
theorem nkey_inj {a b : Cf} (h : nkey a = nkey b) : a = b := by
  obtain ⟨s, o⟩ := a
  obtain ⟨t, p⟩ := b
  unfold nkey at h
  simp only [NestedKey.tup.injEq, List.cons.injEq, NestedKey.num.injEq, and_true] at h
  obtain ⟨h1, h2⟩ := h
  have e1 : s = t := by omega
  have e2 : o = p := by
    cases o with
    | none => cases p with
      | none => rfl
      | some r => obtain ⟨b, h, g⟩ := r; cases h2
    | some r =>
      obtain ⟨b, h, g⟩ := r
      cases p with
      | none => cases h2
      | some r =>
        obtain ⟨b', h', g'⟩ := r
        simp only [rkey, NestedKey.tup.injEq, List.cons.injEq, NestedKey.num.injEq, and_true] at h2
        obtain ⟨z1, z2, z3⟩ := h2
        have : h = h' := by cases h <;> cases h' <;> simp_all
        rw [z1, z3, this]
  rw [e1, e2]
theorem has_kn (kn : List Cf) (c : Cf) : hasN (kn.map kD) (nkey c) = decide (c ∈ kn) := by
  unfold hasN
  induction kn with
  | nil => simp
  | cons a kn ih =>
    rw [List.map_cons, List.any_cons, ih, nk_kD']
    by_cases h : a = c
    · simp [h]
    · have h' : ¬ some (nkey a) = some (nkey c) := fun z => h (nkey_inj (Option.some.inj z))
      have h2 : ¬ c = a := fun z => h z.symm
      simp [h', h2]
def knO (kn : List Cf) : Ob := .nkd (kn.map kD) (kn.map fun _ => .bl true)
def setK (st : S) (n : Nat) (kn : List Cf) : S := st.put n (knO kn)
theorem setK_at {st : S} {n : Nat} (h : n < st.ob.length) (kn : List Cf) : nkdAt (setK st n kn) n = some (kn.map kD, kn.map fun _ => .bl true) := by
  have : (setK st n kn).ob[n]? = some (knO kn) := by
    show (st.ob.set n _)[n]? = _
    rw [List.getElem?_set_self h]
  unfold nkdAt
  rw [this]
  rfl
theorem setK_put (st : S) (n : Nat) (kn kn' : List Cf) : (setK st n kn).put n (knO kn') = setK st n kn' := by
  show ({ (setK st n kn) with ob := (st.ob.set n _).set n _ } : S) = { st with ob := st.ob.set n _ }
  rw [List.set_set]
  rfl
theorem put_kn (kn : List Cf) (c : Cf) (h : c ∉ kn) : Ob.nkd (putNK (kn.map kD) (kD c) (nkey c)) (putNV (kn.map kD) (kn.map fun _ => .bl true) (nkey c) (.bl true)) = knO (kn ++ [c]) := by
  unfold putNK putNV knO
  rw [has_kn, decide_eq_false h]
  simp
theorem v_nin {neg : Bool} {fa fd : ME} {env : Sg} {st : S} : ninM neg fa fd env st = (fa env st).bind fun p => (fd env p.2).bind fun q => (refOf q.1).bind fun n => (nkdAt q.2 n).bind fun z => (nkT p.1).bind fun k => if k.depth ≤ 8 then some (.bl (if neg = true then !hasN z.1 k else hasN z.1 k), q.2) else none := (rfl)
theorem nin_ok {fa fd : ME} {env : Sg} {st : S} {n : Nat} {kn : List Cf} {c : Cf} (hn : n < st.ob.length) (h1 : fa env (setK st n kn) = some (kD c, setK st n kn)) (h2 : fd env (setK st n kn) = some (.ref n, setK st n kn)) : ninM true fa fd env (setK st n kn) = some (.bl (!decide (c ∈ kn)), setK st n kn) := by
  rw [v_nin, h1, Option.bind_some, h2, Option.bind_some]
  show ((nkdAt (setK st n kn) n).bind _) = _
  rw [setK_at hn, Option.bind_some, nk_kD, Option.bind_some, if_pos (nk_depth c), has_kn]
  rfl
theorem v_nput {fo fk fv : ME} {env : Sg} {st : S} : nputM fo fk fv env st = (fv env st).bind fun p => (fo env p.2).bind fun o => (refOf o.1).bind fun n => (fk env o.2).bind fun q => (nkT q.1).bind fun k => (nkdAt q.2 n).bind fun z =>
  if k.depth ≤ 8 ∧ z.1.length < sizeLine then some (.nx env, q.2.put n (.nkd (putNK z.1 q.1 k) (putNV z.1 z.2 k p.1))) else none := (rfl)
theorem nput_ok {fo fk : ME} {env : Sg} {st : S} {n : Nat} {kn : List Cf} {c : Cf} (hn : n < st.ob.length) (hl : kn.length ≤ 100000) (hc : c ∉ kn) (h1 : fo env (setK st n kn) = some (.ref n, setK st n kn)) (h2 : fk env (setK st n kn) = some (kD c, setK st n kn)) :
    nputM fo fk (cst (.bl true)) env (setK st n kn) = some (.nx env, setK st n (kn ++ [c])) := by
  rw [v_nput, v_cst, Option.bind_some, h1, Option.bind_some]
  show ((fk env (setK st n kn)).bind fun q => (nkT q.1).bind fun k => (nkdAt q.2 n).bind _) = _
  rw [h2, Option.bind_some, nk_kD, Option.bind_some]
  show ((nkdAt (setK st n kn) n).bind _) = _
  rw [setK_at hn, Option.bind_some, if_pos ⟨nk_depth c, by rw [List.length_map]; exact Nat.lt_of_le_of_lt hl (by decide)⟩, put_kn kn c hc, setK_put]
end Lw

set_option Elab.async false
set_option linter.all false
set_option maxRecDepth 100000
set_option maxHeartbeats 2000000
namespace Lw
open PySem MD Bf
/-! ### stuck, letter by letter -/
def lyD (p : Cf × List Nat) : D := .tup [kD p.1, .str (W p.2)]
noncomputable def ltE : ME := (ifM (tstM (opM isM (rd 9) (cst .non))) (cst .non) (opM subD (callM m_next_rest (aCons (rd 9) (aCons (rd 2) (aCons (rd 11) (aCons (opM subD (rd 4) (rd 12)) aNil))))) (cst (.int 0))))
noncomputable def kyE : ME := (tupM (aCons (rd 13) (aCons (rd 14) aNil)))
noncomputable def mvB : MS := (seqM (asgM (nameT 14) ltE)
 (ifS (tstM (ninM true kyE (rd 5)))
 (seqM (nputM (rd 5) kyE (cst (.bl true)))
 (appM 7 (tupM (aCons kyE (aCons (opM addM (rd 10) (rd 11)) aNil)))))
 nxM))
abbrev T3 (i j k : Nat) : MG := tupT 3 (consT (nameT i) (consT (nameT j) (consT (nameT k) nilT)))
theorem seq_nx {f h : MS} {env e : Sg} {st s1 : S} (hf : f env st = some (.nx e, s1)) : seqM f h env st = h e s1 := by rw [v_seqM, hf]; rfl
theorem asg_nx {f : ME} {i : Nat} {env : Sg} {st s1 : S} {d : D} (hf : f env st = some (d, s1)) : asgM (nameT i) f env st = some (.nx (env.set i (.val d)), s1) := by rw [v_asgM, hf]; rfl
theorem ifs_t {c : MT} {p q : MS} {env : Sg} {st s1 : S} {r : Option (Fl × S)} (hc : c env st = some (true, s1)) (hp : p env s1 = r) : ifS c p q env st = r := by rw [v_ifS, hc, Option.bind_some]; exact hp
theorem ifs_f {c : MT} {p q : MS} {env : Sg} {st s1 : S} {r : Option (Fl × S)} (hc : c env st = some (false, s1)) (hp : q env s1 = r) : ifS c p q env st = r := by rw [v_ifS, hc, Option.bind_some]; exact hp
theorem tst_of {f : ME} {env : Sg} {st s1 : S} {b : Bool} (h : f env st = some (.bl b, s1)) : tstM f env st = some (b, s1) := by rw [v_tstM, h]; rfl
section
variable {kd : Kd} {uss : List (List Int)} {u : Nat} {ct : Pm.Ct} (ok : kd.Ok) (f : Fit kd.k uss u ct) (n : Nat) (LY : D)
abbrev envM (kd : Kd) (uss : List (List Int)) (u : Nat) (ct : Pm.Ct) (n : Nat) (LY : D) (fu : List (Cf × List Nat)) (c : Cf) (w : List Nat) (x11 x12 x13 x14 : Sl) : Sg :=
  [.val (tK kd), .val (tU uss), .val (tC u ct.most ct.cl), .val (kD c0), .val (tI ct.us), .val (.ref n), .val LY, .own (.lst, fu.map lyD), .val (nD c.1), .val (roD c.2), .val (.str (W w)), x11, x12, x13, x14]
include ok f
theorem unit_x {x : Nat} (hx : x < kd.k) : L2.atI (ct.us.map D.int) ((x : Nat) : Int) = some (.int (Pm.uu ct.us (97 + x))) := by
  have := unit_at (us := ct.us) (c := 97 + x) ⟨by omega, by rw [f.ul]; omega⟩
  rw [Nat.add_sub_cancel_left] at this
  exact this
theorem lt_ok {c : Cf} {w : List Nat} {x : Nat} (hx : x < kd.k) (fu : List (Cf × List Nat)) (x13 x14 : Sl) (st : S) :
    ltE (envM kd uss u ct n LY fu c w (.val (.str (W [97 + x]))) (.val (nD x)) x13 x14) st = some (roD (c.2.bind fun r => Pm.nxt ct r (97 + x)), st) := by
  have hu := unit_x ok f hx
  obtain ⟨s, o⟩ := c
  cases o with
  | none =>
    unfold ltE
    generalize callM m_next_rest (aCons (rd 9) (aCons (rd 2) (aCons (rd 11) (aCons (opM subD (rd 4) (rd 12)) aNil)))) = C
    simp [roD, nonD]
  | some r =>
    obtain ⟨b, e1⟩ := next_ok (ct := ct) (u := u) r (97 + x) st
    have c1 : callM m_next_rest (aCons (rd 9) (aCons (rd 2) (aCons (rd 11) (aCons (opM subD (rd 4) (rd 12)) aNil)))) (envM kd uss u ct n LY fu (s, some r) w (.val (.str (W [97 + x]))) (.val (nD x)) x13 x14) st = some (.tup [roD (Pm.nxt ct r (97 + x)), .bl b], st) :=
      call_of (ds := [rsD r, tC u ct.most ct.cl, .str (W [97 + x]), .int (Pm.uu ct.us (97 + x))]) (s1 := st) (by simp [hu, roD]) e1
    unfold ltE
    generalize callM m_next_rest (aCons (rd 9) (aCons (rd 2) (aCons (rd 11) (aCons (opM subD (rd 4) (rd 12)) aNil)))) = C at c1
    simp [roD, nonD] at c1 ⊢
    simp [c1]
omit ok f in
theorem ky_ok {c c' : Cf} {w : List Nat} (fu : List (Cf × List Nat)) (x11 x12 : Sl) (st : S) : kyE (envM kd uss u ct n LY fu c w x11 x12 (.val (nD c'.1)) (.val (roD c'.2))) st = some (kD c', st) := by
  unfold kyE
  simp [grd_of (show 2 ≤ 1000000 by decide)]
/-- one letter -/
theorem mv_turn {c : Cf} {w : List Nat} {x s' : Nat} (hx : x < kd.k) {kn : List Cf} {fu : List (Cf × List Nat)} (hkl : kn.length ≤ 100000) (hfu : fu.length ≤ 100000) (hw : w.length ≤ 100000) (st : S) (hn : n < st.ob.length) (x14 : Sl) :
    ∃ y14, mvB (envM kd uss u ct n LY fu c w (.val (.str (W [97 + x]))) (.val (nD x)) (.val (nD s')) x14) (setK st n kn) = some (match vis kn ((s', c.2.bind fun r => Pm.nxt ct r (97 + x)) : Cf) with
      | none => (.nx (envM kd uss u ct n LY fu c w (.val (.str (W [97 + x]))) (.val (nD x)) (.val (nD s')) y14), setK st n kn)
      | some kn' => (.nx (envM kd uss u ct n LY (fu ++ [((s', c.2.bind fun r => Pm.nxt ct r (97 + x)), w ++ [97 + x])]) c w (.val (.str (W [97 + x]))) (.val (nD x)) (.val (nD s')) y14), setK st n kn')) := by
  have e1 := lt_ok ok f n LY (c := c) (w := w) hx fu (.val (nD s')) x14 (setK st n kn)
  generalize (c.2.bind fun r => Pm.nxt ct r (97 + x)) = o' at *
  refine ⟨.val (roD o'), ?_⟩
  have k1 := ky_ok (kd := kd) (uss := uss) (u := u) (ct := ct) n LY (c := c) (c' := (s', o')) (w := w) fu (.val (.str (W [97 + x]))) (.val (nD x)) (setK st n kn)
  have r1 : rd 5 (envM kd uss u ct n LY fu c w (.val (.str (W [97 + x]))) (.val (nD x)) (.val (nD s')) (.val (roD o'))) (setK st n kn) = some (.ref n, setK st n kn) := rfl
  have t1 := nin_ok (c := (s', o')) (kn := kn) hn k1 r1
  unfold mvB
  rw [seq_nx (e := envM kd uss u ct n LY fu c w (.val (.str (W [97 + x]))) (.val (nD x)) (.val (nD s')) (.val (roD o'))) (asg_nx e1)]
  by_cases hc : ((s', o') : Cf) ∈ kn
  · rw [vis_n hc]
    rw [decide_eq_true hc] at t1
    exact ifs_f (tst_of t1) v_nxM
  · rw [vis_s hc]
    rw [decide_eq_false hc] at t1
    have p1 := nput_ok (c := (s', o')) (kn := kn) hn hkl hc r1 k1
    refine ifs_t (tst_of t1) ?_
    rw [seq_nx p1]
    have k2 := ky_ok (kd := kd) (uss := uss) (u := u) (ct := ct) n LY (c := c) (c' := (s', o')) (w := w) fu (.val (.str (W [97 + x]))) (.val (nD x)) (setK st n (kn ++ [(s', o')]))
    generalize kyE = E at k2
    generalize hS : setK st n (kn ++ [(s', o')]) = S2 at k2 p1 ⊢
    have g1 : (fu.map lyD).length + 1 ≤ 1000000 := by rw [List.length_map]; omega
    have g2 : w.length + 1 ≤ 1000000 := by omega
    rw [v_appM]
    show grd ((fu.map lyD).length + 1) _ = _
    rw [grd_of g1]
    have h2 : tupM (aCons E (aCons (opM addM (rd 10) (rd 11)) aNil)) (envM kd uss u ct n LY fu c w (.val (.str (W [97 + x]))) (.val (nD x)) (.val (nD s')) (.val (roD o'))) S2 = some (lyD ((s', o'), w ++ [97 + x]), S2) := by
      rw [v_tupM, v_aCons, k2]
      simp [grd_of g2, grd_of (show 2 ≤ 1000000 by decide), W_app, lyD]
    rw [h2]
    simp
    all_goals exact hS.symm
abbrev KN (kn : List Cf) (Ds : List (Cf × List Nat)) : Prop := kn = Ds.map (·.1)
/-- all letters of a word -/
theorem mv_loop {c : Cf} {w : List Nat} (hr : run (M kd ct) c0 w = some c) (hw : w.length ≤ 100000) (st : S) (hn : n < st.ob.length) : ∀ (xs : List Nat), (∀ x ∈ xs, x < kd.k) → ∀ (kn : List Cf) (fu Ds : List (Cf × List Nat)) (x11 x12 x13 x14 : Sl), KN kn (Ds ++ fu) → FN kd ct kn (Ds ++ fu) →
    ∃ kn' more y11 y12 y13 y14, exp (M kd ct) vis c w xs kn fu = (kn', fu ++ more) ∧ KN kn' (Ds ++ (fu ++ more)) ∧ FN kd ct kn' (Ds ++ (fu ++ more)) ∧
      forL (T3 11 12 13) mvB (mvs kd c.1 xs) (envM kd uss u ct n LY fu c w x11 x12 x13 x14) (setK st n kn) = some (.nx (envM kd uss u ct n LY (fu ++ more) c w y11 y12 y13 y14), setK st n kn')
  | [], _, kn, fu, Ds, x11, x12, x13, x14, hk, F => ⟨kn, [], x11, x12, x13, x14, by simp [exp], by simpa using hk, by simpa using F, by simp [mvs]⟩
  | x :: xs, hxs, kn, fu, Ds, x11, x12, x13, x14, hk, F => by
    have hx := hxs x List.mem_cons_self
    have hxs' : ∀ y ∈ xs, y < kd.k := fun y hy => hxs y (List.mem_cons_of_mem _ hy)
    have few := fnd_few ok f.ok f.m1 F
    have hfl : fu.length ≤ 100000 := by rw [List.length_append] at few; omega
    have hkl : kn.length ≤ 100000 := by rw [hk, List.length_map]; omega
    cases hs : stp kd c.1 x with
    | none =>
      have e1 : (M kd ct).step c x = none := by
        show (stp kd c.1 x).map _ = none
        rw [hs]; rfl
      have e2 : mvs kd c.1 (x :: xs) = mvs kd c.1 xs := by simp [mvs, hs]
      rw [exp_n e1, e2]
      exact mv_loop hr hw st hn xs hxs' kn fu Ds x11 x12 x13 x14 hk F
    | some s' =>
      have e2 : mvs kd c.1 (x :: xs) = mvD x s' :: mvs kd c.1 xs := by simp [mvs, hs]
      obtain ⟨y14, he2⟩ := mv_turn ok f n LY (c := c) (w := w) (s' := s') hx hkl hfl hw st hn x14
      have step0 : (M kd ct).step c x = some (s', c.2.bind fun r => Pm.nxt ct r (97 + x)) := by
        show (stp kd c.1 x).map _ = _
        rw [hs]; rfl
      generalize (c.2.bind fun r => Pm.nxt ct r (97 + x)) = o' at *
      have turn : ∀ r, mvB (envM kd uss u ct n LY fu c w (.val (.str (W [97 + x]))) (.val (nD x)) (.val (nD s')) x14) (setK st n kn) = r → forL (T3 11 12 13) mvB (mvD x s' :: mvs kd c.1 xs) (envM kd uss u ct n LY fu c w x11 x12 x13 x14) (setK st n kn) = r.bind fun p => match p.1 with
          | .nx e => forL (T3 11 12 13) mvB (mvs kd c.1 xs) e p.2
          | .ct e => forL (T3 11 12 13) mvB (mvs kd c.1 xs) e p.2
          | .bk e => some (.nx e, p.2)
          | .rt r => some (.rt r, p.2) := by
        rintro r rfl
        rw [v_forL]
        rfl
      rw [e2, turn _ he2]
      cases ht : vis kn ((s', o') : Cf) with
      | none =>
        rw [exp_r step0 ht]
        exact mv_loop hr hw st hn xs hxs' kn fu Ds _ _ _ _ hk F
      | some kn' =>
        rw [exp_a step0 ht]
        have F' := F.step hr hx step0 ht
        rw [List.append_assoc] at F'
        obtain ⟨_, hkn'⟩ := vis_eq ht
        have hk' : KN kn' (Ds ++ (fu ++ [((s', o'), w ++ [97 + x])])) := by
          show kn' = _
          rw [hkn', hk]
          simp
        obtain ⟨kn2, more, y11, y12, y13, z14, g1, g2, g3, g4⟩ := mv_loop hr hw st hn xs hxs' kn' (fu ++ [((s', o'), w ++ [97 + x])]) Ds (.val (.str (W [97 + x]))) (.val (nD x)) (.val (nD s')) y14 hk' F'
        refine ⟨kn2, ((s', o'), w ++ [97 + x]) :: more, y11, y12, y13, z14, ?_, ?_, ?_, ?_⟩
        · rw [g1]; simp
        · simpa using g2
        · simpa using g3
        · simpa using g4
end
end Lw

set_option Elab.async false
set_option linter.all false
set_option maxRecDepth 100000
set_option maxHeartbeats 2000000
namespace Lw
open PySem MD Bf
noncomputable def lyB : MS := (seqM (ifS (andM (tstM (opM isM (rd 9) (cst .non))) (truM (opM subD (opM subD (rd 0) (cst (.int 2))) (rd 8))))
 (retM (rd 10))
 nxM)
 (forM (seqI (callM m_moves_of (aCons (rd 0) (aCons (rd 8) aNil)))) (T3 11 12 13) mvB))
abbrev TL : MG := tupT 2 (consT (tupT 2 (consT (nameT 8) (consT (nameT 9) nilT))) (consT (nameT 10) nilT))
section
variable {kd : Kd} {uss : List (List Int)} {u : Nat} {ct : Pm.Ct} (ok : kd.Ok) (f : Fit kd.k uss u ct) (n : Nat) (LY : D)
abbrev envL (kd : Kd) (uss : List (List Int)) (u : Nat) (ct : Pm.Ct) (n : Nat) (LY : D) (fu : List (Cf × List Nat)) (x8 x9 x10 x11 x12 x13 x14 : Sl) : Sg :=
  [.val (tK kd), .val (tU uss), .val (tC u ct.most ct.cl), .val (kD c0), .val (tI ct.us), .val (.ref n), .val LY, .own (.lst, fu.map lyD), x8, x9, x10, x11, x12, x13, x14]
theorem nonD_ro (o : Option Pm.Rest) : nonD (roD o) = o.isNone := by cases o <;> rfl
theorem dr_ro (st : S) (o : Option Pm.Rest) : dr st (roD o) = roD o := by cases o <;> rfl
include ok f
theorem goal_eq (c : Cf) : (M kd ct).goal c = (c.2.isNone && isE kd c.1) := rfl
/-- the first look at a word -/
theorem ly_test {c : Cf} (v : Val kd ct c) {w : List Nat} (fu : List (Cf × List Nat)) (x11 x12 x13 x14 : Sl) (st : S) :
    (andM (tstM (opM isM (rd 9) (cst .non))) (truM (opM subD (opM subD (rd 0) (cst (.int 2))) (rd 8)))) (envM kd uss u ct n LY fu c w x11 x12 x13 x14) st = some ((M kd ct).goal c, st) := by
  have eE := end_D ok v.1
  rw [goal_eq ok f]
  cases ho : c.2.isNone with
  | true => simp [nonD_ro, ho, eE]
  | false => simp [nonD_ro, ho]
/-- one layer -/
theorem ly_loop (st : S) (hn : n < st.ob.length) : ∀ (R : List (Cf × List Nat)), (∀ p ∈ R, run (M kd ct) c0 p.2 = some p.1 ∧ p.2.length ≤ 100000) → ∀ (kn : List Cf) (fu Ds : List (Cf × List Nat)) (x8 x9 x10 x11 x12 x13 x14 : Sl), KN kn (Ds ++ fu) → FN kd ct kn (Ds ++ fu) →
    (∀ w, lay (M kd ct) vis R kn fu = .inl w → ∃ st', forL TL lyB (R.map lyD) (envL kd uss u ct n LY fu x8 x9 x10 x11 x12 x13 x14) (setK st n kn) = some (.rt (.str (W w)), st') ∧ st'.n = st.n) ∧
    (∀ kn' fu', lay (M kd ct) vis R kn fu = .inr (kn', fu') → KN kn' (Ds ++ fu') ∧ ∃ y8 y9 y10 y11 y12 y13 y14, forL TL lyB (R.map lyD) (envL kd uss u ct n LY fu x8 x9 x10 x11 x12 x13 x14) (setK st n kn) =
      some (.nx (envL kd uss u ct n LY fu' y8 y9 y10 y11 y12 y13 y14), setK st n kn'))
  | [], _, kn, fu, Ds, x8, x9, x10, x11, x12, x13, x14, hk, F => by
    refine ⟨fun w h => (by cases h), fun kn' fu' h => ?_⟩
    cases h
    exact ⟨hk, x8, x9, x10, x11, x12, x13, x14, rfl⟩
  | (c, w) :: R, hR, kn, fu, Ds, x8, x9, x10, x11, x12, x13, x14, hk, F => by
    obtain ⟨hrun, hwl⟩ := hR _ List.mem_cons_self
    replace hrun : run (M kd ct) c0 w = some c := hrun
    replace hwl : w.length ≤ 100000 := hwl
    have v : Val kd ct c := run_val (Val kd ct) (fun v e => val_step ok f.ok f.m1 v e) w _ _ (val0 ok f.ok f.m1) hrun
    have hmov := moves_ok ok v.1 (setK st n kn)
    obtain ⟨kn1, more, y11, y12, y13, y14, g1, g2, g3, g4⟩ := mv_loop ok f n LY hrun hwl st hn (List.range kd.k) (fun x hx => List.mem_range.mp hx) kn fu Ds x11 x12 x13 x14 hk F
    have turn : ∀ q, lyB (envM kd uss u ct n LY fu c w x11 x12 x13 x14) (setK st n kn) = q → forL TL lyB (((c, w) :: R).map lyD) (envL kd uss u ct n LY fu x8 x9 x10 x11 x12 x13 x14) (setK st n kn) = q.bind fun p => match p.1 with
          | .nx e => forL TL lyB (R.map lyD) e p.2
          | .ct e => forL TL lyB (R.map lyD) e p.2
          | .bk e => some (.nx e, p.2)
          | .rt r => some (.rt r, p.2) := by
      rintro q rfl
      rw [List.map_cons, v_forL]
      rfl
    have ht := ly_test ok f n LY v (w := w) fu x11 x12 x13 x14 (setK st n kn)
    by_cases hg : (M kd ct).goal c = true
    · have eq : lyB (envM kd uss u ct n LY fu c w x11 x12 x13 x14) (setK st n kn) = some (.rt (.str (W w)), setK st n kn) := by
        rw [hg] at ht
        unfold lyB
        rw [v_seqM, ifs_t ht (r := some (.rt (.str (W w)), setK st n kn)) (by simp)]
        rfl
      rw [turn _ eq]
      refine ⟨fun w' h => ?_, fun kn' fu' h => ?_⟩
      · unfold lay at h
        rw [if_pos hg] at h
        cases h
        exact ⟨_, rfl, rfl⟩
      · unfold lay at h
        rw [if_pos hg] at h
        cases h
    · have eq : lyB (envM kd uss u ct n LY fu c w x11 x12 x13 x14) (setK st n kn) = some (.nx (envM kd uss u ct n LY (fu ++ more) c w y11 y12 y13 y14), setK st n kn1) := by
        have hg' : (M kd ct).goal c = false := by simpa using hg
        rw [hg'] at ht
        unfold lyB
        rw [seq_nx (ifs_f ht v_nxM)]
        have c1 : callM m_moves_of (aCons (rd 0) (aCons (rd 8) aNil)) (envM kd uss u ct n LY fu c w x11 x12 x13 x14) (setK st n kn) = some (.lst (mvs kd c.1 (List.range kd.k)), setK st n kn) :=
          call_of (ds := [tK kd, nD c.1]) (s1 := setK st n kn) (by simp) hmov
        generalize callM m_moves_of (aCons (rd 0) (aCons (rd 8) aNil)) = C at c1
        rw [v_forM, v_seqI, c1]
        exact g4
      rw [turn _ eq]
      have ih := ly_loop st hn R (fun p hp => hR p (List.mem_cons_of_mem _ hp)) kn1 (fu ++ more) Ds (.val (nD c.1)) (.val (roD c.2)) (.val (.str (W w))) y11 y12 y13 y14 g2 g3
      unfold lay
      rw [if_neg hg]
      have e1 : exp (M kd ct) vis c w (List.range (M kd ct).k) kn fu = (kn1, fu ++ more) := g1
      rw [e1]
      exact ih
noncomputable def brC : MT := (tstM (opM neM (rd 6) (frz (lstM aNil))))
noncomputable def brB : MS := (seqM (ownM 7 (lstM aNil))
 (seqM (forM (seqI (rd 6)) TL lyB)
 (frzM 7 (asgM (nameT 6) (rd 7)))))
abbrev envW (kd : Kd) (uss : List (List Int)) (u : Nat) (ct : Pm.Ct) (n : Nat) (L : List (Cf × List Nat)) (x7 x8 x9 x10 x11 x12 x13 x14 : Sl) : Sg :=
  [.val (tK kd), .val (tU uss), .val (tC u ct.most ct.cl), .val (kD c0), .val (tI ct.us), .val (.ref n), .val (.lst (L.map lyD)), x7, x8, x9, x10, x11, x12, x13, x14]
abbrev LV (kd : Kd) (ct : Pm.Ct) := Lv (T := visDom (M kd ct)) (c0 := c0)
omit ok f in
theorem nice_ro (o : Option Pm.Rest) : (roD o).pl = true ∧ (roD o).py.canLay0 = true ∧ (roD o).py.depth ≤ 1 := by
  cases o with
  | none => exact ⟨rfl, rfl, by simp [roD, D.py, PyData.depth]⟩
  | some r =>
    exact Nice.tup' (n := 0) (ds := [.int r.1, .bl r.2.1, .int r.2.2]) fun d hd => by
      simp only [List.mem_cons, List.mem_nil_iff, or_false] at hd
      rcases hd with rfl | rfl | rfl <;> exact ⟨rfl, rfl, by simp [D.py, PyData.depth]⟩
omit ok f in
theorem nice_ly {w : List Nat} (hw : ∀ c ∈ w, c < 128) (c : Cf) : Nice (lyD (c, w)) := by
  have h2 := Nice.tup' (n := 1) (ds := [nD c.1, roD c.2]) fun d hd => by
    simp only [List.mem_cons, List.mem_nil_iff, or_false] at hd
    rcases hd with rfl | rfl
    · exact ⟨rfl, rfl, by simp [D.py, PyData.depth]⟩
    · exact nice_ro c.2
  have h3 := Nice.tup' (n := 2) (ds := [kD c, .str (W w)]) fun d hd => by
    simp only [List.mem_cons, List.mem_nil_iff, or_false] at hd
    rcases hd with rfl | rfl
    · exact h2
    · exact ⟨rfl, strOk_W hw, by simp [D.py, PyData.depth]⟩
  exact ⟨h3.1, h3.2.1, by have := h3.2.2; show (D.tup [kD c, .str (W w)]).py.depth ≤ 20; omega⟩
theorem wh_ok (st : S) (hn : n < st.ob.length) : ∀ (m j : Nat) (kn : List Cf) (Ds L : List (Cf × List Nat)) (x7 x8 x9 x10 x11 x12 x13 x14 : Sl) (q : Option (List Nat)), KN kn Ds → LV kd ct kn Ds L j → bfs (M kd ct) vis m kn L = some q →
    ∃ st', st'.n = st.n ∧ (match q with
      | some w => whF brC brB m (envW kd uss u ct n L x7 x8 x9 x10 x11 x12 x13 x14) (setK st n kn) = some (.rt (.str (W w)), st')
      | none => ∃ e, whF brC brB m (envW kd uss u ct n L x7 x8 x9 x10 x11 x12 x13 x14) (setK st n kn) = some (.nx e, st'))
  | 0, _, _, _, _, _, _, _, _, _, _, _, _, _, _, _, h => by cases h
  | m + 1, j, kn, Ds, L, x7, x8, x9, x10, x11, x12, x13, x14, q, hk, v, h => by
    have few := fnd_few ok f.ok f.m1 v.fnd
    have hrun : ∀ p ∈ L, run (M kd ct) c0 p.2 = some p.1 ∧ p.2.length ≤ 100000 := fun p hp => by
      obtain ⟨h1, h2⟩ := v.lay p hp
      refine ⟨v.fnd.run p h2, ?_⟩
      have := v.cnt
      omega
    have hnice : ∀ d ∈ L.map lyD, Nice d := fun d hd => by
      obtain ⟨p, hp, rfl⟩ := List.mem_map.mp hd
      refine nice_ly (fun x hx => ?_) p.1
      have h1 := run_letters p.2 _ _ (hrun p hp).1 x hx
      have h2 := ok.k4
      have h3 : (M kd ct).k = kd.k := rfl
      omega
    have hcond : brC (envW kd uss u ct n L x7 x8 x9 x10 x11 x12 x13 x14) (setK st n kn) = some (!(L.map lyD).isEmpty, setK st n kn) := by
      simp [brC, ne_nil hnice, grd_of (show 0 ≤ 1000000 by decide)]
    cases L with
    | nil =>
      cases h
      refine ⟨setK st n kn, rfl, ?_⟩
      unfold whF
      rw [hcond]
      exact ⟨_, rfl⟩
    | cons p0 L =>
      have loop := ly_loop ok f n (.lst ((p0 :: L).map lyD)) st hn (p0 :: L) hrun kn [] Ds x8 x9 x10 x11 x12 x13 x14 (by simpa using hk) (by simpa using v.fnd)
      have whS : ∀ s, brB (envW kd uss u ct n (p0 :: L) x7 x8 x9 x10 x11 x12 x13 x14) (setK st n kn) = s →
          whF brC brB (m + 1) (envW kd uss u ct n (p0 :: L) x7 x8 x9 x10 x11 x12 x13 x14) (setK st n kn) = s.bind fun p => match p.1 with
            | .nx e => whF brC brB m e p.2
            | .ct e => whF brC brB m e p.2
            | .bk e => some (.nx e, p.2)
            | .rt r => some (.rt r, p.2) := by
        rintro s rfl
        rw [whF, hcond]
        rfl
      have bodyE : ∀ s, forL TL lyB ((p0 :: L).map lyD) (envL kd uss u ct n (.lst ((p0 :: L).map lyD)) [] x8 x9 x10 x11 x12 x13 x14) (setK st n kn) = s →
          brB (envW kd uss u ct n (p0 :: L) x7 x8 x9 x10 x11 x12 x13 x14) (setK st n kn) = s.bind fun p => match p.1 with
            | .nx e => (frzM 7 (asgM (nameT 6) (rd 7))) e p.2
            | fl => some (fl, p.2) := by
        rintro s rfl
        unfold brB
        have o1 : ownM 7 (lstM aNil) (envW kd uss u ct n (p0 :: L) x7 x8 x9 x10 x11 x12 x13 x14) (setK st n kn) = some (.nx (envL kd uss u ct n (.lst ((p0 :: L).map lyD)) [] x8 x9 x10 x11 x12 x13 x14), setK st n kn) := by
          simp [grd_of (show 0 ≤ 1000000 by decide)]
        rw [seq_nx o1, v_seqM]
        rfl
      rw [bfs] at h
      cases hl : lay (M kd ct) vis (p0 :: L) kn [] with
      | inl w =>
        rw [hl] at h
        cases h
        obtain ⟨st', e, hst⟩ := loop.1 w hl
        refine ⟨st', hst, ?_⟩
        show whF brC brB (m + 1) _ _ = _
        rw [whS _ (bodyE _ e)]
        rfl
      | inr kf =>
        obtain ⟨kn', fu⟩ := kf
        rw [hl] at h
        obtain ⟨hk', y8, y9, y10, y11, y12, y13, y14, e⟩ := loop.2 kn' fu hl
        have v' := v.next (by simp) hl
        have eb : brB (envW kd uss u ct n (p0 :: L) x7 x8 x9 x10 x11 x12 x13 x14) (setK st n kn) =
            some (.nx (envW kd uss u ct n fu (.val (.lst (fu.map lyD))) y8 y9 y10 y11 y12 y13 y14), setK st n kn') := by
          rw [bodyE _ e]
          simp
        obtain ⟨st', hst, ih⟩ := wh_ok st hn m (j + 1) kn' (Ds ++ fu) fu (.val (.lst (fu.map lyD))) y8 y9 y10 y11 y12 y13 y14 q hk' v' h
        refine ⟨st', hst, ?_⟩
        rw [whS _ eb]
        exact ih
def resD : Option (List Nat) → D
  | some w => .str (W w)
  | none => .non
theorem stuck_ok (st : S) : ∃ q st', m_stuck [tK kd, tU uss, tC u ct.most ct.cl] st = some (resD q, st') ∧ st'.n = st.n ∧ (∀ w, q = some w → Goal (M kd ct) c0 w ∧ ∀ v, Goal (M kd ct) c0 v → ¬ slt v w) ∧ (q = none → ∀ v, ¬ Goal (M kd ct) c0 v) ∧ ∀ w, q = some w → w.length ≤ 18000 := by
  have v0 : LV kd ct [c0] [(c0, [])] [(c0, [])] 0 := vis_start (M kd ct) c0
  obtain ⟨q, hq, q1, q2⟩ := bfs_ok 18000 (fun kn Ds F => fnd_few ok f.ok f.m1 F) 18001 0 _ _ _ v0 (by omega)
  obtain ⟨st1, hst1⟩ : ∃ st1, st1 = st.ad (knO [c0]) := ⟨_, rfl⟩
  have hn1 : st.ob.length < st1.ob.length := by rw [hst1]; show _ < (st.ob ++ [_]).length; simp
  have est : setK st1 st.ob.length [c0] = st1 := by
    rw [hst1]
    show ({ (st.ad (knO [c0])) with ob := (st.ob ++ [knO [c0]]).set st.ob.length (knO [c0]) } : S) = st.ad (knO [c0])
    have : (st.ob ++ [knO [c0]]).set st.ob.length (knO [c0]) = st.ob ++ [knO [c0]] := by
      rw [List.set_append_right _ _ (Nat.le_refl _), Nat.sub_self]
      rfl
    rw [this]
    rfl
  obtain ⟨st', hst, hw⟩ := wh_ok ok f st.ob.length st1 hn1 18001 0 [c0] [(c0, [])] [(c0, [])] .un .un .un .un .un .un .un .un q rfl v0 hq
  rw [est] at hw
  refine ⟨q, st', ?_, by rw [hst, hst1]; rfl, q1, q2, fun w hw => by
    subst hw
    have := bfs_len 18001 0 _ _ w (fun p hp => by rw [List.mem_singleton.mp hp]; rfl) hq
    omega⟩
  have hb : b_stuck = (seqM (parM 3 4 (aCons (tupM (aCons (cst (.int 0)) (aCons (cst (.tup [.int 0, .bl false, .int (-1)])) aNil))) (aCons (opM subD (rd 1) (opM subD (rd 2) (cst (.int 0)))) aNil)))
   (seqM (par2 5 6 (xV (stoN (rd 3) (cst (.bl true)))) (xV (frz (lstM (aCons (tupM (aCons (rd 3) (aCons (cst (.str "")) aNil))) aNil)))))
   (seqM (whM brC brB) (retM (cst .non))))) := rfl
  have hix := f.ix
  have e0 : parM 3 4 (aCons (tupM (aCons (cst (.int 0)) (aCons (cst (.tup [.int 0, .bl false, .int (-1)])) aNil))) (aCons (opM subD (rd 1) (opM subD (rd 2) (cst (.int 0)))) aNil))
      [.val (tK kd), .val (tU uss), .val (tC u ct.most ct.cl), .un, .un, .un, .un, .un, .un, .un, .un, .un, .un, .un, .un] st = some (.nx [.val (tK kd), .val (tU uss), .val (tC u ct.most ct.cl), .val (kD c0), .val (tI ct.us), .un, .un, .un, .un, .un, .un, .un, .un, .un, .un], st) := by
    simp [hix, grd_of (show 2 ≤ 1000000 by decide), roD]
  have hsto : stoN (rd 3) (cst (.bl true)) [.val (tK kd), .val (tU uss), .val (tC u ct.most ct.cl), .val (kD c0), .val (tI ct.us), .un, .un, .un, .un, .un, .un, .un, .un, .un, .un] st = some (.ref st.ob.length, st1) := by
    show ((nkT (kD c0)).bind fun k => if k.depth ≤ 8 then some (D.ref st.ob.length, st.ad (.nkd [kD c0] [.bl true])) else none) = _
    rw [nk_kD, Option.bind_some, if_pos (nk_depth c0), hst1]
    rfl
  have e1 : par2 5 6 (xV (stoN (rd 3) (cst (.bl true)))) (xV (frz (lstM (aCons (tupM (aCons (rd 3) (aCons (cst (.str "")) aNil))) aNil))))
      [.val (tK kd), .val (tU uss), .val (tC u ct.most ct.cl), .val (kD c0), .val (tI ct.us), .un, .un, .un, .un, .un, .un, .un, .un, .un, .un] st = some (.nx (envW kd uss u ct st.ob.length [(c0, [])] .un .un .un .un .un .un .un .un), st1) := by
    unfold par2 xV
    generalize stoN (rd 3) (cst (.bl true)) = X at hsto
    simp [hsto, grd_of (show 2 ≤ 1000000 by decide), grd_of (show 1 ≤ 1000000 by decide), lyD, empty_W]
  have er : m_stuck [tK kd, tU uss, tC u ct.most ct.cl] st = (b_stuck [.val (tK kd), .val (tU uss), .val (tC u ct.most ct.cl), .un, .un, .un, .un, .un, .un, .un, .un, .un, .un, .un, .un] st).bind fun p => match p.1 with | .rt d => some (d, p.2) | .nx _ => some (.non, p.2) | _ => none := rfl
  rw [er, hb, seq_nx e0, seq_nx e1, v_seqM]
  cases q with
  | some w =>
    rw [whM_of hw]
    rfl
  | none =>
    obtain ⟨e, hw⟩ := hw
    rw [whM_of hw]
    rfl
end
end Lw

set_option Elab.async false
set_option linter.all false
set_option maxRecDepth 100000
set_option maxHeartbeats 2000000
namespace Lw
open PySem MD Bf
section
variable {kd : Kd} {ct : Pm.Ct}
theorem run_fwd : ∀ (v : List Nat) (s : Nat) (o : Option Pm.Rest) (c : Cf), run (M kd ct) (s, o) v = some c → Lets kd.k v ∧ walk kd s v = some c.1 ∧ c.2 = Pm.rr ct o v
  | [], s, o, c, e => by
    cases e
    exact ⟨(fun x hx => nomatch hx), rfl, rfl⟩
  | x :: v, s, o, c, e => by
    obtain ⟨c1, e1, e⟩ := bnd (show ((Bf.rd1 (M kd ct) (s, o) x).bind fun c' => run (M kd ct) c' v) = some c from e)
    unfold Bf.rd1 at e1
    split at e1
    · rename_i hx
      obtain ⟨s', hs, e1⟩ := mpd (show ((stp kd s (x - 97)).map fun s' => (s', o.bind fun r => Pm.nxt ct r (97 + (x - 97)))) = some c1 from e1)
      cases e1
      have ex : 97 + (x - 97) = x := by have := hx.1; omega
      rw [ex] at e
      obtain ⟨i1, i2, i3⟩ := run_fwd v s' _ c e
      refine ⟨fun y hy => ?_, ?_, i3⟩
      · rcases List.mem_cons.mp hy with z | z
        · rw [z]; exact hx
        · exact i1 y z
      · show (stp kd s (x - 97)).bind (fun s' => walk kd s' v) = _
        rw [hs]; exact i2
    · cases e1
theorem run_bwd : ∀ (v : List Nat) (s s' : Nat) (o : Option Pm.Rest), Lets kd.k v → walk kd s v = some s' → run (M kd ct) (s, o) v = some (s', Pm.rr ct o v)
  | [], s, s', o, _, h => by cases h; rfl
  | x :: v, s, s', o, hl, h => by
    have hx := hl x List.mem_cons_self
    obtain ⟨s1, h1, h2⟩ := bnd (show ((stp kd s (x - 97)).bind fun s' => walk kd s' v) = some s' from h)
    show ((Bf.rd1 (M kd ct) (s, o) x).bind fun c' => run (M kd ct) c' v) = _
    have ex : 97 + (x - 97) = x := by have := hx.1; omega
    have : Bf.rd1 (M kd ct) (s, o) x = some (s1, o.bind fun r => Pm.nxt ct r x) := by
      unfold Bf.rd1
      rw [if_pos (show 97 ≤ x ∧ x < 97 + (M kd ct).k from hx)]
      show (stp kd s (x - 97)).map _ = _
      rw [h1]
      show some (s1, o.bind fun r => Pm.nxt ct r (97 + (x - 97))) = _
      rw [ex]
    rw [this]
    exact run_bwd v s1 s' _ (fun y hy => hl y (List.mem_cons_of_mem _ hy)) h2
/-- what is told of a word -/
abbrev Un (kd : Kd) (ct : Pm.Ct) (v : List Nat) : Prop := Lets kd.k v ∧ isOf kd v = true ∧ Pm.pc ct v.length v = true
theorem goal_iff (oc : ct.Ok) (v : List Nat) : Goal (M kd ct) c0 v ↔ Un kd ct v := by
  have hm := Pm.mach0 oc v v.length (Nat.le_refl _)
  constructor
  · rintro ⟨c, h1, h2⟩
    obtain ⟨i1, i2, i3⟩ := run_fwd v 0 _ c h1
    replace h2 : (c.2.isNone && isE kd c.1) = true := h2
    rw [Bool.and_eq_true] at h2
    refine ⟨i1, ?_, hm.mp ?_⟩
    · unfold isOf
      rw [i2]; exact h2.2
    · rw [← i3]
      cases h : c.2 with
      | none => rfl
      | some r => rw [h] at h2; cases h2.1
  · rintro ⟨h1, h2, h3⟩
    unfold isOf at h2
    split at h2
    · cases h2
    · rename_i s hs
      refine ⟨_, run_bwd v 0 s _ h1 hs, ?_⟩
      show (Option.isNone _ && isE kd s) = true
      rw [hm.mpr h3, h2]
      rfl
end
/-! ### the law -/
noncomputable def lwP (i : Nat) : ME := callM m__law_pieces (aCons (rd 4) (aCons (rd 5) (aCons (rd i) aNil)))
noncomputable def lwC : MS := (ifS (andM (tstM (opM isNotM (rd 6) (cst .non))) (orM (notM (truM (callM m__law_is_of (aCons (rd 3) (aCons (rd 6) aNil))))) (tstM (opM isNotM (lwP 6) (cst .non)))))
 (retM (cst (.bl false)))
 nxM)
noncomputable def lwB : MS := (ifS (andM (tstM (opM isM (lwP 7) (cst .non))) (orM (tstM (opM isM (rd 6) (cst .non))) (tstM (opM ltA (tupM (aCons (cbM lenA (aCons (rd 7) aNil)) (aCons (rd 7) aNil))) (tupM (aCons (cbM lenA (aCons (rd 6) aNil)) (aCons (rd 6) aNil)))))))
 (retM (cst (.bl false)))
 nxM)
section
variable {kd : Kd} {uss : List (List Int)} {u : Nat} {ct : Pm.Ct} (ok : kd.Ok) (f : Fit kd.k uss u ct) {q : Option (List Nat)}
include ok f
theorem lwC_ok (hq : ∀ w, q = some w → Un kd ct w) (hql : ∀ w, q = some w → w.length ≤ 18000) (x0 x2 x7 : Sl) (st : S) :
    lwC [x0, .val .deck, x2, .val (tK kd), .val (tU uss), .val (tC u ct.most ct.cl), .val (resD q), x7] st = some (.nx [x0, .val .deck, x2, .val (tK kd), .val (tU uss), .val (tC u ct.most ct.cl), .val (resD q), x7], st) := by
  cases q with
  | none =>
    unfold lwC
    generalize lwP 6 = P
    simp [resD, nonD]
  | some w =>
    obtain ⟨h1, h2, h3⟩ := hq w rfl
    have hl := hql w rfl
    have c0' := isof_ok ok h1 st
    rw [h2] at c0'
    have c1 : callM m__law_is_of (aCons (rd 3) (aCons (rd 6) aNil)) [x0, .val .deck, x2, .val (tK kd), .val (tU uss), .val (tC u ct.most ct.cl), .val (resD (some w)), x7] st = some (.bl true, st) := call_of (ds := [tK kd, .str (W w)]) (s1 := st) (by simp [resD]) c0'
    obtain ⟨ds, e2⟩ := pieces_ok f h1 (by omega) st
    rw [if_pos h3] at e2
    have c2 : lwP 6 [x0, .val .deck, x2, .val (tK kd), .val (tU uss), .val (tC u ct.most ct.cl), .val (resD (some w)), x7] st = some (.non, st) := call_of (ds := [tU uss, tC u ct.most ct.cl, .str (W w)]) (s1 := st) (by simp [resD]) e2
    unfold lwC
    generalize lwP 6 = P at c2
    generalize callM m__law_is_of (aCons (rd 3) (aCons (rd 6) aNil)) = C at c1
    simp only [resD] at c1 c2 ⊢
    simp [nonD, c1, c2]
theorem lw_turn (hq1 : ∀ w, q = some w → Un kd ct w ∧ ∀ v, Un kd ct v → ¬ slt v w) (hq2 : q = none → ∀ v, ¬ Un kd ct v) (hql : ∀ w, q = some w → w.length ≤ 18000)
    {v : List Nat} (hv : Lets kd.k v) (hi : isOf kd v = true) (hl : v.length ≤ 1000) (x0 x2 : Sl) (st : S) :
    lwB [x0, .val .deck, x2, .val (tK kd), .val (tU uss), .val (tC u ct.most ct.cl), .val (resD q), .val (.str (W v))] st = some (.nx [x0, .val .deck, x2, .val (tK kd), .val (tU uss), .val (tC u ct.most ct.cl), .val (resD q), .val (.str (W v))], st) := by
  obtain ⟨ds, e2⟩ := pieces_ok f hv (by omega) st
  have c2 : lwP 7 [x0, .val .deck, x2, .val (tK kd), .val (tU uss), .val (tC u ct.most ct.cl), .val (resD q), .val (.str (W v))] st = some (if Pm.pc ct v.length v = true then .non else .lst ds, st) := call_of (ds := [tU uss, tC u ct.most ct.cl, .str (W v)]) (s1 := st) (by simp) e2
  unfold lwB
  generalize lwP 7 = P at c2
  by_cases hp : Pm.pc ct v.length v = true
  · rw [if_pos hp] at c2
    have hb : Un kd ct v := ⟨hv, hi, hp⟩
    cases q with
    | none => exact absurd hb (hq2 rfl v)
    | some w =>
      have hns := (hq1 w rfl).2 v hb
      have hwl := hql w rfl
      have hlt := lt_pair ((v.length : Nat) : Int) ((w.length : Nat) : Int) (W v) (W w)
      have hd : decide (((v.length : Nat) : Int) < ((w.length : Nat) : Int) ∨ (((v.length : Nat) : Int) = ((w.length : Nat) : Int) ∧ (W v).cps.toList < (W w).cps.toList)) = false := by
        refine decide_eq_false fun z => hns ?_
        rw [W_list, W_list] at z
        rcases z with z | ⟨z1, z2⟩
        · exact .inl (by omega)
        · exact .inr ⟨by omega, z2⟩
      rw [hd] at hlt
      simp only [resD] at c2 ⊢
      simp [c2, nonD, grd_of (show v.length ≤ 1000000 by omega), grd_of (show w.length ≤ 1000000 by omega), grd_of (show 2 ≤ 1000000 by decide), hlt]
  · rw [if_neg hp] at c2
    simp [c2, nonD]
theorem lw_loop (hq1 : ∀ w, q = some w → Un kd ct w ∧ ∀ v, Un kd ct v → ¬ slt v w) (hq2 : q = none → ∀ v, ¬ Un kd ct v) (hql : ∀ w, q = some w → w.length ≤ 18000) (x0 x2 : Sl) (st : S) : ∀ (vs : List (List Nat)) (x7 : Sl), (∀ v ∈ vs, Lets kd.k v ∧ isOf kd v = true ∧ v.length ≤ 1000) →
    ∃ y7, forL (nameT 7) lwB (tW vs) [x0, .val .deck, x2, .val (tK kd), .val (tU uss), .val (tC u ct.most ct.cl), .val (resD q), x7] st = some (.nx [x0, .val .deck, x2, .val (tK kd), .val (tU uss), .val (tC u ct.most ct.cl), .val (resD q), y7], st)
  | [], x7, _ => ⟨x7, rfl⟩
  | v :: vs, x7, h => by
    obtain ⟨h1, h2, h3⟩ := h v List.mem_cons_self
    obtain ⟨y7, ih⟩ := lw_loop hq1 hq2 hql x0 x2 st vs (.val (.str (W v))) fun w hw => h w (List.mem_cons_of_mem _ hw)
    have e1 := lw_turn ok f hq1 hq2 hql h1 h2 h3 x0 x2 st
    refine ⟨y7, ?_⟩
    generalize lwB = B at *
    show forL (nameT 7) B (D.str (W v) :: tW vs) _ st = _
    rw [v_forL]
    show (B [x0, .val .deck, x2, .val (tK kd), .val (tU uss), .val (tC u ct.most ct.cl), .val (resD q), .val (.str (W v))] st).bind _ = _
    rw [e1]
    exact ih
end
noncomputable def lwI : ME := (opM addM (callM m__law_all (aCons (rd 3) (aCons (opM subD (frz (lstM (aCons (cst (.int 0)) (aCons (cst (.int 14)) (aCons (cst (.int 8)) (aCons (cst (.int 6)) (aCons (cst (.int 4)) aNil))))))) (opM subD (rd 3) (cst (.int 0)))) aNil))) (callM m__law_far (aCons (rd 1) (aCons (rd 3) (aCons (cst (.int 20)) aNil)))))
theorem lwI_yes {kd : Kd} (ok : kd.Ok) (e : Sg) (h1 : e[1]? = some (.val .deck)) (h3 : e[3]? = some (.val (tK kd))) : Yes 820 (lwI e) fun d => ∃ us, d = .lst (tW us) ∧ ∀ u ∈ us, Lets kd.k u ∧ isOf kd u = true ∧ u.length ≤ 1000 := by
  intro st h0 hn
  obtain ⟨_, s1, e1, ⟨ws, rfl, hwl, hws⟩, l1, l2⟩ := far_yes ok st h0 (by omega)
  obtain ⟨N, hN, hN1, hN2⟩ : ∃ N : Nat, L2.atI [D.int 0, .int 14, .int 8, .int 6, .int 4] (kd.k : Nat) = some (.int ((N : Nat) : Int)) ∧ (∀ m, m ≤ N → kd.k ^ m ≤ 20000) ∧ N ≤ 20 := by
    have k0 := ok.k0
    have k4 := ok.k4
    generalize kd.k = k at k0 k4
    have pw : ∀ (b n B : Nat), 1 ≤ b → b ^ n ≤ B → ∀ m, m ≤ n → b ^ m ≤ B := fun b n B hb h m hm => Nat.le_trans (Nat.pow_le_pow_right hb hm) h
    have : k = 1 ∨ k = 2 ∨ k = 3 ∨ k = 4 := by omega
    rcases this with rfl | rfl | rfl | rfl
    · exact ⟨14, rfl, pw 1 14 20000 (by omega) (by decide), by omega⟩
    · exact ⟨8, rfl, pw 2 8 20000 (by omega) (by decide), by omega⟩
    · exact ⟨6, rfl, pw 3 6 20000 (by omega) (by decide), by omega⟩
    · exact ⟨4, rfl, pw 4 4 20000 (by omega) (by decide), by omega⟩
  have ea := all_ok ok hN1 hN2 st
  refine ⟨.lst (tW ((List.range (N + 1)).flatMap (allK kd) ++ ws)), s1, ?_, ⟨_, rfl, fun u hu => ?_⟩, l1, l2⟩
  · have e2 : (aCons (rd 3) (aCons (opM subD (frz (lstM (aCons (cst (.int 0)) (aCons (cst (.int 14)) (aCons (cst (.int 8)) (aCons (cst (.int 6)) (aCons (cst (.int 4)) aNil))))))) (opM subD (rd 3) (cst (.int 0)))) aNil)) e st = some ([tK kd, .int ((N : Nat) : Int)], st) := by
      simp [h3, grd_of (show 5 ≤ 1000000 by decide), hN]
    have e3 := call_of (m := m__law_all) e2 ea
    have e4 : (aCons (rd 1) (aCons (rd 3) (aCons (cst (.int 20)) aNil))) e st = some ([.deck, tK kd, .int 20], st) := by simp [h1, h3]
    have e5 := call_of (m := m__law_far) e4 e1
    have hlen : (tW ((List.range (N + 1)).flatMap (allK kd))).length + (tW ws).length ≤ 1000000 := by
      rw [List.length_map, List.length_map, List.length_flatMap]
      have h1 := all_few (kd := kd) (List.range (N + 1)) 20000 fun n hn => hN1 n (by have := List.mem_range.mp hn; omega)
      have h2 : (List.range (N + 1)).length * 20000 ≤ 21 * 20000 := Nat.mul_le_mul_right _ (by simp; omega)
      have h3 : 21 * 20000 + 20 ≤ 1000000 := by decide
      exact Nat.le_trans (Nat.add_le_add (Nat.le_trans h1 h2) hwl) h3
    unfold lwI
    rw [v_opM, e3, Option.bind_some, e5, Option.bind_some, dr_lst, dr_lst, v_addL, grd_of hlen]
    simp
  · rcases List.mem_append.mp hu with z | z
    · obtain ⟨n, hn, z⟩ := List.mem_flatMap.mp z
      obtain ⟨z1, z2⟩ := List.mem_filter.mp z
      obtain ⟨i1, i2⟩ := allW_in kd.k n u z1
      have := List.mem_range.mp hn
      exact ⟨i1, z2, by omega⟩
    · exact hws u z
noncomputable def lwU : ME := (callM m__law_units (aCons (rd 1) (aCons (opM subD (rd 3) (cst (.int 0))) aNil)))
noncomputable def lwK : ME := (callM m__law_cut (aCons (rd 1) (aCons (opM subD (rd 3) (cst (.int 0))) (aCons (rd 4) (aCons (callM m__law_one (aCons (rd 1) (aCons (frz (lstM (aCons (cst (.int 4)) (aCons (cst (.int 9)) (aCons (cst (.int 20)) aNil))))) aNil))) aNil)))))
noncomputable def lwT : MS := (seqM (asgM (nameT 3) (callM m__law_some_kind (aCons (rd 1) (aCons (cst (.int 4)) aNil))))
 (seqM (asgM (nameT 4) lwU)
 (seqM (asgM (nameT 5) lwK)
 (seqM (asgM (nameT 6) (callM m_stuck (aCons (rd 3) (aCons (rd 4) (aCons (rd 5) aNil)))))
 (seqM lwC
 (forM (seqI lwI) (nameT 7) lwB))))))
structure LwI (env : Sg) : Prop where
  ex : ∃ x0 x2 x3 x4 x5 x6 x7, env = [x0, .val .deck, x2, x3, x4, x5, x6, x7]
theorem lwT_yes (env : Sg) (hI : LwI env) (d : D) : ∃ e, nameT 2 d env = some e ∧ Yes 1000 (lwT e) fun fl => ∃ e', fl = .nx e' ∧ LwI e' := by
  obtain ⟨x0, x2, x3, x4, x5, x6, x7, rfl⟩ := hI.ex
  refine ⟨_, rfl, ?_⟩
  rw [show ([x0, Sl.val .deck, x2, x3, x4, x5, x6, x7].set 2 (.val d)) = [x0, .val .deck, .val d, x3, x4, x5, x6, x7] from rfl]
  intro st h0 hn
  obtain ⟨_, s1, e1, ⟨kd, rfl, ok⟩, l1, l2⟩ := some_yes st h0 (by omega)
  have c1 : callM m__law_some_kind (aCons (rd 1) (aCons (cst (.int 4)) aNil)) [x0, .val .deck, .val d, x3, x4, x5, x6, x7] st = some (tK kd, s1) := call_of (ds := [.deck, .int 4]) (s1 := st) (by simp) e1
  obtain ⟨_, s2, e2, ⟨uss, rfl, hu0, hu2, hus⟩, l3, l4⟩ := units_yes (k := kd.k) ok.k4 s1 (by omega) (by omega)
  have c2 : lwU [x0, .val .deck, .val d, .val (tK kd), x4, x5, x6, x7] s1 = some (tU uss, s2) := call_of (ds := [.deck, nD kd.k]) (s1 := s1) (by simp) e2
  obtain ⟨dm, s3, e3, hdm, l5, l6⟩ := one_lst (ds := [.int 4, .int 9, .int 20]) (by simp) (by simp) s2 (by omega) (by omega)
  obtain ⟨m, rfl, hm⟩ : ∃ m : Nat, dm = nD m ∧ m ≤ 20 := by
    simp only [List.mem_cons, List.mem_nil_iff, or_false] at hdm
    rcases hdm with rfl | rfl | rfl
    · exact ⟨4, rfl, by decide⟩
    · exact ⟨9, rfl, by decide⟩
    · exact ⟨20, rfl, by decide⟩
  obtain ⟨_, s4, e4, ⟨u, ct, rfl, f⟩, l7, l8⟩ := cut_yes ok.k4 hm hu0 hu2 hus s3 (by omega) (by omega)
  have c3 : callM m__law_one (aCons (rd 1) (aCons (frz (lstM (aCons (cst (.int 4)) (aCons (cst (.int 9)) (aCons (cst (.int 20)) aNil))))) aNil)) [x0, .val .deck, .val d, .val (tK kd), .val (tU uss), x5, x6, x7] s2 = some (nD m, s3) := call_of (ds := [.deck, .lst [.int 4, .int 9, .int 20]]) (s1 := s2) (by simp [grd_of (show 3 ≤ 1000000 by decide)]) e3
  have c4 : lwK [x0, .val .deck, .val d, .val (tK kd), .val (tU uss), x5, x6, x7] s2 = some (tC u ct.most ct.cl, s4) := by
    refine call_of (ds := [.deck, nD kd.k, tU uss, nD m]) (s1 := s3) ?_ e4
    generalize callM m__law_one (aCons (rd 1) (aCons (frz (lstM (aCons (cst (.int 4)) (aCons (cst (.int 9)) (aCons (cst (.int 20)) aNil))))) aNil)) = C at c3
    simp [c3]
  obtain ⟨q, s5, e5, hs5, hq1, hq2, hql⟩ := stuck_ok ok f s4
  have c5 : callM m_stuck (aCons (rd 3) (aCons (rd 4) (aCons (rd 5) aNil))) [x0, .val .deck, .val d, .val (tK kd), .val (tU uss), .val (tC u ct.most ct.cl), x6, x7] s4 = some (resD q, s5) := call_of (ds := [tK kd, tU uss, tC u ct.most ct.cl]) (s1 := s4) (by simp) e5
  have hq1' : ∀ w, q = some w → Un kd ct w ∧ ∀ v, Un kd ct v → ¬ slt v w := fun w hw => ⟨(goal_iff f.ok w).mp (hq1 w hw).1, fun v hv => (hq1 w hw).2 v ((goal_iff f.ok v).mpr hv)⟩
  have hq2' : q = none → ∀ v, ¬ Un kd ct v := fun hn v hv => hq2 hn v ((goal_iff f.ok v).mpr hv)
  have c6 := lwC_ok ok f (fun w hw => (hq1' w hw).1) hql x0 (.val d) x7 s5
  obtain ⟨_, s6, e6, ⟨us, rfl, hus'⟩, l9, l10⟩ := lwI_yes ok [x0, .val .deck, .val d, .val (tK kd), .val (tU uss), .val (tC u ct.most ct.cl), .val (resD q), x7] rfl rfl s5 (by omega) (by omega)
  obtain ⟨y7, e7⟩ := lw_loop ok f hq1' hq2' hql x0 (.val d) s6 us x7 hus'
  refine ⟨_, s6, ?_, ⟨_, rfl, ⟨x0, .val d, .val (tK kd), .val (tU uss), .val (tC u ct.most ct.cl), .val (resD q), y7, rfl⟩⟩, by omega, by omega⟩
  unfold lwT
  rw [seq_nx (e := [x0, .val .deck, .val d, .val (tK kd), x4, x5, x6, x7]) (asg_nx c1)]
  rw [seq_nx (e := [x0, .val .deck, .val d, .val (tK kd), .val (tU uss), x5, x6, x7]) (asg_nx c2)]
  rw [seq_nx (e := [x0, .val .deck, .val d, .val (tK kd), .val (tU uss), .val (tC u ct.most ct.cl), x6, x7]) (asg_nx c4)]
  rw [seq_nx (e := [x0, .val .deck, .val d, .val (tK kd), .val (tU uss), .val (tC u ct.most ct.cl), .val (resD q), x7]) (asg_nx c5)]
  rw [seq_nx c6, v_forM, v_seqI, e6, Option.bind_some, v_seqL, Option.map_some, Option.bind_some]
  exact e7
theorem law_holds : ∀ ns : List Int, ns.length ≤ 63 → ∃ s1, b_law (env0 8) ⟨ns.map absI, 0, []⟩ = some (.rt (.bl true), s1) := by
  intro ns _
  have hF := forL_yes (t := nameT 2) (b := lwT) (k := 1000) (I := LwI) (rngD 0 10) (env0 8) ⟨.un, .un, .un, .un, .un, .un, .un, rfl⟩ fun d _ e hI => lwT_yes e hI d
  obtain ⟨fl, s1, e1, ⟨ee, rfl, _⟩, _, _⟩ := hF ⟨ns.map absI, 0, []⟩ (Int.le_refl _) (by rw [rngD_len]; show (0 : Int) + _ ≤ nMax; unfold nMax; omega)
  refine ⟨s1, ?_⟩
  have hb : b_law = seqM (forM (r1M (aCons (cst (.int 10)) aNil)) (nameT 2) lwT) (retM (cst (.bl true))) := rfl
  have hr : rng1 [.int 10] = some (rngD 0 10) := rng_of (k := 10) (by decide)
  rw [hb]
  generalize lwT = B at e1
  rw [v_seqM, v_forM, v_r1M, v_aCons]
  simp only [v_cst, v_aNil, Option.bind_some, Option.map_some, hr]
  rw [e1]
  rfl
end Lw

open PySem PySem.W PyProof.Rows
set_option maxHeartbeats 0 in
theorem PySem.Challenge.cw_unitlimits_k40_words_that_cannot_be_part_holds : PySem.Challenge.rw_unitlimits_k40_words_that_cannot_be_part.Holds := by
  w_on; o_law; k_head; (case hw => w_witness2)
  k_fill
  refine MD.walkG (l := PySem.Challenge.rw_unitlimits_k40_words_that_cannot_be_part) (n := 63) (k := 5) (x := "_law_script") rfl (by decide) rfl ⟨rfl, by decide, by decide⟩ (fun w h Y => PySem.W.kIn_of Y) ?F
  case F =>
    intro w mg fa h KX G hmg
    refine' Lw.all_mk Lw.law_holds KX G hmg ?ax0 ?lx0 ?ccx0 ?kx0 ?ax1 ?lx1 ?ccx1 ?kx1 ?ax2 ?lx2 ?ccx2 ?kx2 ?ax3 ?lx3 ?ccx3 ?kx3 ?ax4 ?lx4 ?ccx4 ?kx4 ?ax5 ?lx5 ?ccx5 ?kx5 ?ax6 ?lx6 ?ccx6 ?kx6 ?ax7 ?lx7 ?ccx7 ?kx7 ?ax8 ?lx8 ?ccx8 ?kx8 ?ax9 ?lx9 ?ccx9 ?kx9 ?ax10 ?lx10 ?ccx10 ?kx10 ?ax11 ?lx11 ?ccx11 ?kx11 ?ax12 ?lx12 ?ccx12 ?kx12 ?ax13 ?lx13 ?ccx13 ?kx13 ?ax14 ?lx14 ?ccx14 ?kx14 ?ax15 ?lx15 ?ccx15 ?kx15 ?ax16 ?lx16 ?ccx16 ?kx16 ?ax17 ?lx17 ?ccx17 ?kx17 ?ax18 ?lx18 ?ccx18 ?kx18 ?ax19 ?lx19 ?ccx19 ?kx19 ?z_n_len ?z_n_range ?z_n_tuple ?z_n_int ?z_c_LETTERS ?z_n_max ?z_c_FRESH ?y_c_FRESH ?z_n_sum ?z_n_abs
    (case ax0 => k_is); (case lx0 => k_is); (case ccx0 => k_is); (case kx0 => k_is); (case ax1 => k_is); (case lx1 => k_is); (case ccx1 => k_is); (case kx1 => k_is); (case ax2 => k_is); (case lx2 => k_is); (case ccx2 => k_is); (case kx2 => k_is); (case ax3 => k_is); (case lx3 => k_is); (case ccx3 => k_is); (case kx3 => k_is); (case ax4 => k_is); (case lx4 => k_is); (case ccx4 => k_is); (case kx4 => k_is); (case ax5 => k_is); (case lx5 => k_is); (case ccx5 => k_is); (case kx5 => k_is); (case ax6 => k_is); (case lx6 => k_is); (case ccx6 => k_is); (case kx6 => k_is); (case ax7 => k_is); (case lx7 => k_is); (case ccx7 => k_is); (case kx7 => k_is); (case ax8 => k_is); (case lx8 => k_is); (case ccx8 => k_is); (case kx8 => k_is); (case ax9 => k_is); (case lx9 => k_is); (case ccx9 => k_is); (case kx9 => k_is); (case ax10 => k_is); (case lx10 => k_is); (case ccx10 => k_is); (case kx10 => k_is); (case ax11 => k_is); (case lx11 => k_is); (case ccx11 => k_is); (case kx11 => k_is); (case ax12 => k_is); (case lx12 => k_is); (case ccx12 => k_is); (case kx12 => k_is); (case ax13 => k_is); (case lx13 => k_is); (case ccx13 => k_is); (case kx13 => k_is); (case ax14 => k_is); (case lx14 => k_is); (case ccx14 => k_is); (case kx14 => k_is); (case ax15 => k_is); (case lx15 => k_is); (case ccx15 => k_is); (case kx15 => k_is); (case ax16 => k_is); (case lx16 => k_is); (case ccx16 => k_is); (case kx16 => k_is); (case ax17 => k_is); (case lx17 => k_is); (case ccx17 => k_is); (case kx17 => k_is); (case ax18 => k_is); (case lx18 => k_is); (case ccx18 => k_is); (case kx18 => k_is); (case ax19 => k_is); (case lx19 => k_is); (case ccx19 => k_is); (case kx19 => k_is); (case z_n_len => k_is); (case z_n_range => k_is); (case z_n_tuple => k_is); (case z_n_int => k_is); (case z_c_LETTERS => k_is); (case z_n_max => k_is); (case z_c_FRESH => k_is); (case y_c_FRESH => k_is); (case z_n_sum => k_is); (case z_n_abs => k_is)

