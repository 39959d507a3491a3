import PyProof.Rows.All
import Wide.All
import OpenK.AllK
import Wide.FinOn
import HandS.ForMost
import HandS.Replace
import HandS.TupAny
import HandS.RaiseMore
import PyProof.TupleOfStr
import KE.GoesMore
import KE.KDictKeyed
import HandS.ForDict
import HandS.More
import HandS.DictComp
import HandS.TupMul
import HandS.IsInst
import HandS.Style
import KE.LtData
import HandS.Conv
import PyProof.ReprRoads
import PyProof.StrOps2
import PyProof.ListStr
import HandS.Text
import HandS.Codes
import KE.KRevSl
import PyProof.ReprBulk
import KE.SortData
import KE.DataMinMax
import HandS.Zip
import HandS.SetKeys
import PySem.Challenge.RW_unitlimits_k23_forms_unlike
set_option Elab.async false
set_option linter.all false
set_option maxRecDepth 100000
set_option maxHeartbeats 1000000
namespace MD
open PySem L2

/-! plain data, slots, the deck's state, the store -/
inductive D where
  | non | bl (b : Bool) | int (i : Int) | str (s : Str) | lst (xs : List D) | tup (xs : List D) | deck
  | dic (ks : List Key) (xs : List D) | ref (n : Nat)
/-! keys without texts, nested -/
mutual
def nkOf : D → Option NestedKey
  | .non => some .none
  | .bl b => some (.num (if b = true then 1 else 0))
  | .int i => some (.num i)
  | .tup ds => (nksOf ds).map .tup
  | .str _ => none
  | .lst _ => none
  | .deck => none
  | .dic _ _ => none
  | .ref _ => none
def nksOf : List D → Option (List NestedKey)
  | [] => some []
  | d :: ds => (nkOf d).bind fun k => (nksOf ds).map (k :: ·)
end
def nent (w : World) (z : NestedKey × Addr × Value) : DictEntry := ⟨z.1.hash w, .ref z.2.1, z.2.2⟩
/-- at a stands a dict with these keys, tuples at these addresses, and values -/
def NkAt (a : Addr) (zs : List (NestedKey × Addr × Value)) (h : Heap) : Prop :=
  (a == sysModules) = false ∧ zs.length ≤ sizeLine ∧ ∃ o es ep, h.get? a = some o ∧ o.ExactDict ∧ o.data = .dict es ep ∧ ∀ w : World, es.toList = zs.map (nent w)
/-- things that change and are known to many: by their number -/
inductive Ob where
  | lst (xs : List D) | dic (lk : Bool) (ks : List Key) (xs : List D) | ins (c : Str) (fs : List Str) (xs : List D) | nkd (ks : List D) (xs : List D)
structure S where
  cells : List Int
  n : Int
  ob : List Ob
/-- what a name alone holds and may change: a list, a dict with these keys -/
inductive Ow where
  | lst | dic (ks : List Key)
def Ow.At (H : Hp) (p : Addr) : Ow → List V → Prop
  | .lst, vs => H p = some (.lst vs)
  | .dic ks, vs => H p = some (.dK (ks.zip vs)) ∧ ks.length = vs.length
theorem Ow.At.some {H : Hp} {p : Addr} : ∀ {w : Ow} {vs : List V}, w.At H p vs → ∃ o, H p = some o
  | .lst, _, h => ⟨_, h⟩
  | .dic _, _, h => ⟨_, h.1⟩
/-- an own thing is not locked -/
theorem Ow.At.keep {H H' : Hp} {p : Addr} (e : ∀ o, H p = Option.some o → H' p = Option.some o) : ∀ {w : Ow} {vs : List V}, w.At H p vs → w.At H' p vs
  | .lst, _, h => e _ h
  | .dic _, _, h => ⟨e _ h.1, h.2⟩
abbrev Own := Ow × List D
inductive Sl where
  | un | val (d : D) | own (xs : Own)
abbrev Sg := List Sl
abbrev Dk := Addr × Addr
abbrev Fg := PySem.W.Frag
/-- the frozen things, and where the store's things stand -/
structure Fz where
  hp : Hp
  mu : List Addr
instance : CoeFun Fz fun _ => Hp := ⟨Fz.hp⟩
def Fz.up (F : Fz) (p : Addr) (o : HO) : Fz := ⟨upd F.hp p o, F.mu⟩
def Fz.out (F : Fz) (p : Addr) : Prop := F.hp p = none ∧ p ∉ F.mu
theorem Fz.up_same {F : Fz} {p : Addr} {o : HO} : F.up p o p = some o := upd_same
theorem Fz.up_ne {F : Fz} {p q : Addr} {o : HO} (h : q ≠ p) : F.up p o q = F q := upd_ne h

mutual
inductive Rp (K : Fg) (dk : Dk) (F : Fz) : V → D → Prop
  | non : Rp K dk F .non .non
  | bl (b : Bool) : Rp K dk F (.bl b) (.bl b)
  | int (i : Int) : Rp K dk F (.int i) (.int i)
  | str (x : Str) : Rp K dk F (.str x) (.str x)
  | lst {a : Addr} {vs : List V} {ds : List D} : F a = some (.lst vs) → Rps K dk F vs ds → Rp K dk F (.ref a) (.lst ds)
  | tup {a : Addr} {vs : List V} {ds : List D} : SqT K F.hp a vs → Rps K dk F vs ds → Rp K dk F (.ref a) (.tup ds)
  | deck : Rp K dk F (.ref dk.1) .deck
  | dic {a : Addr} {ks : List Key} {vs : List V} {ds : List D} : F a = some (.dK (ks.zip vs)) → ks.length = vs.length → Rps K dk F vs ds → Rp K dk F (.ref a) (.dic ks ds)
  | ref {a : Addr} {n : Nat} : F.mu[n]? = some a → Rp K dk F (.ref a) (.ref n)
inductive Rps (K : Fg) (dk : Dk) (F : Fz) : List V → List D → Prop
  | nil : Rps K dk F [] []
  | cons {v : V} {vs : List V} {d : D} {ds : List D} : Rp K dk F v d → Rps K dk F vs ds → Rps K dk F (v :: vs) (d :: ds)
end

/-- a heap that keeps another's things -/
def Lh (F F' : Hp) : Prop := ∀ a o, F a = some o → F' a = some o
theorem Lh.refl (F : Hp) : Lh F F := fun _ _ h => h
theorem Lh.trans {A B C : Hp} (x : Lh A B) (y : Lh B C) : Lh A C := fun a o h => y a o (x a o h)
theorem Lh.rd {F F' : Hp} {a : Addr} {u : HO} (e : Lh F F') (h : Rd F a u) : Rd F' a u := by
  rcases h with h | ⟨o, h⟩
  · exact .inl (e _ _ h)
  · exact .inr ⟨o, e _ _ h⟩
theorem Lh.sqT {K : Fg} {F F' : Hp} {a : Addr} {xs : List V} (e : Lh F F') (h : SqT K F a xs) : SqT K F' a xs := by
  rcases h with h | h
  · exact .inl (e.rd h)
  · exact .inr h
theorem Lh.free {F F' : Hp} {a : Addr} (e : Lh F F') (h : F' a = none) : F a = none := by
  cases q : F a with
  | none => rfl
  | some o => rw [e _ _ q] at h; cases h
theorem Lh.new {F : Hp} {p : Addr} {o : HO} (h : F p = none) : Lh F (upd F p o) := fun a u e => by
  rw [upd_ne (ne_of_none e h)]; exact e
/-- more is frozen, more stands in the store -/
structure Le (F F' : Fz) : Prop where
  h : Lh F.hp F'.hp
  m : ∃ l, F'.mu = F.mu ++ l
theorem Le.refl (F : Fz) : Le F F := ⟨Lh.refl _, [], by simp⟩
theorem Le.trans {A B C : Fz} (x : Le A B) (y : Le B C) : Le A C := ⟨x.h.trans y.h, by
  obtain ⟨l, e⟩ := x.m
  obtain ⟨l', e'⟩ := y.m
  exact ⟨l ++ l', by rw [e', e, List.append_assoc]⟩⟩
theorem Le.sqT {K : Fg} {F F' : Fz} {a : Addr} {xs : List V} (e : Le F F') (h : SqT K F.hp a xs) : SqT K F'.hp a xs := e.h.sqT h
theorem Le.new {F : Fz} {p : Addr} {o : HO} (h : F p = none) : Le F (F.up p o) := ⟨Lh.new h, [], by simp [Fz.up]⟩
theorem Le.at {F F' : Fz} (e : Le F F') {n : Nat} {a : Addr} (h : F.mu[n]? = some a) : F'.mu[n]? = some a := by
  obtain ⟨l, e⟩ := e.m
  rw [e, List.getElem?_append_left (by
    by_cases hl : n < F.mu.length
    · exact hl
    · rw [List.getElem?_eq_none (by omega)] at h; cases h)]
  exact h
theorem Le.mem {F F' : Fz} (e : Le F F') {a : Addr} (h : a ∈ F.mu) : a ∈ F'.mu := by
  obtain ⟨l, e⟩ := e.m
  rw [e]; exact List.mem_append_left _ h
/-- what is frozen stands in the heap; a dict may be locked -/
def Sb (F : Fz) (H : Hp) : Prop := ∀ a o, F a = some o → H a = some o ∨ ∃ od kvs, o = .dK kvs ∧ H a = some (.frz od o)
section
variable {F F' : Fz} {H H' : Hp} {K : Fg} {a : Addr}
theorem Sb.lst {vs : List V} (s : Sb F H) (h : F a = some (.lst vs)) : H a = some (.lst vs) := by
  rcases s a _ h with z | ⟨od, kvs, z, _⟩
  · exact z
  · cases z
theorem Sb.dK {kvs : List (Key × V)} (s : Sb F H) (h : F a = some (.dK kvs)) : Rd H a (.dK kvs) := by
  rcases s a _ h with z | ⟨od, _, _, z⟩
  · exact .inl z
  · exact .inr ⟨od, z⟩
theorem Sb.sqT {xs : List V} (s : Sb F H) (h : SqT K F.hp a xs) : SqT K H a xs := by
  rcases h with h | h
  · rcases h with h | ⟨o, h⟩
    · rcases s a _ h with z | ⟨_, _, z, _⟩
      · exact .inl (.inl z)
      · cases z
    · rcases s a _ h with z | ⟨_, _, z, _⟩
      · exact .inl (.inr ⟨o, z⟩)
      · cases z
  · exact .inr h
theorem Sb.free (s : Sb F H) (h : H a = none) : F a = none := by
  cases q : F a with
  | none => rfl
  | some o =>
    rcases s a _ q with z | ⟨_, _, _, z⟩ <;> rw [z] at h <;> cases h
theorem Sb.some (s : Sb F H) {o : HO} (h : F a = some o) : H a ≠ none := fun z => by rw [s.free z] at h; cases h
theorem Le.sb (e : Le F F') (s : Sb F' H) : Sb F H := fun a o h => s a o (e.h a o h)
theorem Sb.lh (s : Sb F H) (e : Lh H H') : Sb F H' := fun a o h => by
  rcases s a o h with z | ⟨od, kvs, z1, z⟩
  · exact .inl (e _ _ z)
  · exact .inr ⟨od, kvs, z1, e _ _ z⟩
end

mutual
theorem Rp.mono {K : Fg} {dk : Dk} {F F' : Fz} (e : Le F F') : ∀ {v : V} {d : D}, Rp K dk F v d → Rp K dk F' v d
  | _, _, .non => .non
  | _, _, .bl b => .bl b
  | _, _, .int i => .int i
  | _, _, .str x => .str x
  | _, _, .lst h r => .lst (e.h _ _ h) (Rps.mono e r)
  | _, _, .tup h r => .tup (e.sqT h) (Rps.mono e r)
  | _, _, .deck => .deck
  | _, _, .dic h l r => .dic (e.h _ _ h) l (Rps.mono e r)
  | _, _, .ref h => .ref (e.at h)
theorem Rps.mono {K : Fg} {dk : Dk} {F F' : Fz} (e : Le F F') : ∀ {vs : List V} {ds : List D}, Rps K dk F vs ds → Rps K dk F' vs ds
  | _, _, .nil => .nil
  | _, _, .cons a b => .cons (Rp.mono e a) (Rps.mono e b)
end

section
variable {K : Fg} {dk : Dk} {F F' : Fz} {H H' : Hp}
theorem Rps.length : ∀ {vs : List V} {ds : List D}, Rps K dk F vs ds → vs.length = ds.length
  | _, _, .nil => rfl
  | _, _, .cons _ r => by simp [Rps.length r]
theorem Rps.get : ∀ {vs : List V} {ds : List D} {i : Nat} {d : D}, Rps K dk F vs ds → ds[i]? = some d → ∃ v, vs[i]? = some v ∧ Rp K dk F v d
  | _, _, _, _, .nil, e => by simp at e
  | _, _, 0, _, .cons a _, e => by simp at e; subst e; exact ⟨_, rfl, a⟩
  | _, _, i + 1, _, .cons _ r, e => by
    obtain ⟨v, h1, h2⟩ := Rps.get (i := i) r (by simpa using e)
    exact ⟨v, by simpa using h1, h2⟩
theorem Rps.getV : ∀ {vs : List V} {ds : List D} {i : Nat} {v : V}, Rps K dk F vs ds → vs[i]? = some v → ∃ d, ds[i]? = some d ∧ Rp K dk F v d
  | _, _, _, _, .nil, e => by simp at e
  | _, _, 0, _, .cons a _, e => by simp at e; subst e; exact ⟨_, rfl, a⟩
  | _, _, i + 1, _, .cons _ r, e => by
    obtain ⟨v, h1, h2⟩ := Rps.getV (i := i) r (by simpa using e)
    exact ⟨v, by simpa using h1, h2⟩
theorem Rps.append : ∀ {vs us : List V} {ds es : List D}, Rps K dk F vs ds → Rps K dk F us es → Rps K dk F (vs ++ us) (ds ++ es)
  | _, _, _, _, .nil, s => s
  | _, _, _, _, .cons a r, s => .cons a (Rps.append r s)
theorem Rps.take : ∀ {vs : List V} {ds : List D} (n : Nat), Rps K dk F vs ds → Rps K dk F (vs.take n) (ds.take n)
  | _, _, 0, _ => .nil
  | _, _, _ + 1, .nil => .nil
  | _, _, n + 1, .cons a r => .cons a (Rps.take n r)
theorem Rps.drop : ∀ {vs : List V} {ds : List D} (n : Nat), Rps K dk F vs ds → Rps K dk F (vs.drop n) (ds.drop n)
  | _, _, 0, r => r
  | _, _, _ + 1, .nil => .nil
  | _, _, n + 1, .cons _ r => Rps.drop n r
theorem Rps.set {v : V} {d : D} (r : Rp K dk F v d) : ∀ {vs : List V} {ds : List D} (n : Nat), Rps K dk F vs ds → Rps K dk F (vs.set n v) (ds.set n d)
  | _, _, _, .nil => .nil
  | _, _, 0, .cons _ t => .cons r t
  | _, _, n + 1, .cons a t => .cons a (Rps.set r n t)
theorem Rps.one {v : V} {d : D} (r : Rp K dk F v d) : Rps K dk F [v] [d] := .cons r .nil

/-! the store's things -/
def clsOf (K : Fg) (c : Str) : Option Addr := match PySem.W.nsIn K mainGlobals c with
  | some (some (.ref C)) => some C
  | _ => none
inductive ObAt (K : Fg) (dk : Dk) (F : Fz) (H : Hp) (a : Addr) : Ob → Prop
  | lst {vs : List V} {ds : List D} : H a = some (.lst vs) → Rps K dk F vs ds → ObAt K dk F H a (.lst ds)
  | dic {ks : List Key} {vs : List V} {ds : List D} : H a = some (.dK (ks.zip vs)) → ks.length = vs.length → Rps K dk F vs ds → ObAt K dk F H a (.dic false ks ds)
  | lck {od : Obj} {ks : List Key} {vs : List V} {ds : List D} : H a = some (.frz od (.dK (ks.zip vs))) → ks.length = vs.length → Rps K dk F vs ds → ObAt K dk F H a (.dic true ks ds)
  | ins {c : Str} {C dx : Addr} {fs : List Str} {vs : List V} {ds : List D} : clsOf K c = some C → H a = some (.ins C dx (fs.zip vs)) → fs.length = vs.length → Rps K dk F vs ds → ObAt K dk F H a (.ins c fs ds)
  | nkd {zs : List (NestedKey × Addr × Value)} {vs : List V} {ks ds : List D} : H a = some (.ext (NkAt a zs)) → Rps K dk F (zs.map fun z => V.ref z.2.1) ks → ks.map nkOf = zs.map (fun z => some z.1) →
      Vals vs (zs.map fun z => z.2.2) → Rps K dk F vs ds → (zs.map fun z => z.1).Nodup → (∀ z ∈ zs, z.1.depth ≤ 8) → ObAt K dk F H a (.nkd ks ds)
theorem ObAt.some {a : Addr} {o : Ob} (h : ObAt K dk F H a o) : H a ≠ none := by
  intro z
  cases h with
  | lst h _ => rw [h] at z; cases z
  | dic h _ _ => rw [h] at z; cases z
  | lck h _ _ => rw [h] at z; cases z
  | ins _ h _ _ => rw [h] at z; cases z
  | nkd h _ _ _ _ _ _ => rw [h] at z; cases z
theorem ObAt.keep {a : Addr} {o : Ob} (h : ObAt K dk F H a o) (e : ∀ o, H a = Option.some o → H' a = Option.some o) (le : Le F F') : ObAt K dk F' H' a o := by
  cases h with
  | lst h r => exact .lst (e _ h) (r.mono le)
  | dic h l r => exact .dic (e _ h) l (r.mono le)
  | lck h l r => exact .lck (e _ h) l (r.mono le)
  | ins c h l r => exact .ins c (e _ h) l (r.mono le)
  | nkd h k q v r n d => exact .nkd (e _ h) (k.mono le) q v (r.mono le) n d

structure Wd (K : Fg) (dk : Dk) (F : Fz) (H : Hp) (st : S) : Prop where
  sub : Sb F H
  d1 : H dk.1 = some (.lst [.ref dk.2, .int st.n])
  d2 : H dk.2 = some (.lst (st.cells.map V.int))
  f1 : F.out dk.1
  f2 : F.out dk.2
  ne : dk.1 ≠ dk.2
  ml : F.mu.length = st.ob.length
  nd : F.mu.Nodup
  ob : ∀ (n : Nat) (a : Addr) (o : Ob), F.mu[n]? = some a → st.ob[n]? = some o → F a = none ∧ ObAt K dk F H a o
theorem Wd.mu {st : S} (w : Wd K dk F H st) {a : Addr} (h : a ∈ F.mu) : ∃ (n : Nat) (o : Ob), F.mu[n]? = some a ∧ st.ob[n]? = some o ∧ F a = none ∧ ObAt K dk F H a o := by
  obtain ⟨n, hn, e⟩ := List.getElem_of_mem h
  have hn' : n < st.ob.length := by rw [← w.ml]; exact hn
  have e1 : F.mu[n]? = some a := by rw [List.getElem?_eq_getElem hn, e]
  have e2 := List.getElem?_eq_getElem hn'
  exact ⟨n, _, e1, e2, w.ob n a _ e1 e2⟩
theorem Wd.nomu {st : S} (w : Wd K dk F H st) {a : Addr} (h : H a = none) : a ∉ F.mu := fun z => by
  obtain ⟨n, o, _, _, _, q⟩ := w.mu z
  exact q.some h
theorem Wd.out {st : S} (w : Wd K dk F H st) {a : Addr} (h : H a = none) : F.out a := ⟨w.sub.free h, w.nomu h⟩

/-- locked -/
def Fro (o : HO) : Prop := ∃ od u, o = .frz od u
structure Ext (dk : Dk) (F : Fz) (H : Hp) (F' : Fz) (H' : Hp) : Prop where
  h : ∀ a o, H a = some o → a ≠ dk.1 → a ≠ dk.2 → a ∉ F.mu ∨ Fro o → H' a = some o
  f : Le F F'
  n : ∀ a, F a = none → H a ≠ none → F' a = none
  m : ∀ a, H a ≠ none → H' a ≠ none
  u : ∀ a, a ∈ F'.mu → a ∈ F.mu ∨ H a = none
  k : ∀ a o, H' a = some o → Fro o → H a = some o
theorem Ext.refl (F : Fz) (H : Hp) : Ext dk F H F H := ⟨fun _ _ h _ _ _ => h, Le.refl F, fun _ h _ => h, fun _ h => h, fun _ h => .inl h, fun _ _ h _ => h⟩
theorem Ext.trans {A : Fz} {B : Hp} {F1 : Fz} {H1 : Hp} {F2 : Fz} {H2 : Hp} (x : Ext dk A B F1 H1) (y : Ext dk F1 H1 F2 H2) : Ext dk A B F2 H2 :=
  ⟨fun a o h n1 n2 n3 => y.h a o (x.h a o h n1 n2 n3) n1 n2 (n3.imp (fun n3 z => by
      rcases x.u a z with q | q
      · exact n3 q
      · rw [q] at h; cases h) id),
    x.f.trans y.f, fun a h1 h2 => y.n a (x.n a h1 h2) (x.m a h2), fun a h => y.m a (x.m a h), fun a h => by
      rcases y.u a h with q | q
      · exact x.u a q
      · refine .inr ?_
        cases w : B a with
        | none => rfl
        | some o => exact absurd q (x.m a (by rw [w]; exact fun z => nomatch z)), fun a o h f => x.k a o (y.k a o h f) f⟩
theorem Ext.out (x : Ext dk F H F' H') {a : Addr} (h : F.out a) (h2 : H a ≠ none) : F'.out a := ⟨x.n a h.1 h2, fun z => by
  rcases x.u a z with q | q
  · exact h.2 q
  · exact h2 q⟩
theorem Ext.back (x : Ext dk F H F' H') {a : Addr} (h : H' a = none) : H a = none := by
  cases w : H a with
  | none => rfl
  | some o => exact absurd h (x.m a (by rw [w]; exact fun z => nomatch z))

/-- an operation that keeps all and only lays new things -/
structure Px (F : Fz) (H : Hp) (F' : Fz) (H' : Hp) : Prop where
  h : Lh H H'
  f : Le F F'
  n : ∀ a, F a = none → H a ≠ none → F' a = none
  s : Sb F' H'
  m : F'.mu = F.mu
  k : ∀ a o, H' a = some o → Fro o → H a = some o
theorem Px.refl (s : Sb F H) : Px F H F H := ⟨Lh.refl H, Le.refl F, fun _ h _ => h, s, rfl, fun _ _ h _ => h⟩
theorem Px.ext (x : Px F H F' H') : Ext dk F H F' H' := ⟨fun a o e _ _ _ => x.h a o e, x.f, x.n, fun a h z => h (x.h.free z), fun a h => .inl (by rw [x.m] at h; exact h), x.k⟩
theorem nn {o : Option HO} {u : HO} (h : o = some u) : o ≠ none := by rw [h]; exact fun z => nomatch z
theorem Px.wd {st : S} (x : Px F H F' H') (w : Wd K dk F H st) : Wd K dk F' H' st :=
  ⟨x.s, x.h _ _ w.d1, x.h _ _ w.d2, ⟨x.n _ w.f1.1 (nn w.d1), by rw [x.m]; exact w.f1.2⟩, ⟨x.n _ w.f2.1 (nn w.d2), by rw [x.m]; exact w.f2.2⟩, w.ne, by rw [x.m]; exact w.ml, by rw [x.m]; exact w.nd,
    fun n a o h1 h2 => by
      rw [x.m] at h1
      obtain ⟨q1, q2⟩ := w.ob n a o h1 h2
      exact ⟨x.n _ q1 q2.some, q2.keep (fun o e => x.h _ _ e) x.f⟩⟩
theorem Px.trans {F2 : Fz} {H2 : Hp} (x : Px F H F' H') (y : Px F' H' F2 H2) : Px F H F2 H2 :=
  ⟨x.h.trans y.h, x.f.trans y.f, fun a h1 h2 => y.n a (x.n a h1 h2) (fun z => h2 (x.h.free z)), y.s, y.m.trans x.m, fun a o h f => x.k a o (y.k a o h f) f⟩
theorem updK {p : Addr} {o : HO} (nf : ¬ Fro o) (a : Addr) (u : HO) (h : upd H p o a = some u) (f : Fro u) : H a = some u := by
  by_cases na : a = p
  · subst na; rw [upd_same] at h; cases h; exact absurd f nf
  · rw [upd_ne na] at h; exact h
/-- a new frozen thing -/
theorem Px.new {p : Addr} {o : HO} (s : Sb F H) (hp : H p = none) (nf : ¬ Fro o := by rintro ⟨_, _, z⟩; cases z) : Px F H (F.up p o) (upd H p o) := by
  have fp : F p = none := s.free hp
  refine ⟨Lh.new hp, Le.new fp, fun a h1 h2 => ?_, fun a u e => ?_, rfl, updK nf⟩
  · have na : a ≠ p := fun z => h2 (z ▸ hp)
    rw [Fz.up_ne na]; exact h1
  · by_cases na : a = p
    · subst na
      rw [Fz.up_same] at e
      rw [upd_same]; exact .inl e
    · rw [Fz.up_ne na] at e; rw [upd_ne na]; exact s a u e
/-- a new thing that is not frozen -/
theorem Px.lay {p : Addr} {o : HO} (s : Sb F H) (hp : H p = none) (nf : ¬ Fro o := by rintro ⟨_, _, z⟩; cases z) : Px F H F (upd H p o) :=
  ⟨Lh.new hp, Le.refl F, fun _ h _ => h, s.lh (Lh.new hp), rfl, updK nf⟩

/-- data as it stands in this heap, whoever holds it -/
inductive Rw (K : Fg) (dk : Dk) (F : Fz) (H : Hp) : V → D → Prop
  | rp {v : V} {d : D} : Rp K dk F v d → Rw K dk F H v d
  | lst {p : Addr} {vs : List V} {ds : List D} : H p = some (.lst vs) → Rps K dk F vs ds → Rw K dk F H (.ref p) (.lst ds)
  | dic {p : Addr} {ks : List Key} {vs : List V} {ds : List D} : Rd H p (.dK (ks.zip vs)) → ks.length = vs.length → Rps K dk F vs ds → Rw K dk F H (.ref p) (.dic ks ds)
/-- data that stays while other things are worked out: frozen, or a name's own -/
inductive Ry (K : Fg) (dk : Dk) (F : Fz) (H : Hp) : V → D → Prop
  | rp {v : V} {d : D} : Rp K dk F v d → Ry K dk F H v d
  | lst {p : Addr} {vs : List V} {ds : List D} : H p = some (.lst vs) → p ≠ dk.1 → p ≠ dk.2 → p ∉ F.mu → Rps K dk F vs ds → Ry K dk F H (.ref p) (.lst ds)
  | dic {p : Addr} {ks : List Key} {vs : List V} {ds : List D} : Rd H p (.dK (ks.zip vs)) → p ≠ dk.1 → p ≠ dk.2 → p ∉ F.mu → ks.length = vs.length → Rps K dk F vs ds → Ry K dk F H (.ref p) (.dic ks ds)
theorem Ext.nmu (x : Ext dk F H F' H') {a : Addr} (h : a ∉ F.mu) (h2 : H a ≠ none) : a ∉ F'.mu := fun z => by
  rcases x.u a z with q | q
  · exact h q
  · exact h2 q
theorem rdn {a : Addr} {u : HO} (h : Rd H a u) : H a ≠ none := by
  rcases h with h | ⟨o, h⟩ <;> exact nn h
theorem Ext.rd (x : Ext dk F H F' H') {a : Addr} {u : HO} (h : Rd H a u) (n1 : a ≠ dk.1) (n2 : a ≠ dk.2) (n3 : a ∉ F.mu) : Rd H' a u := by
  rcases h with h | ⟨o, h⟩
  · exact .inl (x.h _ _ h n1 n2 (.inl n3))
  · exact .inr ⟨o, x.h _ _ h n1 n2 (.inl n3)⟩
theorem Ry.ext {v : V} {d : D} (r : Ry K dk F H v d) (x : Ext dk F H F' H') : Ry K dk F' H' v d := by
  cases r with
  | rp r => exact .rp (r.mono x.f)
  | lst h n1 n2 n3 r => exact .lst (x.h _ _ h n1 n2 (.inl n3)) n1 n2 (x.nmu n3 (nn h)) (r.mono x.f)
  | dic h n1 n2 n3 l r => exact .dic (x.rd h n1 n2 n3) n1 n2 (x.nmu n3 (rdn h)) l (r.mono x.f)
theorem Ry.w {v : V} {d : D} (r : Ry K dk F H v d) : Rw K dk F H v d := by
  cases r with
  | rp r => exact .rp r
  | lst h n1 n2 n3 r => exact .lst h r
  | dic h n1 n2 n3 l r => exact .dic h l r
inductive Rws (K : Fg) (dk : Dk) (F : Fz) (H : Hp) : List V → List D → Prop
  | nil : Rws K dk F H [] []
  | cons {v : V} {vs : List V} {d : D} {ds : List D} : Rw K dk F H v d → Rws K dk F H vs ds → Rws K dk F H (v :: vs) (d :: ds)
inductive Rys (K : Fg) (dk : Dk) (F : Fz) (H : Hp) : List V → List D → Prop
  | nil : Rys K dk F H [] []
  | cons {v : V} {vs : List V} {d : D} {ds : List D} : Ry K dk F H v d → Rys K dk F H vs ds → Rys K dk F H (v :: vs) (d :: ds)
theorem Rys.ext (x : Ext dk F H F' H') : ∀ {vs : List V} {ds : List D}, Rys K dk F H vs ds → Rys K dk F' H' vs ds
  | _, _, .nil => .nil
  | _, _, .cons a b => .cons (a.ext x) (Rys.ext x b)
/-- what a thing of the store is at this time -/
def dr (st : S) : D → D
  | .ref n => match st.ob[n]? with
    | some (.lst ds) => .lst ds
    | some (.dic _ ks ds) => .dic ks ds
    | _ => .ref n
  | d => d
theorem Ry.dr {v : V} {d : D} {st : S} (r : Ry K dk F H v d) (w : Wd K dk F H st) : Rw K dk F H v (dr st d) := by
  cases d with
  | ref n =>
    cases r with
    | rp r =>
      cases r with
      | ref h =>
        unfold MD.dr
        dsimp only
        split
        · rename_i ho
          obtain ⟨_, q⟩ := w.ob n _ _ h ho
          cases q with
          | lst h r => exact .lst h r
        · rename_i ho
          obtain ⟨_, q⟩ := w.ob n _ _ h ho
          cases q with
          | dic h l r => exact .dic (.inl h) l r
          | lck h l r => exact .dic (.inr ⟨_, h⟩) l r
        · exact .rp (.ref h)
  | _ => exact r.w
theorem Rys.dr {st : S} (w : Wd K dk F H st) : ∀ {vs : List V} {ds : List D}, Rys K dk F H vs ds → Rws K dk F H vs (ds.map (dr st))
  | _, _, .nil => .nil
  | _, _, .cons a b => .cons (a.dr w) (Rys.dr w b)
/-- a list in H, whoever owns it -/
theorem Rw.l {v : V} {ds : List D} (s : Sb F H) (r : Rw K dk F H v (.lst ds)) : ∃ p vs, v = .ref p ∧ H p = some (.lst vs) ∧ Rps K dk F vs ds := by
  cases r with
  | rp r => cases r with
    | lst h r => exact ⟨_, _, rfl, s.lst h, r⟩
  | lst h r => exact ⟨_, _, rfl, h, r⟩
theorem Rw.d {v : V} {ks : List Key} {ds : List D} (s : Sb F H) (r : Rw K dk F H v (.dic ks ds)) : ∃ p vs, v = .ref p ∧ Rd H p (.dK (ks.zip vs)) ∧ ks.length = vs.length ∧ Rps K dk F vs ds := by
  cases r with
  | rp r => cases r with
    | dic h l r => exact ⟨_, _, rfl, s.dK h, l, r⟩
  | dic h l r => exact ⟨_, _, rfl, h, l, r⟩
theorem Rw.tp {v : V} {ds : List D} (r : Rw K dk F H v (.tup ds)) : Rp K dk F v (.tup ds) := by
  cases r with
  | rp r => exact r
theorem Rw.tup {v : V} {ds : List D} (s : Sb F H) (r : Rw K dk F H v (.tup ds)) : ∃ p vs, v = .ref p ∧ SqT K H p vs ∧ Rps K dk F vs ds := by
  cases r.tp with
  | tup h r => exact ⟨_, _, rfl, s.sqT h, r⟩
theorem Rw.int {v : V} {i : Int} (r : Rw K dk F H v (.int i)) : v = .int i := by
  cases r with
  | rp r => cases r; rfl
theorem Rw.str {v : V} {x : Str} (r : Rw K dk F H v (.str x)) : v = .str x := by
  cases r with
  | rp r => cases r; rfl
theorem Rw.bl {v : V} {b : Bool} (r : Rw K dk F H v (.bl b)) : v = .bl b := by
  cases r with
  | rp r => cases r; rfl
theorem Rw.non {v : V} (r : Rw K dk F H v .non) : v = .non := by
  cases r with
  | rp r => cases r; rfl
theorem Rw.isNon {v : V} {d : D} (r : Rw K dk F H v d) : decide (v = .non) = (match d with | .non => true | _ => false) := by
  cases r with
  | rp r => cases r <;> rfl
  | lst _ _ => rfl
  | dic _ _ _ => rfl

/-! slots -/
def SlOk (K : Fg) (dk : Dk) (F : Fz) (H H0 : Hp) (v : Option V) : Sl → Prop
  | .un => True
  | .val d => ∃ x, v = some x ∧ Rp K dk F x d
  | .own w => ∃ p vs, v = some (.ref p) ∧ w.1.At H p vs ∧ F.out p ∧ H0 p = none ∧ p ≠ dk.1 ∧ p ≠ dk.2 ∧ Rps K dk F vs w.2
structure Good (K : Fg) (dk : Dk) (H0 : Hp) (F0 F : Fz) (σ : L2.St) (H : Hp) (env : Sg) (st : S) : Prop where
  wd : Wd K dk F H st
  ext : Ext dk F0 H0 F H
  len : σ.length = env.length
  sl : ∀ (i : Nat) (s : Sl), env[i]? = some s → SlOk K dk F H H0 (σ[i]?).join s
  dis : ∀ (i j : Nat) (ds es : Own) (p : Addr), i ≠ j → env[i]? = some (.own ds) → env[j]? = some (.own es) → σ[i]? = some (some (.ref p)) → σ[j]? ≠ some (some (.ref p))
theorem Good.step {H0 : Hp} {F0 : Fz} {σ : L2.St} {env : Sg} {st st' : S} (g : Good K dk H0 F0 F σ H env st) (x : Ext dk F H F' H') (w : Wd K dk F' H' st') : Good K dk H0 F0 F' σ H' env st' := by
  refine ⟨w, g.ext.trans x, g.len, fun i s e => ?_, g.dis⟩
  have q := g.sl i s e
  cases s with
  | un => trivial
  | val d => obtain ⟨v, h1, h2⟩ := q; exact ⟨v, h1, h2.mono x.f⟩
  | own ds =>
    obtain ⟨p, vs, h1, h2, h3, h4, h5, h6, h7⟩ := q
    exact ⟨p, vs, h1, h2.keep fun o e => x.h _ _ e h5 h6 (.inl h3.2), x.out h3 (by obtain ⟨o, ho⟩ := h2.some; exact nn ho), h4, h5, h6, h7.mono x.f⟩
theorem Good.px {H0 : Hp} {F0 : Fz} {σ : L2.St} {env : Sg} {st : S} (g : Good K dk H0 F0 F σ H env st) (x : Px F H F' H') : Good K dk H0 F0 F' σ H' env st := g.step x.ext (x.wd g.wd)
end
end MD

set_option Elab.async false
set_option linter.all false
set_option maxRecDepth 100000
set_option maxHeartbeats 1000000
namespace MD
open PySem L2

abbrev ME := Sg → S → Option (D × S)
abbrev MT := Sg → S → Option (Bool × S)
abbrev MA := Sg → S → Option (List D × S)

section
variable (K : Fg)
def Im (te : TE) (f : ME) : Prop := ∀ (dk : Dk) (H0 : Hp) (F0 F : Fz) (σ : L2.St) (H : Hp) (env : Sg) (st : S) (d : D) (st' : S), Good K dk H0 F0 F σ H env st → f env st = some (d, st') →
  ∀ Q : VK, (∀ v F' H', Ext dk F H F' H' → Good K dk H0 F0 F' σ H' env st' → Rp K dk F' v d → Q v H') → te σ H Q
def ImW (te : TE) (f : ME) : Prop := ∀ (dk : Dk) (H0 : Hp) (F0 F : Fz) (σ : L2.St) (H : Hp) (env : Sg) (st : S) (d : D) (st' : S), Good K dk H0 F0 F σ H env st → f env st = some (d, st') →
  ∀ Q : VK, (∀ v F' H', Ext dk F H F' H' → Good K dk H0 F0 F' σ H' env st' → Ry K dk F' H' v d → Q v H') → te σ H Q
def ImF (te : TE) (f : MA) : Prop := ∀ (dk : Dk) (H0 : Hp) (F0 F : Fz) (σ : L2.St) (H : Hp) (env : Sg) (st : S) (ds : List D) (st' : S), Good K dk H0 F0 F σ H env st → f env st = some (ds, st') →
  ∀ Q : VK, (∀ p vs F' H', Ext dk F H F' H' → Good K dk H0 F0 F' σ H' env st' → H p = none → F'.out p → H' p = some (.lst vs) → Rps K dk F' vs ds → Q (.ref p) H') → te σ H Q
def ImT (tt : TT) (f : MT) : Prop := ∀ (dk : Dk) (H0 : Hp) (F0 F : Fz) (σ : L2.St) (H : Hp) (env : Sg) (st : S) (b : Bool) (st' : S), Good K dk H0 F0 F σ H env st → f env st = some (b, st') →
  ∀ Q : Bool → Hp → Prop, (∀ F' H', Ext dk F H F' H' → Good K dk H0 F0 F' σ H' env st' → Q b H') → tt σ H Q
def ImA (ta : TA) (f : MA) : Prop := ∀ (dk : Dk) (H0 : Hp) (F0 F : Fz) (σ : L2.St) (H : Hp) (env : Sg) (st : S) (ds : List D) (st' : S), Good K dk H0 F0 F σ H env st → f env st = some (ds, st') →
  ∀ Q : List V → Hp → Prop, (∀ vs F' H', Ext dk F H F' H' → Good K dk H0 F0 F' σ H' env st' → Rps K dk F' vs ds → Q vs H') → ta σ H Q
def ImAW (ta : TA) (f : MA) : Prop := ∀ (dk : Dk) (H0 : Hp) (F0 F : Fz) (σ : L2.St) (H : Hp) (env : Sg) (st : S) (ds : List D) (st' : S), Good K dk H0 F0 F σ H env st → f env st = some (ds, st') →
  ∀ Q : List V → Hp → Prop, (∀ vs F' H', Ext dk F H F' H' → Good K dk H0 F0 F' σ H' env st' → Rys K dk F' H' vs ds → Q vs H') → ta σ H Q
end

theorem bnd {α β : Type} {o : Option α} {f : α → Option β} {b : β} (h : o.bind f = some b) : ∃ a, o = some a ∧ f a = some b := by
  cases o with
  | none => cases h
  | some a => exact ⟨a, rfl, h⟩
theorem mpd {α β : Type} {o : Option α} {f : α → β} {b : β} (h : o.map f = some b) : ∃ a, o = some a ∧ f a = b := by
  cases o with
  | none => cases h
  | some a => exact ⟨a, rfl, Option.some.inj h⟩

section
variable {K : Fg} {dk : Dk} {F F' F0 : Fz} {H H' H0 : Hp} {σ : L2.St} {env : Sg} {st : S}
theorem Good.fresh0 (g : Good K dk H0 F0 F σ H env st) {p : Addr} (hp : H p = none) : H0 p = none := by
  cases q : H0 p with
  | none => rfl
  | some o => exact absurd hp (g.ext.m p (by rw [q]; exact fun z => nomatch z))
theorem Good.nedk (g : Good K dk H0 F0 F σ H env st) {p : Addr} (hp : H p = none) : p ≠ dk.1 ∧ p ≠ dk.2 :=
  ⟨fun z => (by rw [z, g.wd.d1] at hp; cases hp), fun z => (by rw [z, g.wd.d2] at hp; cases hp)⟩
theorem join_eq {x : Option (Option V)} {v : V} (h : x.join = some v) : x = some (some v) := by
  cases x with
  | none => cases h
  | some y => cases y with
    | none => cases h
    | some z => rw [show z = v from Option.some.inj h]
theorem Good.noown (g : Good K dk H0 F0 F σ H env st) {p : Addr} (hp : H p = none) : ∀ (i : Nat) (ds : Own), env[i]? = some (.own ds) → σ[i]? ≠ some (some (.ref p)) := fun i ds e z => by
  obtain ⟨q, vs, h1, h2, _⟩ := g.sl i _ e
  have h3 := join_eq h1
  rw [z] at h3
  cases h3
  obtain ⟨o, ho⟩ := h2.some
  rw [hp] at ho; cases ho
/-- what is nobody's own may be frozen -/
theorem Wd.freeze {p : Addr} {o : HO} (w : Wd K dk F H st) (hp : H p = some o) (fp : F.out p) (n1 : p ≠ dk.1) (n2 : p ≠ dk.2) : Wd K dk (F.up p o) H st := by
  have le : Le F (F.up p o) := Le.new fp.1
  refine ⟨fun a u e => ?_, w.d1, w.d2, ⟨by rw [Fz.up_ne n1.symm]; exact w.f1.1, w.f1.2⟩, ⟨by rw [Fz.up_ne n2.symm]; exact w.f2.1, w.f2.2⟩, w.ne, w.ml, w.nd, fun n a u h1 h2 => ?_⟩
  · by_cases na : a = p
    · subst na; rw [Fz.up_same] at e; rw [← e]; exact .inl hp
    · rw [Fz.up_ne na] at e; exact w.sub a u e
  · obtain ⟨q1, q2⟩ := w.ob n a u h1 h2
    have na : a ≠ p := fun z => fp.2 (z ▸ List.mem_of_getElem? h1)
    exact ⟨by rw [Fz.up_ne na]; exact q1, q2.keep (fun _ e => e) le⟩
theorem Good.freeze {p : Addr} {o : HO} (g : Good K dk H0 F0 F σ H env st) (hp : H p = some o) (fp : F.out p) (h0 : H0 p = none) (n1 : p ≠ dk.1) (n2 : p ≠ dk.2)
    (no : ∀ (i : Nat) (ds : Own), env[i]? = some (.own ds) → σ[i]? ≠ some (some (.ref p))) : Good K dk H0 F0 (F.up p o) σ H env st := by
  have le : Le F (F.up p o) := Le.new fp.1
  refine ⟨g.wd.freeze hp fp n1 n2, ⟨g.ext.h, g.ext.f.trans le, fun a h1 h2 => ?_, g.ext.m, g.ext.u, g.ext.k⟩, g.len, fun i s e => ?_, g.dis⟩
  · have na : a ≠ p := fun z => h2 (z ▸ h0)
    rw [Fz.up_ne na]; exact g.ext.n a h1 h2
  · have q := g.sl i s e
    cases s with
    | un => trivial
    | val d => obtain ⟨v, h1, h2⟩ := q; exact ⟨v, h1, h2.mono le⟩
    | own ds =>
      obtain ⟨r, vs, h1, h2, h3, h4, h5, h6, h7⟩ := q
      have nr : r ≠ p := fun z => no i ds e (by rw [← z]; exact join_eq h1)
      exact ⟨r, vs, h1, h2, ⟨by rw [Fz.up_ne nr]; exact h3.1, h3.2⟩, h4, h5, h6, h7.mono le⟩
theorem Ext.freeze {p : Addr} {o : HO} (x : Ext dk F H F' H') (hp : H p = none) (fp : F'.out p) : Ext dk F H (F'.up p o) H' :=
  ⟨x.h, x.f.trans (Le.new fp.1), fun a h1 h2 => by
    have na : a ≠ p := fun z => h2 (z ▸ hp)
    rw [Fz.up_ne na]; exact x.n a h1 h2, x.m, x.u, x.k⟩

theorem Im.w {te : TE} {f : ME} (h : Im K te f) : ImW K te f := fun dk H0 F0 F σ H env st d st' g e Q q =>
  h dk H0 F0 F σ H env st d st' g e Q fun v F' H' x g' r => q v F' H' x g' (.rp r)
def frz (f : MA) : ME := fun env st => (f env st).map fun p => (.lst p.1, p.2)
theorem ImF.im {te : TE} {f : MA} (h : ImF K te f) : Im K te (frz f) := fun dk H0 F0 F σ H env st d st' g e Q q => by
  obtain ⟨⟨ds, s1⟩, h1, h2⟩ := mpd e
  cases h2
  refine h dk H0 F0 F σ H env st ds s1 g h1 Q fun p vs F' H' x g' hp fp hl r => ?_
  have nd := g.nedk hp
  have le : Le F' (Fz.up F' p (.lst vs)) := Le.new fp.1
  exact q (.ref p) (Fz.up F' p (.lst vs)) H' (x.freeze hp fp) (g'.freeze hl fp (g.fresh0 hp) nd.1 nd.2 (g.noown hp)) (.lst Fz.up_same (r.mono le))
theorem ImF.w {te : TE} {f : MA} (h : ImF K te f) : ImW K te (frz f) := h.im.w

/-! names, constants -/
def rd (i : Nat) : ME := fun env st => match env[i]? with
  | some (.val d) => some (d, st)
  | _ => none
def rdW (i : Nat) : ME := fun env st => match env[i]? with
  | some (.val d) => some (d, st)
  | some (.own (.lst, ds)) => some (.lst ds, st)
  | some (.own (.dic ks, ds)) => some (.dic ks ds, st)
  | _ => none
theorem im_var (i : Nat) : Im K (tVar i) (rd i) := fun dk H0 F0 F σ H env st d st' g e Q q => by
  unfold rd at e
  split at e
  · rename_i d' he
    cases e
    obtain ⟨v, h1, h2⟩ := g.sl i _ he
    exact ⟨v, join_eq h1, q v F H (Ext.refl F H) g h2⟩
  · cases e
theorem im_own (i : Nat) : ImW K (tVar i) (rdW i) := fun dk H0 F0 F σ H env st d st' g e Q q => by
  unfold rdW at e
  split at e
  · rename_i d' he
    cases e
    obtain ⟨v, h1, h2⟩ := g.sl i _ he
    exact ⟨v, join_eq h1, q v F H (Ext.refl F H) g (.rp h2)⟩
  · rename_i ds he
    cases e
    obtain ⟨p, vs, h1, h2, h3, h4, h5, h6, h7⟩ := g.sl i _ he
    exact ⟨.ref p, join_eq h1, q (.ref p) F H (Ext.refl F H) g (.lst h2 h5 h6 h3.2 h7)⟩
  · rename_i ks ds he
    cases e
    obtain ⟨p, vs, h1, h2, h3, h4, h5, h6, h7⟩ := g.sl i _ he
    exact ⟨.ref p, join_eq h1, q (.ref p) F H (Ext.refl F H) g (.dic (.inl h2.1) h5 h6 h3.2 h2.2 h7)⟩
  · cases e
def cst (d : D) : ME := fun _ st => some (d, st)
/-- a value that stands for itself in every heap -/
def Rc (K : Fg) (v : V) (d : D) : Prop := ∀ dk F, Rp K dk F v d
theorem im_c {v : V} {d : D} (h : Rc K v d) : Im K (tC v) (cst d) := fun dk H0 F0 F σ H env st d' st' g e Q q => by
  cases e
  exact q v F H (Ext.refl F H) g (h dk F)
theorem im_int {i : Int} : Im K (tC (.int i)) (cst (.int i)) := im_c fun _ _ => .int i
theorem im_str {i : Str} : Im K (tC (.str i)) (cst (.str i)) := im_c fun _ _ => .str i
theorem im_bl {i : Bool} : Im K (tC (.bl i)) (cst (.bl i)) := im_c fun _ _ => .bl i
theorem im_non : Im K (tC .non) (cst .non) := im_c fun _ _ => .non

/-! two-place operations on values -/
def RO (K : Fg) (r : R2) (f : D → D → Option D) : Prop := ∀ (dk : Dk) (F : Fz) (H : Hp) (st : S) (x y : V) (d e z : D), Wd K dk F H st → Rw K dk F H x d → Rw K dk F H y e → f d e = some z →
  ∀ Q : VK, (∀ v F' H', Px F H F' H' → Rp K dk F' v z → Q v H') → r x y H Q
def ROF (K : Fg) (r : R2) (f : D → D → Option (List D)) : Prop := ∀ (dk : Dk) (F : Fz) (H : Hp) (st : S) (x y : V) (d e : D) (z : List D), Wd K dk F H st → Rw K dk F H x d → Rw K dk F H y e → f d e = some z →
  ∀ Q : VK, (∀ p vs, H p = none → Rps K dk F vs z → Q (.ref p) (upd H p (.lst vs))) → r x y H Q
def opM (f : D → D → Option D) (fa fb : ME) : ME := fun env st => (fa env st).bind fun p => (fb env p.2).bind fun q => (f (dr q.2 p.1) (dr q.2 q.1)).map fun z => (z, q.2)
def opF (f : D → D → Option (List D)) (fa fb : ME) : MA := fun env st => (fa env st).bind fun p => (fb env p.2).bind fun q => (f (dr q.2 p.1) (dr q.2 q.1)).map fun z => (z, q.2)
theorem im_op {r : R2} {f : D → D → Option D} {ta tb : TE} {fa fb : ME} (hr : RO K r f) (ha : ImW K ta fa) (hb : ImW K tb fb) : Im K (tOp r ta tb) (opM f fa fb) := fun dk H0 F0 F σ H env st d st' g e Q q => by
  obtain ⟨⟨x, s1⟩, h1, e⟩ := bnd e
  obtain ⟨⟨y, s2⟩, h2, e⟩ := bnd e
  obtain ⟨z, h3, e⟩ := mpd e
  cases e
  refine ha dk H0 F0 F σ H env st x s1 g h1 _ fun v F1 H1 x1 g1 r1 => ?_
  refine hb dk H0 F0 F1 σ H1 env s1 y s2 g1 h2 _ fun u F2 H2 x2 g2 r2 => ?_
  exact hr dk F2 H2 s2 v u _ _ d g2.wd ((r1.ext x2).dr g2.wd) (r2.dr g2.wd) h3 Q fun w F3 H3 px r3 => q w F3 H3 ((x1.trans x2).trans px.ext) (g2.px px) r3
theorem im_opF {r : R2} {f : D → D → Option (List D)} {ta tb : TE} {fa fb : ME} (hr : ROF K r f) (ha : ImW K ta fa) (hb : ImW K tb fb) : ImF K (tOp r ta tb) (opF f fa fb) := fun dk H0 F0 F σ H env st d st' g e Q q => by
  obtain ⟨⟨x, s1⟩, h1, e⟩ := bnd e
  obtain ⟨⟨y, s2⟩, h2, e⟩ := bnd e
  obtain ⟨z, h3, e⟩ := mpd e
  cases e
  refine ha dk H0 F0 F σ H env st x s1 g h1 _ fun v F1 H1 x1 g1 r1 => ?_
  refine hb dk H0 F0 F1 σ H1 env s1 y s2 g1 h2 _ fun u F2 H2 x2 g2 r2 => ?_
  refine hr dk F2 H2 s2 v u _ _ d g2.wd ((r1.ext x2).dr g2.wd) (r2.dr g2.wd) h3 Q fun p vs hp r3 => ?_
  have x12 := x1.trans x2
  have h0 : H p = none := by
    cases w : H p with
    | none => rfl
    | some o => exact absurd hp (x12.m p (by rw [w]; exact fun z => nomatch z))
  have px : Px F2 H2 F2 (upd H2 p (.lst vs)) := Px.lay g2.wd.sub hp
  exact q p vs F2 _ (x12.trans px.ext) (g2.px px) h0 (g2.wd.out hp) upd_same r3
theorem RO.or {r r' : R2} {f f' : D → D → Option D} (h : RO K r f) (h' : RO K r' f') : RO K (fun x y H Q => r x y H Q ∨ r' x y H Q) (fun d e => (f d e).orElse fun _ => f' d e) := by
  intro dk F H st x y d e z w rx ry hz Q q
  replace hz : ((f d e).orElse fun _ => f' d e) = some z := hz
  cases hf : f d e with
  | some y' =>
    rw [hf] at hz
    have : some y' = some z := hz
    cases this
    exact .inl (h dk F H st x y d e z w rx ry hf Q q)
  | none =>
    rw [hf] at hz
    exact .inr (h' dk F H st x y d e z w rx ry hz Q q)
theorem ROF.ro {r : R2} {f : D → D → Option (List D)} (h : ROF K r f) : RO K r (fun d e => (f d e).map D.lst) := by
  intro dk F H st x y d e z w rx ry hz Q q
  obtain ⟨ds, h1, h2⟩ := mpd hz
  subst h2
  refine h dk F H st x y d e ds w rx ry h1 Q fun p vs hp r => ?_
  have px : Px F H (Fz.up F p (.lst vs)) (upd H p (.lst vs)) := Px.new w.sub hp
  exact q (.ref p) _ _ px (.lst Fz.up_same (r.mono px.f))

/-! ints -/
def iI (g : Int → Int → D) : D → D → Option D
  | .int i, .int j => some (g i j)
  | _, _ => none
def iIC (C : Int → Int → Prop) [∀ i j, Decidable (C i j)] (g : Int → Int → D) : D → D → Option D
  | .int i, .int j => if C i j then some (g i j) else none
  | _, _ => none
theorem ro_I0 {g : Int → Int → V} {g' : Int → Int → D} (h : ∀ i j, Rc K (g i j) (g' i j)) : RO K (rI0 g) (iI g') := by
  intro dk F H st x y d e z w rx ry hz Q q
  unfold iI at hz
  split at hz
  · rename_i i j
    cases hz
    cases rx.int
    cases ry.int
    exact ⟨i, j, rfl, rfl, q _ F H (Px.refl w.sub) (h i j dk F)⟩
  · cases hz
theorem ro_I {C : Int → Int → Prop} [∀ i j, Decidable (C i j)] {g : Int → Int → V} {g' : Int → Int → D} (h : ∀ i j, Rc K (g i j) (g' i j)) : RO K (rI C g) (iIC C g') := by
  intro dk F H st x y d e z w rx ry hz Q q
  unfold iIC at hz
  split at hz
  · rename_i i j
    split at hz
    · rename_i hc
      cases hz
      cases rx.int
      cases ry.int
      exact ⟨i, j, rfl, rfl, hc, q _ F H (Px.refl w.sub) (h i j dk F)⟩
    · cases hz
  · cases hz
theorem rc_int (i : Int) : Rc K (.int i) (.int i) := fun _ _ => .int i
theorem rc_bl (i : Bool) : Rc K (.bl i) (.bl i) := fun _ _ => .bl i
theorem rc_str (i : Str) : Rc K (.str i) (.str i) := fun _ _ => .str i
instance : ∀ i j, Decidable (CMul i j) := fun i j => by unfold CMul; exact inferInstance
instance : ∀ i j, Decidable (CDiv i j) := fun i j => by unfold CDiv; exact inferInstance
instance : ∀ i j, Decidable (CPow i j) := fun i j => by unfold CPow; exact inferInstance

/-! + -/
def strCat : D → D → Option D
  | .str i, .str j => if i.length + j.length ≤ sizeLine then some (.str (i ++ j)) else none
  | _, _ => none
def tupCat : D → D → Option D
  | .tup i, .tup j => if i.length + j.length ≤ sizeLine then some (.tup (i ++ j)) else none
  | _, _ => none
def lstCat : D → D → Option (List D)
  | .lst i, .lst j => if i.length + j.length ≤ sizeLine then some (i ++ j) else none
  | _, _ => none
theorem ro_strCat : RO K (fun x y H Q => ∃ i j, x = .str i ∧ y = .str j ∧ i.length + j.length ≤ sizeLine ∧ Q (.str (i ++ j)) H) strCat := by
  intro dk F H st x y d e z w rx ry hz Q q
  unfold strCat at hz
  split at hz
  · rename_i i j
    split at hz
    · rename_i hc
      cases hz
      exact ⟨i, j, rx.str, ry.str, hc, q _ F H (Px.refl w.sub) (.str _)⟩
    · cases hz
  · cases hz
theorem ro_tupCat : RO K (rCatA K) tupCat := by
  intro dk F H st x y d e z w rx ry hz Q q
  unfold tupCat at hz
  split at hz
  · rename_i i j
    split at hz
    · rename_i hc
      cases hz
      obtain ⟨p, vs, e1, h1, r1⟩ := rx.tup w.sub
      obtain ⟨p2, vs2, e2, h2, r2⟩ := ry.tup w.sub
      refine ⟨p, p2, vs, vs2, e1, e2, h1, h2, by rw [r1.length, r2.length]; exact hc, fun z => ?_, fun _ z => ?_, fun _ _ a ha => ?_⟩
      · subst z
        cases r1
        subst e2
        exact q _ F H (Px.refl w.sub) ry.tp
      · subst z
        cases r2
        subst e1
        rw [List.append_nil] at q
        exact q _ F H (Px.refl w.sub) rx.tp
      · have px : Px F H (Fz.up F a (.tup (vs ++ vs2))) (upd H a (.tup (vs ++ vs2))) := Px.new w.sub ha
        exact q _ _ _ px (.tup (SqT.of Fz.up_same) ((r1.append r2).mono px.f))
    · cases hz
  · cases hz
theorem rof_lstCat : ROF K rCat lstCat := by
  intro dk F H st x y d e z w rx ry hz Q q
  unfold lstCat at hz
  split at hz
  · rename_i i j
    split at hz
    · rename_i hc
      cases hz
      obtain ⟨p, vs, e1, h1, r1⟩ := rx.l w.sub
      obtain ⟨p2, vs2, e2, h2, r2⟩ := ry.l w.sub
      exact ⟨p, p2, vs, vs2, e1, e2, h1, h2, by rw [r1.length, r2.length]; exact hc, fun a ha => q a _ ha (r1.append r2)⟩
    · cases hz
  · cases hz
end
end MD

set_option Elab.async false
set_option linter.all false
set_option maxRecDepth 100000
set_option maxHeartbeats 1000000
namespace MD
open PySem L2

/-! ### data as the library's -/
mutual
def D.py : D → PyData
  | .non => .none
  | .bl b => .bool b
  | .int i => .int i
  | .str s => .str s
  | .lst xs => .list (pyAll xs)
  | .tup xs => .tuple (pyAll xs)
  | .deck => .none
  | .dic _ _ => .none
  | .ref _ => .none
def pyAll : List D → List PyData
  | [] => []
  | x :: xs => D.py x :: pyAll xs
end
mutual
def D.pl : D → Bool
  | .lst xs => plAll xs
  | .tup xs => plAll xs
  | .deck => false
  | .dic _ _ => false
  | .ref _ => false
  | _ => true
def plAll : List D → Bool
  | [] => true
  | x :: xs => D.pl x && plAll xs
end
mutual
theorem Rp.dp {K : Fg} {dk : Dk} {F : Fz} {H : Hp} (le : Sb F H) : ∀ {v : V} {d : D}, Rp K dk F v d → d.pl = true → Dp K H v d.py
  | _, _, .non, _ => .non
  | _, _, .bl b, _ => .bl b
  | _, _, .int i, _ => .int i
  | _, _, .str x, _ => .str x
  | _, _, .lst h r, p => .lst (SqL.of (le.lst h)) (Rps.dp le r (by simpa [D.pl] using p))
  | _, _, .tup h r, p => .tup (le.sqT h) (Rps.dp le r (by simpa [D.pl] using p))
  | _, _, .deck, p => by simp [D.pl] at p
  | _, _, .dic _ _ _, p => by simp [D.pl] at p
  | _, _, .ref _, p => by simp [D.pl] at p
theorem Rps.dp {K : Fg} {dk : Dk} {F : Fz} {H : Hp} (le : Sb F H) : ∀ {vs : List V} {ds : List D}, Rps K dk F vs ds → plAll ds = true → DpAll K H vs (pyAll ds)
  | _, _, .nil, _ => .nil
  | _, _, .cons a b, p => by
    rw [plAll, Bool.and_eq_true] at p
    exact .cons (Rp.dp le a p.1) (Rps.dp le b p.2)
end
section
variable {K : Fg} {dk : Dk} {F F' F0 : Fz} {H H' H0 : Hp} {σ : L2.St} {env : Sg} {st : S}
theorem Rw.dp (le : Sb F H) {v : V} {d : D} (r : Rw K dk F H v d) (p : d.pl = true) : Dp K H v d.py := by
  cases r with
  | rp r => exact r.dp le p
  | lst h r => exact .lst (SqL.of h) (r.dp le (by simpa [D.pl] using p))
  | dic _ _ _ => simp [D.pl] at p

/-! ### == -/
def sEq : D → D → Option Bool
  | .non, .non => some true
  | .non, .int _ => some false | .int _, .non => some false
  | .non, .str _ => some false | .str _, .non => some false
  | .int i, .int j => some (decide (i = j))
  | .bl i, .bl j => some (decide (i = j))
  | .str i, .str j => some (decide (i = j))
  | _, _ => none
def okD (d : D) : Bool := d.pl && SeqAt.shaped d.py
def eqB (d e : D) : Option Bool := match sEq d e with
  | some b => some b
  | none => if okD d && okD e then some (PyData.eqv d.py e.py) else none
def eqM (d e : D) : Option D := (eqB d e).map D.bl
def neM (d e : D) : Option D := (eqB d e).map fun b => D.bl (!b)
theorem dec_congr {p q : Prop} [Decidable p] [Decidable q] (h : p ↔ q) : decide p = decide q := by
  by_cases hp : p
  · rw [decide_eq_true hp, decide_eq_true (h.mp hp)]
  · rw [decide_eq_false hp, decide_eq_false fun z => hp (h.mpr z)]
theorem sEq_ok {x y : V} {d e : D} {b : Bool} (rx : Rw K dk F H x d) (ry : Rw K dk F H y e) (h : sEq d e = some b) : scal x y = true ∧ decide (x = y) = b := by
  unfold sEq at h
  split at h <;> cases h
  · cases rx.non; cases ry.non; exact ⟨rfl, rfl⟩
  · cases rx.non; cases ry.int; exact ⟨rfl, rfl⟩
  · cases rx.int; cases ry.non; exact ⟨rfl, rfl⟩
  · cases rx.non; cases ry.str; exact ⟨rfl, rfl⟩
  · cases rx.str; cases ry.non; exact ⟨rfl, rfl⟩
  · cases rx.int; cases ry.int; exact ⟨rfl, dec_congr ⟨fun z => V.int.inj z, fun z => by rw [z]⟩⟩
  · cases rx.bl; cases ry.bl; exact ⟨rfl, dec_congr ⟨fun z => V.bl.inj z, fun z => by rw [z]⟩⟩
  · cases rx.str; cases ry.str; exact ⟨rfl, dec_congr ⟨fun z => V.str.inj z, fun z => by rw [z]⟩⟩
def rEqA (K : Fg) : R2 := fun x y H Q => rEq x y H Q ∨ rEqD K x y H Q
def rNeA (K : Fg) : R2 := fun x y H Q => rNe x y H Q ∨ rNeD K x y H Q
theorem OpR.or {X : Cx} {f : Value → Value → Sem Value} {r r' : R2} (h : OpR X f r) (h' : OpR X f r') : OpR X f (fun x y H Q => r x y H Q ∨ r' x y H Q) := by
  intro pins s σ H x y v u Q I rx ry q
  rcases q with q | q
  · exact h pins s σ H x y v u Q I rx ry q
  · exact h' pins s σ H x y v u Q I rx ry q
theorem eqB_ok {x y : V} {d e : D} {b : Bool} (le : Sb F H) (rx : Rw K dk F H x d) (ry : Rw K dk F H y e) (h : eqB d e = some b) :
    (scal x y = true ∧ decide (x = y) = b) ∨ ∃ d e, Dp K H x d ∧ Dp K H y e ∧ SeqAt.shaped d = true ∧ SeqAt.shaped e = true ∧ PyData.eqv d e = b := by
  unfold eqB at h
  split at h
  · rename_i b' hb
    cases h
    exact .inl (sEq_ok rx ry hb)
  · split at h
    · rename_i ho
      cases h
      rw [Bool.and_eq_true, okD, okD, Bool.and_eq_true, Bool.and_eq_true] at ho
      exact .inr ⟨d.py, e.py, rx.dp le ho.1.1, ry.dp le ho.2.1, ho.1.2, ho.2.2, rfl⟩
    · cases h
theorem ro_eq : RO K (rEqA K) eqM := by
  intro dk F H st x y d e z w rx ry hz Q q
  obtain ⟨b, hb, rfl⟩ := mpd hz
  have q0 := q (.bl b) F H (Px.refl w.sub) (.bl b)
  rcases eqB_ok w.sub rx ry hb with ⟨h1, h2⟩ | ⟨d', e', h1, h2, h3, h4, h5⟩
  · exact .inl ⟨h1, by rw [h2]; exact q0⟩
  · exact .inr ⟨d', e', h1, h2, h3, h4, by rw [h5]; exact q0⟩
theorem ro_ne : RO K (rNeA K) neM := by
  intro dk F H st x y d e z w rx ry hz Q q
  obtain ⟨b, hb, rfl⟩ := mpd hz
  have q0 := q (.bl (!b)) F H (Px.refl w.sub) (.bl (!b))
  rcases eqB_ok w.sub rx ry hb with ⟨h1, h2⟩ | ⟨d', e', h1, h2, h3, h4, h5⟩
  · exact .inl ⟨h1, by rw [h2]; exact q0⟩
  · exact .inr ⟨d', e', h1, h2, h3, h4, by rw [h5]; exact q0⟩
theorem op_eqA {X : Cx} (hu : X.A.units + 64 < cLine) : OpR X (compareOp .Eq) (rEqA X.K) := OpR.or op_eq (op_eqD hu)
theorem op_neA {X : Cx} (hu : X.A.units + 64 < cLine) : OpR X (compareOp .NotEq) (rNeA X.K) := OpR.or op_ne (op_neD hu)

/-! ### is None -/
def nonD : D → Bool
  | .non => true
  | _ => false
def isM : D → D → Option D
  | d, .non => some (.bl (nonD d))
  | _, _ => none
def isNotM : D → D → Option D
  | d, .non => some (.bl (!nonD d))
  | _, _ => none
theorem Rw.isN {v : V} {d : D} (r : Rw K dk F H v d) : decide (v = .non) = nonD d := by
  rw [r.isNon]; cases d <;> rfl
theorem ro_is : RO K (fun x y H Q => y = .non ∧ Q (.bl (decide (x = .non))) H) isM := by
  intro dk F H st x y d e z w rx ry hz Q q
  unfold isM at hz
  split at hz
  · cases hz
    exact ⟨ry.non, by rw [rx.isN]; exact q _ F H (Px.refl w.sub) (.bl _)⟩
  · cases hz
theorem ro_isNot : RO K (fun x y H Q => y = .non ∧ Q (.bl (!decide (x = .non))) H) isNotM := by
  intro dk F H st x y d e z w rx ry hz Q q
  unfold isNotM at hz
  split at hz
  · cases hz
    exact ⟨ry.non, by rw [rx.isN]; exact q _ F H (Px.refl w.sub) (.bl _)⟩
  · cases hz

/-! ### in -/
def signOf (a : Str) : Option Nat := match a.cps.toList with
  | [c] => some c
  | _ => none
theorem signOf_eq {a : Str} {c : Nat} (h : signOf a = some c) : a = ⟨#[c]⟩ := by
  unfold signOf at h
  split at h
  · rename_i c' hc
    cases h
    obtain ⟨⟨l⟩⟩ := a
    have : l = [c] := hc
    rw [this]
  · cases h
def inSign : D → D → Option D
  | .str a, .str z => (signOf a).map fun c => .bl (decide (c ∈ z.cps.toList))
  | _, _ => none
def notInSign : D → D → Option D
  | .str a, .str z => (signOf a).map fun c => .bl (!decide (c ∈ z.cps.toList))
  | _, _ => none
theorem ro_inSign : RO K (fun x y H Q => ∃ (c : Nat) (z : Str), x = .str ⟨#[c]⟩ ∧ y = .str z ∧ Q (.bl (decide (c ∈ z.cps.toList))) H) inSign := by
  intro dk F H st x y d e z w rx ry hz Q q
  unfold inSign at hz
  split at hz
  · obtain ⟨c, hc, rfl⟩ := mpd hz
    exact ⟨c, _, by rw [rx.str, signOf_eq hc], ry.str, q _ F H (Px.refl w.sub) (.bl _)⟩
  · cases hz
theorem ro_notInSign : RO K (fun x y H Q => ∃ (c : Nat) (z : Str), x = .str ⟨#[c]⟩ ∧ y = .str z ∧ Q (.bl (!decide (c ∈ z.cps.toList))) H) notInSign := by
  intro dk F H st x y d e z w rx ry hz Q q
  unfold notInSign at hz
  split at hz
  · obtain ⟨c, hc, rfl⟩ := mpd hz
    exact ⟨c, _, by rw [rx.str, signOf_eq hc], ry.str, q _ F H (Px.refl w.sub) (.bl _)⟩
  · cases hz
def flatD : D → Bool
  | .non => true | .bl _ => true | .int _ => true | .str _ => true
  | _ => false
def eqFD : D → D → Bool
  | .non, .non => true
  | .bl a, .bl b => a == b
  | .bl a, .int b => (if a then 1 else 0) == b
  | .int a, .bl b => a == (if b then 1 else 0)
  | .int a, .int b => a == b
  | .str a, .str b => a == b
  | _, _ => false
theorem Rp.flat {v : V} {d : D} (r : Rp K dk F v d) (h : flatD d = true) : flatV v = true := by
  cases r <;> first | rfl | cases h
theorem Rp.eqF {v u : V} {d e : D} (r : Rp K dk F v d) (r' : Rp K dk F u e) (h : flatD d = true) (h' : flatD e = true) : eqV v u = eqFD d e := by
  cases r <;> first | (cases r' <;> first | rfl | cases h') | cases h
theorem Rw.flat {v : V} {d : D} (r : Rw K dk F H v d) (h : flatD d = true) : Rp K dk F v d := by
  cases r with
  | rp r => exact r
  | lst _ _ => cases h
  | dic _ _ _ => cases h
def inB (x : D) (ys : List D) : Bool := ys.any fun y => eqFD y x
theorem Rps.inV {x : V} {d : D} (r : Rp K dk F x d) (h : flatD d = true) : ∀ {vs : List V} {ds : List D}, Rps K dk F vs ds → ds.all flatD = true → vs.all flatV = true ∧ L2.inV x vs = inB d ds
  | _, _, .nil, _ => ⟨rfl, rfl⟩
  | _, _, .cons a b, p => by
    rw [List.all_cons, Bool.and_eq_true] at p
    obtain ⟨h1, h2⟩ := Rps.inV r h b p.2
    refine ⟨by rw [List.all_cons, a.flat p.1, h1]; rfl, ?_⟩
    unfold L2.inV inB at h2 ⊢
    rw [List.any_cons, List.any_cons, h2, a.eqF r p.1 h]
def inSeq (neg : Bool) : D → D → Option D
  | x, .lst ds => if flatD x && ds.all flatD then some (.bl (if neg then !inB x ds else inB x ds)) else none
  | x, .tup ds => if flatD x && ds.all flatD then some (.bl (if neg then !inB x ds else inB x ds)) else none
  | _, _ => none
theorem ro_inSeq (neg : Bool) : RO K (rIn K neg) (inSeq neg) := by
  intro dk F H st x y d e z w rx ry hz Q q
  unfold inSeq at hz
  split at hz
  · split at hz
    · rename_i ho
      cases hz
      rw [Bool.and_eq_true] at ho
      obtain ⟨p, vs, rfl, hl, r⟩ := ry.l w.sub
      have rx' := rx.flat ho.1
      obtain ⟨h1, h2⟩ := r.inV rx' ho.1 ho.2
      exact ⟨p, vs, rfl, .inl (SqL.of hl), rx'.flat ho.1, h1, by rw [h2]; exact q _ F H (Px.refl w.sub) (.bl _)⟩
    · cases hz
  · split at hz
    · rename_i ho
      cases hz
      rw [Bool.and_eq_true] at ho
      obtain ⟨p, vs, rfl, hl, r⟩ := ry.tup w.sub
      have rx' := rx.flat ho.1
      obtain ⟨h1, h2⟩ := r.inV rx' ho.1 ho.2
      exact ⟨p, vs, rfl, .inr hl, rx'.flat ho.1, h1, by rw [h2]; exact q _ F H (Px.refl w.sub) (.bl _)⟩
    · cases hz
  · cases hz

/-! ### a[i] -/
theorem Rps.atI {vs : List V} {ds : List D} {i : Int} {d : D} (r : Rps K dk F vs ds) (h : L2.atI ds i = some d) : ∃ v, L2.atI vs i = some v ∧ Rp K dk F v d := by
  unfold L2.atI at h ⊢
  obtain ⟨j, h1, h2⟩ := bnd h
  obtain ⟨v, h3, h4⟩ := r.get h2
  exact ⟨v, by rw [r.length, h1]; exact h3, h4⟩
def ixM : D → D → Option D
  | .lst ds, .int i => L2.atI ds i
  | .tup ds, .int i => L2.atI ds i
  | .str z, .int i => if z.length ≤ sizeLine then (L2.atI z.cps.toList i).map fun c => .str ⟨#[c]⟩ else none
  | _, _ => none
theorem ro_ix : RO K (rIx K) ixM := by
  intro dk F H st x y d e z w rx ry hz Q q
  unfold ixM at hz
  split at hz
  · obtain ⟨p, vs, rfl, hl, r⟩ := rx.l w.sub
    obtain ⟨v, h1, h2⟩ := r.atI hz
    exact .inl ⟨p, vs, _, v, rfl, ry.int, SqL.of hl, h1, q _ F H (Px.refl w.sub) h2⟩
  · obtain ⟨p, vs, rfl, hl, r⟩ := rx.tup w.sub
    obtain ⟨v, h1, h2⟩ := r.atI hz
    exact .inr (.inl ⟨p, vs, _, v, rfl, ry.int, hl, h1, q _ F H (Px.refl w.sub) h2⟩)
  · split at hz
    · rename_i ho
      obtain ⟨c, h1, rfl⟩ := mpd hz
      exact .inr (.inr ⟨_, _, c, rx.str, ry.int, ho, h1, q _ F H (Px.refl w.sub) (.str _)⟩)
    · cases hz
  · cases hz
end
end MD

set_option Elab.async false
set_option linter.all false
set_option maxRecDepth 100000
set_option maxHeartbeats 1000000
namespace MD
open PySem L2

section
variable {K : Fg} {dk : Dk} {F F' F0 : Fz} {H H' H0 : Hp} {σ : L2.St} {env : Sg} {st : S}
/-! ### slices -/
abbrev MO := Sg → S → Option (Option Int × S)
def ImO (K : Fg) (to : TO) (f : MO) : Prop := ∀ (dk : Dk) (H0 : Hp) (F0 F : Fz) (σ : L2.St) (H : Hp) (env : Sg) (st : S) (o : Option Int) (st' : S), Good K dk H0 F0 F σ H env st → f env st = some (o, st') →
  ∀ Q : Option Int → Hp → Prop, (∀ F' H', Ext dk F H F' H' → Good K dk H0 F0 F' σ H' env st' → Q o H') → to σ H Q
def noP : MO := fun _ st => some (none, st)
def intOf : D → Option Int
  | .int i => some i
  | _ => none
def prt (f : ME) : MO := fun env st => (f env st).bind fun p => (intOf p.1).map fun i => (some i, p.2)
theorem io_none : ImO K tNoPart noP := fun dk H0 F0 F σ H env st o st' g e Q q => by
  cases e
  exact q F H (Ext.refl F H) g
theorem io_some {te : TE} {f : ME} (h : ImW K te f) : ImO K (tPart te) (prt f) := fun dk H0 F0 F σ H env st o st' g e Q q => by
  obtain ⟨⟨x, s1⟩, h1, e⟩ := bnd e
  obtain ⟨i, h2, e⟩ := mpd e
  cases e
  refine h dk H0 F0 F σ H env st x s1 g h1 _ fun v F' H' x1 g1 r1 => ?_
  have hx : x = .int i := by
    cases x <;> first | (cases h2; rfl) | cases h2
  subst hx
  exact ⟨i, r1.w.int, q F' H' x1 g1⟩
def RS (K : Fg) (r : V → Option Int → Option Int → Hp → VK → Prop) (f : D → Option Int → Option Int → Option D) : Prop := ∀ (dk : Dk) (F : Fz) (H : Hp) (st : S) (x : V) (d z : D) (lo hi : Option Int), Wd K dk F H st → Rw K dk F H x d → f d lo hi = some z →
  ∀ Q : VK, (∀ v F' H', Px F H F' H' → Rp K dk F' v z → Q v H') → r x lo hi H Q
theorem RS.or {r r' : V → Option Int → Option Int → Hp → VK → Prop} {f f' : D → Option Int → Option Int → Option D} (h : RS K r f) (h' : RS K r' f') :
    RS K (fun x lo hi H Q => r x lo hi H Q ∨ r' x lo hi H Q) (fun d lo hi => (f d lo hi).orElse fun _ => f' d lo hi) := by
  intro dk F H st x d z lo hi w rx hz Q q
  replace hz : ((f d lo hi).orElse fun _ => f' d lo hi) = some z := hz
  cases hf : f d lo hi with
  | some y' =>
    rw [hf] at hz
    have : some y' = some z := hz
    cases this
    exact .inl (h dk F H st x d z lo hi w rx hf Q q)
  | none =>
    rw [hf] at hz
    exact .inr (h' dk F H st x d z lo hi w rx hz Q q)
def slM (f : D → Option Int → Option Int → Option D) (fe : ME) (fl fh : MO) : ME := fun env st => (fe env st).bind fun p => (fl env p.2).bind fun l => (fh env l.2).bind fun u => (f (dr u.2 p.1) l.1 u.1).map fun z => (z, u.2)
theorem im_sl {r : V → Option Int → Option Int → Hp → VK → Prop} {f : D → Option Int → Option Int → Option D} {te : TE} {tl th : TO} {fe : ME} {fl fh : MO} (hr : RS K r f) (he : ImW K te fe) (hl : ImO K tl fl) (hh : ImO K th fh) :
    Im K (tSl r te tl th) (slM f fe fl fh) := fun dk H0 F0 F σ H env st d st' g e Q q => by
  obtain ⟨⟨x, s1⟩, h1, e⟩ := bnd e
  obtain ⟨⟨l, s2⟩, h2, e⟩ := bnd e
  obtain ⟨⟨u, s3⟩, h3, e⟩ := bnd e
  obtain ⟨z, h4, e⟩ := mpd e
  cases e
  refine he dk H0 F0 F σ H env st x s1 g h1 _ fun v F1 H1 x1 g1 r1 => ?_
  refine hl dk H0 F0 F1 σ H1 env s1 l s2 g1 h2 _ fun F2 H2 x2 g2 => ?_
  refine hh dk H0 F0 F2 σ H2 env s2 u s3 g2 h3 _ fun F3 H3 x3 g3 => ?_
  exact hr dk F3 H3 s3 v _ d l u g3.wd (((r1.ext x2).ext x3).dr g3.wd) h4 Q fun w F4 H4 px r4 => q w F4 H4 (((x1.trans x2).trans x3).trans px.ext) (g3.px px) r4
def cutD (ds : List D) (lo hi : Option Int) : List D := (ds.drop (HT.sIx ds.length 0 lo)).take (HT.sIx ds.length ds.length hi - HT.sIx ds.length 0 lo)
theorem Rps.cut {vs : List V} {ds : List D} (r : Rps K dk F vs ds) (lo hi : Option Int) : Rps K dk F (cutV vs lo hi) (cutD ds lo hi) := by
  unfold cutV cutD
  rw [r.length]
  exact (r.drop _).take _
def slTup : D → Option Int → Option Int → Option D
  | .tup ds, lo, hi => some (.tup (cutD ds lo hi))
  | _, _, _ => none
def slLst : D → Option Int → Option Int → Option D
  | .lst ds, lo, hi => some (.lst (cutD ds lo hi))
  | _, _, _ => none
def slStr : D → Option Int → Option Int → Option D
  | .str z, lo, hi => if z.length ≤ sizeLine then some (.str (cutS z lo hi)) else none
  | _, _, _ => none
theorem rs_tup : RS K (rSlA K) slTup := by
  intro dk F H st x d z lo hi w rx hz Q q
  unfold slTup at hz
  split at hz
  · cases hz
    obtain ⟨p, vs, rfl, hl, r⟩ := rx.tup w.sub
    refine ⟨p, vs, rfl, hl, fun hw => ?_, fun _ a ha => ?_⟩
    · have e : ∀ ds : List D, vs.length = ds.length → cutD ds lo hi = ds := fun ds hl => by
        unfold cutD
        rw [← hl, hw.1, hw.2]
        simp [hl]
      rw [e _ r.length] at q
      exact q _ F H (Px.refl w.sub) rx.tp
    · have px : Px F H (Fz.up F a (.tup (cutV vs lo hi))) (upd H a (.tup (cutV vs lo hi))) := Px.new w.sub ha
      exact q _ _ _ px (.tup (SqT.of Fz.up_same) ((r.cut lo hi).mono px.f))
  · cases hz
theorem rs_lst : RS K (rSlL K) slLst := by
  intro dk F H st x d z lo hi w rx hz Q q
  unfold slLst at hz
  split at hz
  · cases hz
    obtain ⟨p, vs, rfl, hl, r⟩ := rx.l w.sub
    refine ⟨p, vs, rfl, SqL.of hl, fun a ha => ?_⟩
    have px : Px F H (Fz.up F a (.lst (cutV vs lo hi))) (upd H a (.lst (cutV vs lo hi))) := Px.new w.sub ha
    exact q _ _ _ px (.lst Fz.up_same ((r.cut lo hi).mono px.f))
  · cases hz
theorem rs_str : RS K rSlS slStr := by
  intro dk F H st x d z lo hi w rx hz Q q
  unfold slStr at hz
  split at hz
  · split at hz
    · rename_i ho
      cases hz
      exact ⟨_, rx.str, ho, q _ F H (Px.refl w.sub) (.str _)⟩
    · cases hz
  · cases hz
def slAny : D → Option Int → Option Int → Option D := fun d lo hi => (slTup d lo hi).orElse fun _ => (slStr d lo hi).orElse fun _ => slLst d lo hi
theorem sl_any {X : Cx} : SlR X (fun x lo hi H Q => rSlA X.K x lo hi H Q ∨ rSlS x lo hi H Q ∨ rSlL X.K x lo hi H Q) := sl_tupA.or (sl_str.or sl_list)
theorem rs_any : RS K (fun x lo hi H Q => rSlA K x lo hi H Q ∨ rSlS x lo hi H Q ∨ rSlL K x lo hi H Q) slAny := rs_tup.or (rs_str.or rs_lst)

/-! ### arguments -/
def aNil : MA := fun _ st => some ([], st)
def aCons (f : ME) (r : MA) : MA := fun env st => (f env st).bind fun p => (r env p.2).map fun q => (p.1 :: q.1, q.2)
theorem ia_nil : ImA K tNil aNil := fun dk H0 F0 F σ H env st ds st' g e Q q => by
  cases e
  exact q [] F H (Ext.refl F H) g .nil
theorem ia_cons {te : TE} {ta : TA} {f : ME} {r : MA} (h : Im K te f) (hr : ImA K ta r) : ImA K (tCons te ta) (aCons f r) := fun dk H0 F0 F σ H env st ds st' g e Q q => by
  obtain ⟨⟨x, s1⟩, h1, e⟩ := bnd e
  obtain ⟨⟨xs, s2⟩, h2, e⟩ := mpd e
  cases e
  refine h dk H0 F0 F σ H env st x s1 g h1 _ fun v F1 H1 x1 g1 r1 => ?_
  exact hr dk H0 F0 F1 σ H1 env s1 xs s2 g1 h2 _ fun vs F2 H2 x2 g2 r2 => q (v :: vs) F2 H2 (x1.trans x2) g2 (.cons (r1.mono x2.f) r2)
theorem iaw_nil : ImAW K tNil aNil := fun dk H0 F0 F σ H env st ds st' g e Q q => by
  cases e
  exact q [] F H (Ext.refl F H) g .nil
theorem iaw_cons {te : TE} {ta : TA} {f : ME} {r : MA} (h : ImW K te f) (hr : ImAW K ta r) : ImAW K (tCons te ta) (aCons f r) := fun dk H0 F0 F σ H env st ds st' g e Q q => by
  obtain ⟨⟨x, s1⟩, h1, e⟩ := bnd e
  obtain ⟨⟨xs, s2⟩, h2, e⟩ := mpd e
  cases e
  refine h dk H0 F0 F σ H env st x s1 g h1 _ fun v F1 H1 x1 g1 r1 => ?_
  exact hr dk H0 F0 F1 σ H1 env s1 xs s2 g1 h2 _ fun vs F2 H2 x2 g2 r2 => q (v :: vs) F2 H2 (x1.trans x2) g2 (.cons (r1.ext x2) r2)
/-! displays -/
def tupM (a : MA) : ME := fun env st => (a env st).bind fun p => if p.1.length ≤ sizeLine then some (.tup p.1, p.2) else none
def lstM (a : MA) : MA := fun env st => (a env st).bind fun p => if p.1.length ≤ sizeLine then some p else none
theorem im_tup {ta : TA} {a : MA} (h : ImA K ta a) : Im K (tTup ta) (tupM a) := fun dk H0 F0 F σ H env st d st' g e Q q => by
  obtain ⟨⟨xs, s1⟩, h1, e⟩ := bnd e
  split at e
  · rename_i hz
    cases e
    refine h dk H0 F0 F σ H env st xs s1 g h1 _ fun vs F1 H1 x1 g1 r1 => ⟨by rw [r1.length]; exact hz, fun p hp => ?_⟩
    have px : Px F1 H1 (Fz.up F1 p (.tup vs)) (upd H1 p (.tup vs)) := Px.new g1.wd.sub hp
    exact q _ _ _ (x1.trans px.ext) (g1.px px) (.tup (SqT.of Fz.up_same) (r1.mono px.f))
  · cases e
theorem if_lst {ta : TA} {a : MA} (h : ImA K ta a) : ImF K (tLst ta) (lstM a) := fun dk H0 F0 F σ H env st d st' g e Q q => by
  obtain ⟨⟨xs, s1⟩, h1, e⟩ := bnd e
  split at e
  · rename_i hz
    cases e
    refine h dk H0 F0 F σ H env st d st' g h1 _ fun vs F1 H1 x1 g1 r1 => ⟨by rw [r1.length]; exact hz, fun p hp => ?_⟩
    have px : Px F1 H1 F1 (upd H1 p (.lst vs)) := Px.lay g1.wd.sub hp
    have h0 : H p = none := by
      cases w : H p with
      | none => rfl
      | some o => exact absurd hp (x1.m p (by rw [w]; exact fun z => nomatch z))
    exact q p vs F1 _ (x1.trans px.ext) (g1.px px) h0 (g1.wd.out hp) upd_same r1
  · cases e

/-! ### calls of built-ins -/
def RC (K : Fg) (r : List V → Hp → VK → Prop) (f : List D → Option D) : Prop := ∀ (dk : Dk) (F : Fz) (H : Hp) (st : S) (vs : List V) (ds : List D) (z : D), Wd K dk F H st → Rws K dk F H vs ds → f ds = some z →
  ∀ Q : VK, (∀ v F' H', Px F H F' H' → Rp K dk F' v z → Q v H') → r vs H Q
def cbM (f : List D → Option D) (a : MA) : ME := fun env st => (a env st).bind fun p => (f (p.1.map (dr p.2))).map fun z => (z, p.2)
theorem im_cb {r : List V → Hp → VK → Prop} {f : List D → Option D} {ta : TA} {a : MA} (hr : RC K r f) (ha : ImAW K ta a) : Im K (tCB r ta) (cbM f a) := fun dk H0 F0 F σ H env st d st' g e Q q => by
  obtain ⟨⟨xs, s1⟩, h1, e⟩ := bnd e
  obtain ⟨z, h2, e⟩ := mpd e
  cases e
  refine ha dk H0 F0 F σ H env st xs s1 g h1 _ fun vs F1 H1 x1 g1 r1 => ?_
  exact hr dk F1 H1 s1 vs _ d g1.wd (r1.dr g1.wd) h2 Q fun w F2 H2 px r2 => q w F2 H2 (x1.trans px.ext) (g1.px px) r2
theorem CallR.or {X : Cx} {f : Value} {r r' : List V → Hp → VK → Prop} (h : CallR X f r) (h' : CallR X f r') : CallR X f (fun xs H Q => r xs H Q ∨ r' xs H Q) := by
  intro pins s σ H xs us Q I rs q
  rcases q with q | q
  · exact h pins s σ H xs us Q I rs q
  · exact h' pins s σ H xs us Q I rs q
theorem RC.or {r r' : List V → Hp → VK → Prop} {f f' : List D → Option D} (h : RC K r f) (h' : RC K r' f') : RC K (fun xs H Q => r xs H Q ∨ r' xs H Q) (fun ds => (f ds).orElse fun _ => f' ds) := by
  intro dk F H st vs ds z w rx hz Q q
  replace hz : ((f ds).orElse fun _ => f' ds) = some z := hz
  cases hf : f ds with
  | some y' =>
    rw [hf] at hz
    have : some y' = some z := hz
    cases this
    exact .inl (h dk F H st vs ds z w rx hf Q q)
  | none =>
    rw [hf] at hz
    exact .inr (h' dk F H st vs ds z w rx hz Q q)
theorem Rys.ws : ∀ {vs : List V} {ds : List D}, Rys K dk F H vs ds → Rws K dk F H vs ds
  | _, _, .nil => .nil
  | _, _, .cons a b => .cons a.w (Rys.ws b)
theorem Rws.one {vs : List V} {d : D} (r : Rws K dk F H vs [d]) : ∃ v, vs = [v] ∧ Rw K dk F H v d := by
  cases r with
  | cons a b => cases b; exact ⟨_, rfl, a⟩
theorem Rws.two {vs : List V} {d e : D} (r : Rws K dk F H vs [d, e]) : ∃ v u, vs = [v, u] ∧ Rw K dk F H v d ∧ Rw K dk F H u e := by
  cases r with
  | cons a b => cases b with
    | cons b c => cases c; exact ⟨_, _, rfl, a, b⟩
def lenM : List D → Option D
  | [.str z] => if z.length ≤ sizeLine then some (.int z.length) else none
  | [.lst ds] => some (.int ds.length)
  | [.tup ds] => some (.int ds.length)
  | _ => none
theorem rc_len : RC K (fun xs H Q => ∃ x n, xs = [x] ∧ LenV K x H n ∧ Q (.int n) H) lenM := by
  intro dk F H st vs ds z w rx hz Q q
  unfold lenM at hz
  split at hz
  · split at hz
    · rename_i ho
      cases hz
      obtain ⟨v, rfl, r⟩ := rx.one
      cases r.str
      exact ⟨_, _, rfl, ⟨ho, rfl⟩, q _ F H (Px.refl w.sub) (.int _)⟩
    · cases hz
  · cases hz
    obtain ⟨v, rfl, r⟩ := rx.one
    obtain ⟨p, vs, rfl, hl, r⟩ := r.l w.sub
    exact ⟨_, vs.length, rfl, .inl ⟨vs, SqL.of hl, rfl⟩, by rw [r.length]; exact q _ F H (Px.refl w.sub) (.int _)⟩
  · cases hz
    obtain ⟨v, rfl, r⟩ := rx.one
    obtain ⟨p, vs, rfl, hl, r⟩ := r.tup w.sub
    exact ⟨_, vs.length, rfl, .inr ⟨vs, hl, rfl⟩, by rw [r.length]; exact q _ F H (Px.refl w.sub) (.int _)⟩
  · cases hz
def int1M : List D → Option D
  | [.int i] => some (.int i)
  | [.bl k] => some (.int (if k then 1 else 0))
  | _ => none
theorem rc_int1 : RC K (fun xs H Q => (∃ i, xs = [.int i] ∧ Q (.int i) H) ∨ ∃ k, xs = [.bl k] ∧ Q (.int (if k then 1 else 0)) H) int1M := by
  intro dk F H st vs ds z w rx hz Q q
  unfold int1M at hz
  split at hz
  · cases hz
    obtain ⟨v, rfl, r⟩ := rx.one
    cases r.int
    exact .inl ⟨_, rfl, q _ F H (Px.refl w.sub) (.int _)⟩
  · cases hz
    obtain ⟨v, rfl, r⟩ := rx.one
    cases r.bl
    exact .inr ⟨_, rfl, q _ F H (Px.refl w.sub) (.int _)⟩
  · cases hz
def absM : List D → Option D
  | [.int i] => some (.int (if i < 0 then -i else i))
  | _ => none
theorem rc_abs : RC K (fun xs H Q => ∃ i, xs = [.int i] ∧ Q (.int (if i < 0 then -i else i)) H) absM := by
  intro dk F H st vs ds z w rx hz Q q
  unfold absM at hz
  split at hz
  · cases hz
    obtain ⟨v, rfl, r⟩ := rx.one
    cases r.int
    exact ⟨_, rfl, q _ F H (Px.refl w.sub) (.int _)⟩
  · cases hz
/-! lists of ints, of texts -/
def intsOf : List D → Option (List Int)
  | [] => some []
  | .int i :: r => (intsOf r).map (i :: ·)
  | _ => none
def strsOf : List D → Option (List Str)
  | [] => some []
  | .str i :: r => (strsOf r).map (i :: ·)
  | _ => none
theorem Rps.ints : ∀ {vs : List V} {ds : List D} {ns : List Int}, Rps K dk F vs ds → intsOf ds = some ns → vs = ns.map V.int
  | _, _, _, .nil, h => by cases h; rfl
  | _, _, _, .cons a b, h => by
    rename_i d ds
    cases d with
    | int i =>
      obtain ⟨ms, h1, h2⟩ := mpd (f := (i :: ·)) h
      cases h2
      cases a
      rw [Rps.ints b h1]
      rfl
    | _ => cases h
theorem Rps.strs : ∀ {vs : List V} {ds : List D} {ns : List Str}, Rps K dk F vs ds → strsOf ds = some ns → vs = ns.map V.str
  | _, _, _, .nil, h => by cases h; rfl
  | _, _, _, .cons a b, h => by
    rename_i d ds
    cases d with
    | str i =>
      obtain ⟨ms, h1, h2⟩ := mpd (f := (i :: ·)) h
      cases h2
      cases a
      rw [Rps.strs b h1]
      rfl
    | _ => cases h
def sumM : List D → Option D
  | [.lst ds] => (intsOf ds).map fun ns => .int ns.sum
  | _ => none
theorem rc_sum : RC K (rSum K) sumM := by
  intro dk F H st vs ds z w rx hz Q q
  unfold sumM at hz
  split at hz
  · obtain ⟨ns, h1, rfl⟩ := mpd hz
    obtain ⟨v, rfl, r⟩ := rx.one
    obtain ⟨p, vs, rfl, hl, r⟩ := r.l w.sub
    cases r.ints h1
    exact ⟨p, ns, rfl, SqL.of hl, q _ F H (Px.refl w.sub) (.int _)⟩
  · cases hz
def topI : List Int → Int
  | [] => 0
  | [x] => x
  | x :: y :: r => if topI (y :: r) > x then topI (y :: r) else x
def botI : List Int → Int
  | [] => 0
  | [x] => x
  | x :: y :: r => if botI (y :: r) < x then botI (y :: r) else x
theorem topI_spec : ∀ (l : List Int), l ≠ [] → topI l ∈ l ∧ ∀ y ∈ l, y ≤ topI l
  | [], h => absurd rfl h
  | [x], _ => ⟨by simp [topI], fun y hy => by simp at hy; simp [topI, hy]⟩
  | x :: y :: r, _ => by
    obtain ⟨h1, h2⟩ := topI_spec (y :: r) (by simp)
    unfold topI
    split
    · rename_i hc
      refine ⟨List.mem_cons_of_mem _ h1, fun z hz => ?_⟩
      rcases List.mem_cons.mp hz with e | e
      · subst e; omega
      · exact h2 z e
    · rename_i hc
      refine ⟨List.mem_cons_self, fun z hz => ?_⟩
      rcases List.mem_cons.mp hz with e | e
      · subst e; omega
      · have := h2 z e; omega
theorem botI_spec : ∀ (l : List Int), l ≠ [] → botI l ∈ l ∧ ∀ y ∈ l, botI l ≤ y
  | [], h => absurd rfl h
  | [x], _ => ⟨by simp [botI], fun y hy => by simp at hy; simp [botI, hy]⟩
  | x :: y :: r, _ => by
    obtain ⟨h1, h2⟩ := botI_spec (y :: r) (by simp)
    unfold botI
    split
    · rename_i hc
      refine ⟨List.mem_cons_of_mem _ h1, fun z hz => ?_⟩
      rcases List.mem_cons.mp hz with e | e
      · subst e; omega
      · exact h2 z e
    · rename_i hc
      refine ⟨List.mem_cons_self, fun z hz => ?_⟩
      rcases List.mem_cons.mp hz with e | e
      · subst e; omega
      · have := h2 z e; omega
def maxM : List D → Option D
  | [.lst (d :: ds)] => (intsOf (d :: ds)).map fun ns => .int (topI ns)
  | _ => none
def minM : List D → Option D
  | [.lst (d :: ds)] => (intsOf (d :: ds)).map fun ns => .int (botI ns)
  | _ => none
theorem intsOf_len : ∀ {ds : List D} {ns : List Int}, intsOf ds = some ns → ns.length = ds.length
  | [], _, h => by cases h; rfl
  | d :: ds, ns, h => by
    cases d with
    | int i =>
      obtain ⟨ms, h1, h2⟩ := mpd (f := (i :: ·)) h
      cases h2
      simp [intsOf_len h1]
    | _ => cases h
theorem rc_max : RC K (rMax K) maxM := by
  intro dk F H st vs ds z w rx hz Q q
  unfold maxM at hz
  split at hz
  · obtain ⟨ns, h1, rfl⟩ := mpd hz
    obtain ⟨v, rfl, r⟩ := rx.one
    obtain ⟨p, vs, rfl, hl, r⟩ := r.l w.sub
    cases r.ints h1
    have hn := intsOf_len h1
    simp at hn
    obtain ⟨t1, t2⟩ := topI_spec ns (fun z => by rw [z] at hn; cases hn)
    refine ⟨p, ns, rfl, SqL.of hl, by omega, fun m hm hy => ?_⟩
    have e : m = topI ns := by have := t2 m hm; have := hy _ t1; omega
    rw [e]
    exact q _ F H (Px.refl w.sub) (.int _)
  · cases hz
theorem rc_min : RC K (rMin K) minM := by
  intro dk F H st vs ds z w rx hz Q q
  unfold minM at hz
  split at hz
  · obtain ⟨ns, h1, rfl⟩ := mpd hz
    obtain ⟨v, rfl, r⟩ := rx.one
    obtain ⟨p, vs, rfl, hl, r⟩ := r.l w.sub
    cases r.ints h1
    have hn := intsOf_len h1
    simp at hn
    obtain ⟨t1, t2⟩ := botI_spec ns (fun z => by rw [z] at hn; cases hn)
    refine ⟨p, ns, rfl, SqL.of hl, by omega, fun m hm hy => ?_⟩
    have e : m = botI ns := by have := t2 m hm; have := hy _ t1; omega
    rw [e]
    exact q _ F H (Px.refl w.sub) (.int _)
  · cases hz
/-! tuple(..) -/
def tupOfM : List D → Option D
  | [.lst ds] => some (.tup ds)
  | [.tup ds] => some (.tup ds)
  | _ => none
theorem rc_tupOf : RC K (fun xs H Q => ∃ p ys, xs = [.ref p] ∧ ((SqL K H p ys ∧ ∀ l, H l = none → Q (.ref l) (upd H l (.tup ys))) ∨ (SqT K H p ys ∧ Q (.ref p) H))) tupOfM := by
  intro dk F H st vs ds z w rx hz Q q
  unfold tupOfM at hz
  split at hz
  · cases hz
    obtain ⟨v, rfl, r⟩ := rx.one
    obtain ⟨p, vs, rfl, hl, r⟩ := r.l w.sub
    refine ⟨p, vs, rfl, .inl ⟨SqL.of hl, fun a ha => ?_⟩⟩
    have px : Px F H (Fz.up F a (.tup vs)) (upd H a (.tup vs)) := Px.new w.sub ha
    exact q _ _ _ px (.tup (SqT.of Fz.up_same) (r.mono px.f))
  · cases hz
    obtain ⟨v, rfl, r⟩ := rx.one
    obtain ⟨p, vs, rfl, hl, r'⟩ := r.tup w.sub
    refine ⟨p, vs, rfl, .inr ⟨hl, ?_⟩⟩
    exact q _ F H (Px.refl w.sub) r.tp
  · cases hz
/-- the signs of a text -/
def signs (x : Str) : List Str := x.cps.toList.map fun c => ⟨#[c]⟩
def tupStrM : List D → Option D
  | [.str x] => if x.cps.size ≤ sizeLine then some (.tup ((signs x).map D.str)) else none
  | _ => none
theorem Rps.ofStrs : ∀ (xs : List Str), Rps K dk F (xs.map V.str) (xs.map D.str)
  | [] => .nil
  | x :: xs => .cons (.str x) (Rps.ofStrs xs)
theorem Rps.ofInts : ∀ (xs : List Int), Rps K dk F (xs.map V.int) (xs.map D.int)
  | [] => .nil
  | x :: xs => .cons (.int x) (Rps.ofInts xs)
theorem call_tupStr {X : Cx} (hc : X.calm = true) : CallR X (.type "tuple") (fun xs H Q => ∃ x, xs = [.str x] ∧ x.cps.size ≤ sizeLine ∧ ∀ p, H p = none → Q (.ref p) (upd H p (.tup ((signs x).map V.str)))) := by
  intro pins s σ H xs us Q I rs h
  obtain ⟨x, rfl, hz, q⟩ := h
  obtain ⟨u, rfl, rx⟩ := vals1 rs
  obtain ⟨t, rfl⟩ := rx
  refine call_tuple_str (I.ok.hd hc) x t (fun h' tk acc hk hi => ?_) hz
  have I' : Inv X pins σ H { s with heap := h', toks := tk } := I.kept (t' := tk) hk
  have lenA : acc.toList.length = (signs x).length := by
    unfold signs
    rw [List.length_map, Array.length_toList, Array.length_toList]
    exact hi.1
  have vals : Vals ((signs x).map V.str) acc.toList := by
    have key : ∀ (l : List Value) (m : List Nat), l.length = m.length → (∀ (j : Nat) (v : Value), l[j]? = some v → ∃ c u, m[j]? = some c ∧ v = .str ⟨#[c]⟩ u) → Vals ((m.map fun c => (⟨#[c]⟩ : Str)).map V.str) l := by
      intro l
      induction l with
      | nil => intro m hm _; cases m with
        | nil => exact .nil
        | cons _ _ => cases hm
      | cons a l ih => intro m hm hj; cases m with
        | nil => cases hm
        | cons c m =>
          obtain ⟨c', u, e1, e2⟩ := hj 0 a rfl
          have e1' : c = c' := Option.some.inj e1
          subst e1' e2
          exact .cons ⟨u, rfl⟩ (ih m (by simpa using hm) fun j v hv => hj (j + 1) v hv)
    refine key acc.toList x.cps.toList (by simpa [signs] using lenA) fun j v hv => ?_
    obtain ⟨c, u, h1, h2⟩ := hi.2 j v (by simpa using hv)
    exact ⟨c, u, by simpa using h1, h2⟩
  have hf : H h'.objs.size = none := I'.hok.fresh (Nat.le_refl _)
  refine ⟨.ref h'.objs.size, upd H h'.objs.size (.tup ((signs x).map V.str)), I'.laid (t' := tk) (fun b o e => Heap.get?_push_of_some _ e) (Nat.le_refl _) ?_, rfl, q _ hf⟩
  refine ⟨?_, acc.toList, vals, ⟨_, Heap.get?_push_size _ rfl, rfl, _, rfl⟩⟩
  rw [List.length_map]
  unfold signs
  rw [List.length_map, Array.length_toList]
  exact hz
theorem rc_tupStr : RC K (fun xs H Q => ∃ x, xs = [.str x] ∧ x.cps.size ≤ sizeLine ∧ ∀ p, H p = none → Q (.ref p) (upd H p (.tup ((signs x).map V.str)))) tupStrM := by
  intro dk F H st vs ds z w rx hz Q q
  unfold tupStrM at hz
  split at hz
  · rename_i y
    split at hz
    · rename_i ho
      cases hz
      obtain ⟨v, rfl, r⟩ := rx.one
      cases r.str
      refine ⟨_, rfl, ho, fun a ha => ?_⟩
      have px : Px F H (Fz.up F a (.tup ((signs y).map V.str))) (upd H a (.tup ((signs y).map V.str))) := Px.new w.sub ha
      exact q _ _ _ px (.tup (SqT.of Fz.up_same) (Rps.ofStrs _))
    · cases hz
  · cases hz
end
end MD

set_option Elab.async false
set_option linter.all false
set_option maxRecDepth 100000
set_option maxHeartbeats 1000000
namespace MD
open PySem L2

section
variable {K : Fg} {dk : Dk} {F F' F0 : Fz} {H H' H0 : Hp} {σ : L2.St} {env : Sg} {st : S}
/-! ### methods of built-in kinds -/
def RM (K : Fg) (r : V → List V → Hp → VK → Prop) (f : D → List D → Option D) : Prop := ∀ (dk : Dk) (F : Fz) (H : Hp) (st : S) (x : V) (d : D) (vs : List V) (ds : List D) (z : D), Wd K dk F H st → Rw K dk F H x d → Rws K dk F H vs ds → f d ds = some z →
  ∀ Q : VK, (∀ v F' H', Px F H F' H' → Rp K dk F' v z → Q v H') → r x vs H Q
def isStrD : D → Bool
  | .str _ => true
  | _ => false
def isLstD : D → Bool
  | .lst _ => true
  | _ => false
def m1M (f : D → List D → Option D) (fo fe : ME) : ME := fun env st => (fo env st).bind fun p => if isStrD p.1 then (fe env p.2).bind fun q => (f p.1 [dr q.2 q.1]).map fun z => (z, q.2) else none
theorem im_m1 {r : V → List V → Hp → VK → Prop} {f : D → List D → Option D} {to te : TE} {fo fe : ME} (hr : RM K r f) (ho : ImW K to fo) (he : ImW K te fe) : Im K (tM1 r to te) (m1M f fo fe) := fun dk H0 F0 F σ H env st d st' g e Q q => by
  obtain ⟨⟨x, s1⟩, h1, e⟩ := bnd e
  split at e
  · rename_i hs
    obtain ⟨⟨y, s2⟩, h2, e⟩ := bnd e
    obtain ⟨z, h3, e⟩ := mpd e
    cases e
    refine ho dk H0 F0 F σ H env st x s1 g h1 _ fun v F1 H1 x1 g1 r1 => ⟨?_, ?_⟩
    · have hs' : isStrD x = true := hs
      cases x <;> first | exact ⟨_, r1.w.str⟩ | cases hs'
    · refine he dk H0 F0 F1 σ H1 env s1 y s2 g1 h2 _ fun u F2 H2 x2 g2 r2 => ?_
      exact hr dk F2 H2 s2 v x [u] [dr s2 y] d g2.wd (r1.ext x2).w (.cons (r2.dr g2.wd) .nil) h3 Q fun w F3 H3 px r3 => q w F3 H3 ((x1.trans x2).trans px.ext) (g2.px px) r3
  · cases e
def bmL (f : D → List D → Option D) (fo : ME) (fa : MA) : ME := fun env st => (fo env st).bind fun p => if isLstD (dr p.2 p.1) then (fa env p.2).bind fun q => (f (dr q.2 p.1) (q.1.map (dr q.2))).map fun z => (z, q.2) else none
theorem im_bmL {r : V → List V → Hp → VK → Prop} {f : D → List D → Option D} {to : TE} {ta : TA} {fo : ME} {fa : MA} (hr : RM K r f) (ho : ImW K to fo) (ha : ImAW K ta fa) : Im K (tBM K "list" r to ta) (bmL f fo fa) := fun dk H0 F0 F σ H env st d st' g e Q q => by
  obtain ⟨⟨x, s1⟩, h1, e⟩ := bnd e
  split at e
  · rename_i hs
    obtain ⟨⟨y, s2⟩, h2, e⟩ := bnd e
    obtain ⟨z, h3, e⟩ := mpd e
    cases e
    refine ho dk H0 F0 F σ H env st x s1 g h1 _ fun v F1 H1 x1 g1 r1 => ⟨?_, ?_⟩
    · have hs' : isLstD (dr s1 x) = true := hs
      have r1' := r1.dr g1.wd
      generalize dr s1 x = x' at hs' r1'
      cases x' with
      | lst ds =>
        obtain ⟨p, vs, rfl, hl, r⟩ := r1'.l g1.wd.sub
        exact .inl ⟨rfl, vs, SqL.of hl⟩
      | _ => cases hs'
    · refine ha dk H0 F0 F1 σ H1 env s1 y s2 g1 h2 _ fun us F2 H2 x2 g2 r2 => ?_
      exact hr dk F2 H2 s2 v _ us _ d g2.wd ((r1.ext x2).dr g2.wd) (r2.dr g2.wd) h3 Q fun w F3 H3 px r3 => q w F3 H3 ((x1.trans x2).trans px.ext) (g2.px px) r3
  · cases e
/-- text.index(text) -/
def sindexM : D → List D → Option D
  | .str a, [.str b] => match Builtin.Str.occurrences a b 0 a.length 1 with
    | i :: _ => some (.int (i : Nat))
    | [] => none
  | _, _ => none
theorem rm_sindex : RM K (fun x xs H Q => ∃ a b i rest, x = .str a ∧ xs = [.str b] ∧ Builtin.Str.occurrences a b 0 a.length 1 = i :: rest ∧ Q (.int (i : Nat)) H) sindexM := by
  intro dk F H st x d vs ds z w rx rs hz Q q
  unfold sindexM at hz
  split at hz
  · split at hz
    · rename_i i rest ho
      cases hz
      obtain ⟨v, rfl, r⟩ := rs.one
      cases r.str
      exact ⟨_, _, i, rest, rx.str, rfl, ho, q _ F H (Px.refl w.sub) (.int _)⟩
    · cases hz
  · cases hz
/-- list.index(flat) -/
def lindexM : D → List D → Option D
  | .lst ys, [y] => if flatD y && ys.all flatD then (ys.findIdx? fun z => eqFD z y).map fun j => .int (j : Nat) else none
  | _, _ => none
theorem Rps.allFlat : ∀ {vs : List V} {ds : List D}, Rps K dk F vs ds → ds.all flatD = true → vs.all flatV = true
  | _, _, .nil, _ => rfl
  | _, _, .cons a b, p => by
    rw [List.all_cons, Bool.and_eq_true] at p
    rw [List.all_cons, a.flat p.1, Rps.allFlat b p.2]; rfl
theorem rm_lindex : RM K (rIndex K) lindexM := by
  intro dk F H st x d vs ds z w rx rs hz Q q
  unfold lindexM at hz
  split at hz
  · rename_i ys y
    split at hz
    · rename_i ho
      rw [Bool.and_eq_true] at ho
      obtain ⟨j, hj, rfl⟩ := mpd hz
      obtain ⟨v, rfl, r⟩ := rs.one
      obtain ⟨p, us, rfl, hl, r2⟩ := rx.l w.sub
      have rv := r.flat ho.1
      obtain ⟨hlt, hp, hm⟩ := List.findIdx?_eq_some_iff_getElem.mp hj
      have hat : ∀ (m : Nat) (z' : V), us[m]? = some z' → ∃ d', ys[m]? = some d' ∧ eqV z' v = eqFD d' y := fun m z' e => by
        obtain ⟨d', h1, h2⟩ := r2.getV e
        exact ⟨d', h1, h2.eqF rv (List.all_eq_true.mp ho.2 d' (List.mem_of_getElem? h1)) ho.1⟩
      obtain ⟨z', h1, h2⟩ := r2.get (i := j) (List.getElem?_eq_getElem hlt)
      refine ⟨p, us, v, j, z', rfl, rfl, SqL.of hl, rv.flat ho.1, r2.allFlat ho.2, h1, ?_, fun m z'' hlt' e => ?_, q _ F H (Px.refl w.sub) (.int _)⟩
      · obtain ⟨d', h3, h4⟩ := hat j z' h1
        rw [List.getElem?_eq_getElem hlt] at h3
        cases h3
        rw [h4]; exact hp
      · obtain ⟨d', h3, h4⟩ := hat m z'' e
        rw [h4]
        have hml : m < ys.length := Nat.lt_trans hlt' hlt
        rw [List.getElem?_eq_getElem hml] at h3
        cases h3
        have := hm m hlt'
        simpa using this
    · cases hz
  · cases hz
/-- text.join(list or tuple of texts) -/
def joinM : D → List D → Option D
  | .str a, [.lst ds] => (strsOf ds).bind fun ys => if (ys.map (·.length)).sum + ys.length * a.length ≤ 16777216 then some (.str (Txt.join a ys)) else none
  | .str a, [.tup ds] => (strsOf ds).bind fun ys => if (ys.map (·.length)).sum + ys.length * a.length ≤ 16777216 then some (.str (Txt.join a ys)) else none
  | _, _ => none
theorem rm_join : RM K (fun x xs H Q => ∃ a p, ∃ ys : List Str, x = .str a ∧ xs = [.ref p] ∧ (SqL K H p (ys.map V.str) ∨ SqT K H p (ys.map V.str)) ∧
    (ys.map (·.length)).sum + ys.length * a.length ≤ 16777216 ∧ Q (.str (Txt.join a ys)) H) joinM := by
  intro dk F H st x d vs ds z w rx rs hz Q q
  unfold joinM at hz
  split at hz
  · obtain ⟨ys, h1, hz⟩ := bnd hz
    split at hz
    · rename_i ho
      cases hz
      obtain ⟨v, rfl, r⟩ := rs.one
      obtain ⟨p, us, rfl, hl, r2⟩ := r.l w.sub
      cases r2.strs h1
      exact ⟨_, p, ys, rx.str, rfl, .inl (SqL.of hl), ho, q _ F H (Px.refl w.sub) (.str _)⟩
    · cases hz
  · obtain ⟨ys, h1, hz⟩ := bnd hz
    split at hz
    · rename_i ho
      cases hz
      obtain ⟨v, rfl, r⟩ := rs.one
      obtain ⟨p, us, rfl, hl, r2⟩ := r.tup w.sub
      cases r2.strs h1
      exact ⟨_, p, ys, rx.str, rfl, .inr hl, ho, q _ F H (Px.refl w.sub) (.str _)⟩
    · cases hz
  · cases hz

/-! ### repr -/
mutual
theorem Dp.noDict : ∀ {v : V} {d : PyData}, Dp K H v d → d.hasDict = false
  | _, _, .non => rfl
  | _, _, .bl _ => rfl
  | _, _, .int _ => rfl
  | _, _, .str _ => rfl
  | _, _, .lst _ r => by rw [PyData.hasDict]; exact Dp.noDictAll r
  | _, _, .tup _ r => by rw [PyData.hasDict]; exact Dp.noDictAll r
theorem Dp.noDictAll : ∀ {vs : List V} {ds : List PyData}, DpAll K H vs ds → PyData.hasDictAll ds = false
  | _, _, .nil => rfl
  | _, _, .cons a b => by rw [PyData.hasDictAll, Dp.noDict a, Dp.noDictAll b]; rfl
end
def rRepr (K : Fg) : List V → Hp → VK → Prop := fun xs H Q => ∃ x d, xs = [x] ∧ Dp K H x d ∧ d.showable = true ∧ d.depth ≤ 60 ∧ d.shown.length ≤ sizeLine ∧ Q (.str d.shown) H
theorem call_reprD {X : Cx} (hg : X.A.guards = some []) (hu : X.A.units + 64 < cLine) : CallR X (.builtin "repr") (rRepr X.K) := by
  intro pins s σ H xs us Q I rs h
  obtain ⟨x, d, rfl, hd, hs, hdp, hz, q⟩ := h
  obtain ⟨u, rfl, rx⟩ := vals1 rs
  cases id hd with
  | non => cases rx; exact PySem.P.repr_of_none ⟨.str _, H, I.tok _, ⟨_, rfl⟩, q⟩
  | bl b => cases rx; exact PySem.P.repr_of_bool ⟨.str _, H, I.tok _, ⟨_, rfl⟩, q⟩
  | int i =>
    obtain ⟨t, rfl⟩ := rx
    exact PySem.P.repr_of_int (by simpa [PyData.showable] using hs) ⟨.str _, H, I.tok _, ⟨_, rfl⟩, q⟩
  | str y =>
    obtain ⟨t, rfl⟩ := rx
    exact PySem.P.repr_of_str ⟨.str _, H, I.tok _, ⟨_, rfl⟩, q⟩ hz
  | lst h1 h2 =>
    cases rx
    obtain ⟨as, hr⟩ := Dp.reads I _ _ _ hd rfl
    exact repr_of_reads' hr hs (fun z => by rw [Dp.noDict hd] at z; cases z) hg (by omega) (fun _ _ e => e) (fun h' u tk hk => ⟨.str _, H, I.kept hk, ⟨_, rfl⟩, q⟩) hz
  | tup h1 h2 =>
    cases rx
    obtain ⟨as, hr⟩ := Dp.reads I _ _ _ hd rfl
    exact repr_of_reads' hr hs (fun z => by rw [Dp.noDict hd] at z; cases z) hg (by omega) (fun _ _ e => e) (fun h' u tk hk => ⟨.str _, H, I.kept hk, ⟨_, rfl⟩, q⟩) hz
def reprM : List D → Option D
  | [d] => if d.pl && d.py.showable && decide (d.py.depth ≤ 60) && decide (d.py.shown.length ≤ sizeLine) then some (.str d.py.shown) else none
  | _ => none
theorem rc_repr : RC K (rRepr K) reprM := by
  intro dk F H st vs ds z w rx hz Q q
  unfold reprM at hz
  split at hz
  · split at hz
    · rename_i ho
      cases hz
      simp only [Bool.and_eq_true, decide_eq_true_eq] at ho
      obtain ⟨v, rfl, r⟩ := rx.one
      exact ⟨v, _, rfl, r.dp w.sub ho.1.1.1, ho.1.1.2, ho.1.2, ho.2, q _ F H (Px.refl w.sub) (.str _)⟩
    · cases hz
  · cases hz
def strIntM : List D → Option D
  | [.int i] => if i.natAbs.log2 < 1920 then some (.str (toString i)) else none
  | _ => none
theorem rc_strInt : RC K (fun xs H Q => ∃ i, xs = [.int i] ∧ i.natAbs.log2 < 1920 ∧ Q (.str (toString i)) H) strIntM := by
  intro dk F H st vs ds z w rx hz Q q
  unfold strIntM at hz
  split at hz
  · split at hz
    · rename_i ho
      cases hz
      obtain ⟨v, rfl, r⟩ := rx.one
      cases r.int
      exact ⟨_, rfl, ho, q _ F H (Px.refl w.sub) (.str _)⟩
    · cases hz
  · cases hz

/-! ### one-place operations -/
def unI (g : Int → D) : D → Option D
  | .int i => some (g i)
  | _ => none
def unM (f : D → Option D) (fa : ME) : ME := fun env st => (fa env st).bind fun p => (f p.1).map fun z => (z, p.2)
theorem im_neg {ta : TE} {fa : ME} (h : ImW K ta fa) : Im K (tUn (rU fun i => .int (-i)) ta) (unM (unI fun i => .int (-i)) fa) := fun dk H0 F0 F σ H env st d st' g e Q q => by
  obtain ⟨⟨x, s1⟩, h1, e⟩ := bnd e
  obtain ⟨z, h2, e⟩ := mpd e
  cases e
  refine h dk H0 F0 F σ H env st x s1 g h1 _ fun v F1 H1 x1 g1 r1 => ?_
  replace h2 : unI (fun i => .int (-i)) x = some d := h2
  unfold unI at h2
  split at h2
  · cases h2
    cases r1.w.int
    exact ⟨_, rfl, q _ F1 H1 x1 g1 (.int _)⟩
  · cases h2

/-! ### tests -/
def blOf : D → Option Bool
  | .bl b => some b
  | _ => none
def tstM (f : ME) : MT := fun env st => (f env st).bind fun p => (blOf p.1).map fun b => (b, p.2)
theorem blOf_eq {d : D} {b : Bool} (h : blOf d = some b) : d = .bl b := by
  cases d <;> first | (cases h; rfl) | cases h
theorem it_test {te : TE} {f : ME} (h : Im K te f) : ImT K (tTest te) (tstM f) := fun dk H0 F0 F σ H env st b st' g e Q q => by
  obtain ⟨⟨x, s1⟩, h1, e⟩ := bnd e
  obtain ⟨z, h2, e⟩ := mpd e
  cases e
  refine h dk H0 F0 F σ H env st x s1 g h1 _ fun v F1 H1 x1 g1 r1 => ?_
  cases blOf_eq h2
  cases r1
  exact ⟨_, rfl, q F1 H1 x1 g1⟩
/-- truth of any value -/
def truD : D → Option Bool
  | .non => some false
  | .bl b => some b
  | .int i => some (i != 0)
  | .str y => if y.length ≤ sizeLine then some ((y.length : Int) != 0) else none
  | .lst ds => some (!ds.isEmpty)
  | .tup ds => some (!ds.isEmpty)
  | _ => none
def truM (f : ME) : MT := fun env st => (f env st).bind fun p => (truD (dr p.2 p.1)).map fun b => (b, p.2)
theorem Rps.empty {vs : List V} {ds : List D} (r : Rps K dk F vs ds) : vs.isEmpty = ds.isEmpty := by cases r <;> rfl
theorem it_truth {te : TE} {f : ME} (h : ImW K te f) : ImT K (fun σ H Q => te σ H fun x H' => ∃ k, TruV K x H' k ∧ Q k H') (truM f) := fun dk H0 F0 F σ H env st b st' g e Q q => by
  obtain ⟨⟨x, s1⟩, h1, e⟩ := bnd e
  obtain ⟨z, h2, e⟩ := mpd e
  cases e
  refine h dk H0 F0 F σ H env st x s1 g h1 _ fun v F1 H1 x1 g1 r1 => ⟨b, ?_, q F1 H1 x1 g1⟩
  replace h2 : truD (dr _ x) = some b := h2
  have r2 := r1.dr g1.wd
  generalize dr _ x = x' at h2 r2
  unfold truD at h2
  split at h2
  · cases h2; cases r2.non; rfl
  · cases h2; cases r2.bl; rfl
  · cases h2; cases r2.int; rfl
  · split at h2
    · rename_i ho
      cases h2; cases r2.str; exact ⟨ho, rfl⟩
    · cases h2
  · cases h2
    obtain ⟨p, vs, rfl, hl, r⟩ := r2.l g1.wd.sub
    exact .inl ⟨vs, SqL.of hl, by rw [r.empty]⟩
  · cases h2
    obtain ⟨p, vs, rfl, hl, r⟩ := r2.tup g1.wd.sub
    exact .inr (.inl ⟨vs, hl, by rw [r.empty]⟩)
  · cases h2
def andM (f h : MT) : MT := fun env st => (f env st).bind fun p => if p.1 then h env p.2 else some (false, p.2)
def orM (f h : MT) : MT := fun env st => (f env st).bind fun p => if p.1 then some (true, p.2) else h env p.2
def notM (f : MT) : MT := fun env st => (f env st).map fun p => (!p.1, p.2)
theorem it_and {t u : TT} {f h : MT} (h1 : ImT K t f) (h2 : ImT K u h) : ImT K (tAnd t u) (andM f h) := fun dk H0 F0 F σ H env st b st' g e Q q => by
  obtain ⟨⟨x, s1⟩, e1, e⟩ := bnd e
  refine h1 dk H0 F0 F σ H env st x s1 g e1 _ fun F1 H1 x1 g1 => ?_
  cases x with
  | true => exact h2 dk H0 F0 F1 σ H1 env s1 b st' g1 e Q fun F2 H2 x2 g2 => q F2 H2 (x1.trans x2) g2
  | false => cases e; exact q F1 H1 x1 g1
theorem it_or {t u : TT} {f h : MT} (h1 : ImT K t f) (h2 : ImT K u h) : ImT K (tOr t u) (orM f h) := fun dk H0 F0 F σ H env st b st' g e Q q => by
  obtain ⟨⟨x, s1⟩, e1, e⟩ := bnd e
  refine h1 dk H0 F0 F σ H env st x s1 g e1 _ fun F1 H1 x1 g1 => ?_
  cases x with
  | false => exact h2 dk H0 F0 F1 σ H1 env s1 b st' g1 e Q fun F2 H2 x2 g2 => q F2 H2 (x1.trans x2) g2
  | true => cases e; exact q F1 H1 x1 g1
theorem it_not {t : TT} {f : MT} (h1 : ImT K t f) : ImT K (tNot t) (notM f) := fun dk H0 F0 F σ H env st b st' g e Q q => by
  obtain ⟨⟨x, s1⟩, e1, e⟩ := mpd e
  cases e
  exact h1 dk H0 F0 F σ H env st x s1 g e1 _ fun F1 H1 x1 g1 => q F1 H1 x1 g1
/-! as values -/
def andV (f h : ME) : ME := fun env st => (f env st).bind fun p => (blOf p.1).bind fun b => if b then h env p.2 else some (.bl false, p.2)
def orV (f h : ME) : ME := fun env st => (f env st).bind fun p => (blOf p.1).bind fun b => if b then some (.bl true, p.2) else h env p.2
def notV (f : ME) : ME := fun env st => (f env st).bind fun p => (blOf p.1).map fun b => (.bl (!b), p.2)
theorem im_andV {t u : TE} {f h : ME} (h1 : Im K t f) (h2 : Im K u h) : Im K (tAndV t u) (andV f h) := fun dk H0 F0 F σ H env st d st' g e Q q => by
  obtain ⟨⟨x, s1⟩, e1, e⟩ := bnd e
  obtain ⟨b, e2, e⟩ := bnd e
  refine h1 dk H0 F0 F σ H env st x s1 g e1 _ fun v F1 H1 x1 g1 r1 => ?_
  cases blOf_eq e2
  cases r1
  refine ⟨b, rfl, ?_⟩
  cases b with
  | true => exact h2 dk H0 F0 F1 σ H1 env s1 d st' g1 e Q fun v F2 H2 x2 g2 r2 => q v F2 H2 (x1.trans x2) g2 r2
  | false => cases e; exact q _ F1 H1 x1 g1 (.bl false)
theorem im_orV {t u : TE} {f h : ME} (h1 : Im K t f) (h2 : Im K u h) : Im K (tOrV t u) (orV f h) := fun dk H0 F0 F σ H env st d st' g e Q q => by
  obtain ⟨⟨x, s1⟩, e1, e⟩ := bnd e
  obtain ⟨b, e2, e⟩ := bnd e
  refine h1 dk H0 F0 F σ H env st x s1 g e1 _ fun v F1 H1 x1 g1 r1 => ?_
  cases blOf_eq e2
  cases r1
  refine ⟨b, rfl, ?_⟩
  cases b with
  | false => exact h2 dk H0 F0 F1 σ H1 env s1 d st' g1 e Q fun v F2 H2 x2 g2 r2 => q v F2 H2 (x1.trans x2) g2 r2
  | true => cases e; exact q _ F1 H1 x1 g1 (.bl true)
theorem im_notV {t : TE} {f : ME} (h1 : Im K t f) : Im K (tNotV t) (notV f) := fun dk H0 F0 F σ H env st d st' g e Q q => by
  obtain ⟨⟨x, s1⟩, e1, e⟩ := bnd e
  obtain ⟨b, e2, e⟩ := mpd e
  cases e
  refine h1 dk H0 F0 F σ H env st x s1 g e1 _ fun v F1 H1 x1 g1 r1 => ?_
  cases blOf_eq e2
  cases r1
  exact ⟨b, rfl, q _ F1 H1 x1 g1 (.bl _)⟩
def ifM (c : MT) (f h : ME) : ME := fun env st => (c env st).bind fun p => if p.1 then f env p.2 else h env p.2
theorem im_if {t : TT} {ta tb : TE} {c : MT} {f h : ME} (h0 : ImT K t c) (h1 : Im K ta f) (h2 : Im K tb h) : Im K (tIf t ta tb) (ifM c f h) := fun dk H0 F0 F σ H env st d st' g e Q q => by
  obtain ⟨⟨x, s1⟩, e1, e⟩ := bnd e
  refine h0 dk H0 F0 F σ H env st x s1 g e1 _ fun F1 H1 x1 g1 => ?_
  cases x with
  | true => exact h1 dk H0 F0 F1 σ H1 env s1 d st' g1 e Q fun v F2 H2 x2 g2 r2 => q v F2 H2 (x1.trans x2) g2 r2
  | false => exact h2 dk H0 F0 F1 σ H1 env s1 d st' g1 e Q fun v F2 H2 x2 g2 r2 => q v F2 H2 (x1.trans x2) g2 r2
/-- a op b op' c -/
def chM (f f' : D → D → Option D) (fa fb fc : ME) : ME := fun env st => (fa env st).bind fun p => (fb env p.2).bind fun q => (f p.1 q.1).bind fun z => (blOf z).bind fun b =>
  if b then (fc env q.2).bind fun r => (f' q.1 r.1).map fun z => (z, r.2) else some (.bl false, q.2)
theorem im_chain {r r' : R2} {f f' : D → D → Option D} {ta tb tc : TE} {fa fb fc : ME} (hr : RO K r f) (hr' : RO K r' f') (ha : ImW K ta fa) (hb : ImW K tb fb) (hc : ImW K tc fc) : Im K (tChain r r' ta tb tc) (chM f f' fa fb fc) := fun dk H0 F0 F σ H env st d st' g e Q q => by
  obtain ⟨⟨x, s1⟩, h1, e⟩ := bnd e
  obtain ⟨⟨y, s2⟩, h2, e⟩ := bnd e
  obtain ⟨z, h3, e⟩ := bnd e
  obtain ⟨b, h4, e⟩ := bnd e
  refine ha dk H0 F0 F σ H env st x s1 g h1 _ fun v F1 H1 x1 g1 r1 => ?_
  refine hb dk H0 F0 F1 σ H1 env s1 y s2 g1 h2 _ fun u F2 H2 x2 g2 r2 => ?_
  refine hr dk F2 H2 s2 v u x y z g2.wd (r1.ext x2).w r2.w h3 _ fun w F3 H3 px r3 => ?_
  cases blOf_eq h4
  cases r3
  refine ⟨b, rfl, ?_⟩
  have g3 := g2.px px
  have x3 := (x1.trans x2).trans px.ext
  cases b with
  | false => cases e; exact q _ F3 H3 x3 g3 (.bl false)
  | true =>
    replace e : ((fc env s2).bind fun r => (f' y r.1).map fun z => (z, r.2)) = some (d, st') := e
    obtain ⟨⟨t, s4⟩, h5, e⟩ := bnd e
    obtain ⟨z', h6, e⟩ := mpd e
    cases e
    refine hc dk H0 F0 F3 σ H3 env s2 t s4 g3 h5 _ fun w' F4 H4 x4 g4 r4 => ?_
    exact hr' dk F4 H4 s4 u w' y t d g4.wd ((r2.ext px.ext).ext x4).w r4.w h6 Q fun v5 F5 H5 px5 r5 => q v5 F5 H5 ((x3.trans x4).trans px5.ext) (g4.px px5) r5
end
end MD

set_option Elab.async false
set_option linter.all false
set_option maxRecDepth 100000
set_option maxHeartbeats 1000000
namespace MD
open PySem L2

inductive Fl where
  | nx (env : Sg) | rt (d : D) | bk (env : Sg) | ct (env : Sg)
abbrev MS := Sg → S → Option (Fl × S)
def Dn (K : Fg) (dk : Dk) (H0 : Hp) (F0 F : Fz) (E : Ends) (st : S) : Fl → Prop
  | .nx env => ∀ F' σ H, Le F F' → Good K dk H0 F0 F' σ H env st → E.nx σ H
  | .bk env => ∀ F' σ H, Le F F' → Good K dk H0 F0 F' σ H env st → E.bk σ H
  | .ct env => ∀ F' σ H, Le F F' → Good K dk H0 F0 F' σ H env st → E.ct σ H
  | .rt d => ∀ v F' H, Ext dk F0 H0 F' H → Wd K dk F' H st → Rp K dk F' v d → E.rt v H
def ImS (K : Fg) (ts : TS) (f : MS) : Prop := ∀ (dk : Dk) (H0 : Hp) (F0 F : Fz) (σ : L2.St) (H : Hp) (env : Sg) (st : S) (fl : Fl) (st' : S), Good K dk H0 F0 F σ H env st → f env st = some (fl, st') → ∀ E : Ends, Dn K dk H0 F0 F E st' fl → ts E σ H
theorem Dn.mono {K : Fg} {dk : Dk} {H0 : Hp} {F0 F F' : Fz} {E : Ends} {st : S} {fl : Fl} (le : Le F F') (h : Dn K dk H0 F0 F E st fl) : Dn K dk H0 F0 F' E st fl := by
  cases fl with
  | nx e => exact fun F2 σ H l => h F2 σ H (le.trans l)
  | bk e => exact fun F2 σ H l => h F2 σ H (le.trans l)
  | ct e => exact fun F2 σ H l => h F2 σ H (le.trans l)
  | rt d => exact h

section
variable {K : Fg} {dk : Dk} {F F' F0 : Fz} {H H' H0 : Hp} {σ : L2.St} {env : Sg} {st : S}
/-! ### slots stored -/
theorem Good.set {i : Nat} {x : V} {d : D} (g : Good K dk H0 F0 F σ H env st) (r : Rp K dk F x d) : Good K dk H0 F0 F (σ.set i (some x)) H (env.set i (.val d)) st := by
  refine ⟨g.wd, g.ext, by rw [List.length_set, List.length_set]; exact g.len, fun j s e => ?_, fun j k ds es p hne e1 e2 e3 => ?_⟩
  · by_cases hj : i = j
    · subst hj
      by_cases hl : i < env.length
      · rw [List.getElem?_set_self hl] at e
        cases e
        rw [List.getElem?_set_self (by rw [g.len]; exact hl)]
        exact ⟨x, rfl, r⟩
      · rw [List.getElem?_eq_none (by rw [List.length_set]; omega)] at e
        cases e
    · rw [List.getElem?_set_ne hj] at e
      rw [List.getElem?_set_ne hj]
      exact g.sl j s e
  · have nj : i ≠ j := fun z => by
      subst z
      by_cases hl : i < env.length
      · rw [List.getElem?_set_self hl] at e1; cases e1
      · rw [List.getElem?_eq_none (by rw [List.length_set]; omega)] at e1; cases e1
    have nk : i ≠ k := fun z => by
      subst z
      by_cases hl : i < env.length
      · rw [List.getElem?_set_self hl] at e2; cases e2
      · rw [List.getElem?_eq_none (by rw [List.length_set]; omega)] at e2; cases e2
    rw [List.getElem?_set_ne nj] at e1 e3
    rw [List.getElem?_set_ne nk] at e2 ⊢
    exact g.dis j k ds es p hne e1 e2 e3
theorem Good.setO {i : Nat} {p : Addr} {vs : List V} {ds : Own} (g : Good K dk H0 F0 F σ H env st) (hp : ds.1.At H p vs) (fp : F.out p) (h0 : H0 p = none) (n1 : p ≠ dk.1) (n2 : p ≠ dk.2)
    (no : ∀ (j : Nat) (es : Own), env[j]? = some (.own es) → σ[j]? ≠ some (some (.ref p))) (r : Rps K dk F vs ds.2) : Good K dk H0 F0 F (σ.set i (some (.ref p))) H (env.set i (.own ds)) st := by
  refine ⟨g.wd, g.ext, by rw [List.length_set, List.length_set]; exact g.len, fun j s e => ?_, fun j k es es' q hne e1 e2 e3 => ?_⟩
  · by_cases hj : i = j
    · subst hj
      by_cases hl : i < env.length
      · rw [List.getElem?_set_self hl] at e
        cases e
        rw [List.getElem?_set_self (by rw [g.len]; exact hl)]
        exact ⟨p, vs, rfl, hp, fp, h0, n1, n2, r⟩
      · rw [List.getElem?_eq_none (by rw [List.length_set]; omega)] at e
        cases e
    · rw [List.getElem?_set_ne hj] at e
      rw [List.getElem?_set_ne hj]
      exact g.sl j s e
  · by_cases hj : i = j
    · subst hj
      have nk : i ≠ k := hne
      rw [List.getElem?_set_ne nk] at e2 ⊢
      by_cases hl : i < env.length
      · rw [List.getElem?_set_self (by rw [g.len]; exact hl)] at e3
        cases e3
        exact no k es' e2
      · rw [List.getElem?_eq_none (by rw [List.length_set]; omega)] at e1; cases e1
    · rw [List.getElem?_set_ne hj] at e1 e3
      by_cases hk : i = k
      · subst hk
        by_cases hl : i < env.length
        · rw [List.getElem?_set_self (by rw [g.len]; exact hl)]
          intro z
          cases z
          exact no j es e1 e3
        · rw [List.getElem?_eq_none (by rw [List.length_set]; omega)] at e2; cases e2
      · rw [List.getElem?_set_ne hk] at e2 ⊢
        exact g.dis j k es es' q hne e1 e2 e3
theorem Ow.At.nf {p : Addr} {o : HO} : ∀ {w : Ow} {vs : List V}, w.At (L2.upd H p o) p vs → ¬ Fro o
  | .lst, _, h => by
    have h : L2.upd H p o p = _ := h
    rw [upd_same] at h; cases h
    rintro ⟨_, _, z⟩; cases z
  | .dic _, _, h => by
    have h := h.1
    rw [upd_same] at h; cases h
    rintro ⟨_, _, z⟩; cases z
/-- a thing that is neither frozen nor in the store is changed -/
theorem Wd.upd {p : Addr} {o' : HO} (w : Wd K dk F H st) (fp : F.out p) (n1 : p ≠ dk.1) (n2 : p ≠ dk.2) : Wd K dk F (L2.upd H p o') st := by
  refine ⟨fun a u e => ?_, by rw [upd_ne n1.symm]; exact w.d1, by rw [upd_ne n2.symm]; exact w.d2, w.f1, w.f2, w.ne, w.ml, w.nd, fun n a u h1 h2 => ?_⟩
  · rw [upd_ne (ne_of_none e fp.1)]; exact w.sub a u e
  · obtain ⟨q1, q2⟩ := w.ob n a u h1 h2
    have na : a ≠ p := fun z => fp.2 (z ▸ List.mem_of_getElem? h1)
    exact ⟨q1, q2.keep (fun _ e => by rw [upd_ne na]; exact e) (Le.refl F)⟩
theorem Ext.upd {p : Addr} {o' : HO} (x : Ext dk F0 H0 F H) (h0 : H0 p = none) (nf : ¬ Fro o' := by rintro ⟨_, _, z⟩; cases z) : Ext dk F0 H0 F (L2.upd H p o') := by
  refine ⟨fun a o e n1 n2 n3 => ?_, x.f, x.n, fun a e z => ?_, x.u, fun a o e f => x.k a o (updK nf a o e f) f⟩
  · rw [upd_ne (ne_of_none e h0)]; exact x.h a o e n1 n2 n3
  · by_cases na : a = p
    · subst na; rw [upd_same] at z; cases z
    · rw [upd_ne na] at z; exact x.m a e z
/-- an own list is changed -/
theorem Good.mut {i : Nat} {p : Addr} {vs' : List V} {o' : HO} {ds ds' : Own} (g : Good K dk H0 F0 F σ H env st) (he : env[i]? = some (.own ds)) (hs : σ[i]? = some (some (.ref p))) (hw : ds'.1.At (upd H p o') p vs') (r : Rps K dk F vs' ds'.2) :
    Good K dk H0 F0 F σ (upd H p o') (env.set i (.own ds')) st := by
  obtain ⟨p', vs, h1, h2, h3, h4, h5, h6, h7⟩ := g.sl i _ he
  rw [hs] at h1
  have : p = p' := V.ref.inj (Option.some.inj h1)
  subst this
  have hil : i < env.length := by
    by_cases hl : i < env.length
    · exact hl
    · rw [List.getElem?_eq_none (by omega)] at he; cases he
  refine ⟨g.wd.upd h3 h5 h6, g.ext.upd h4 hw.nf, by rw [List.length_set]; exact g.len, fun j s e => ?_, fun j k es es' q hne e1 e2 e3 => ?_⟩
  · by_cases hj : i = j
    · subst hj
      rw [List.getElem?_set_self hil] at e
      cases e
      rw [hs]
      exact ⟨p, vs', rfl, hw, h3, h4, h5, h6, r⟩
    · rw [List.getElem?_set_ne hj] at e
      have q := g.sl j s e
      cases s with
      | un => trivial
      | val d => exact q
      | own es =>
        obtain ⟨p2, us, k1, k2, k3⟩ := q
        have np : p2 ≠ p := fun z => by
          subst z
          exact g.dis i j ds es p2 hj he e hs (join_eq k1)
        exact ⟨p2, us, k1, k2.keep fun o e => by rw [upd_ne np]; exact e, k3⟩
  · have back : ∀ (m : Nat) (zs : Own), (env.set i (.own ds'))[m]? = some (.own zs) → ∃ zs', env[m]? = some (.own zs') := fun m zs e => by
      by_cases hm : i = m
      · subst hm; exact ⟨ds, he⟩
      · rw [List.getElem?_set_ne hm] at e; exact ⟨zs, e⟩
    obtain ⟨z1, b1⟩ := back j es e1
    obtain ⟨z2, b2⟩ := back k es' e2
    exact g.dis j k z1 z2 q hne b1 b2 e3
/-- a thing that nobody knows of is changed -/
theorem Good.mutT {p : Addr} {o o' : HO} (g : Good K dk H0 F0 F σ H env st) (hp : H p = some o) (fp : F.out p) (h0 : H0 p = none) (n1 : p ≠ dk.1) (n2 : p ≠ dk.2)
    (no : ∀ (j : Nat) (es : Own), env[j]? = some (.own es) → σ[j]? ≠ some (some (.ref p))) (nf : ¬ Fro o' := by rintro ⟨_, _, z⟩; cases z) : Good K dk H0 F0 F σ (upd H p o') env st := by
  refine ⟨g.wd.upd fp n1 n2, g.ext.upd h0 nf, g.len, fun j s e => ?_, g.dis⟩
  · have q := g.sl j s e
    cases s with
    | un => trivial
    | val d => exact q
    | own es =>
      obtain ⟨p2, us, k1, k2, k3⟩ := q
      have np : p2 ≠ p := fun z => by
        subst z
        exact no j es e (join_eq k1)
      exact ⟨p2, us, k1, k2.keep fun o e => by rw [upd_ne np]; exact e, k3⟩
/-- other slots, no more known -/
theorem Good.reslot {σ' : L2.St} {env' : Sg} (g : Good K dk H0 F0 F σ H env st) (hl : σ'.length = env'.length) (h : ∀ (i : Nat) (s : Sl), env'[i]? = some s → s = .un ∨ (env[i]? = some s ∧ σ'[i]? = σ[i]?)) : Good K dk H0 F0 F σ' H env' st := by
  refine ⟨g.wd, g.ext, hl, fun i s e => ?_, fun i j ds es p hne e1 e2 e3 => ?_⟩
  · rcases h i s e with z | ⟨z1, z2⟩
    · subst z; trivial
    · rw [z2]; exact g.sl i s z1
  · rcases h i _ e1 with z | ⟨z1, z2⟩
    · cases z
    · rcases h j _ e2 with z | ⟨y1, y2⟩
      · cases z
      · rw [z2] at e3; rw [y2]; exact g.dis i j ds es p hne z1 y1 e3

/-! ### small statements -/
def nxM : MS := fun env st => some (.nx env, st)
theorem is_next : ImS K tNext nxM := fun dk H0 F0 F σ H env st fl st' g e E h => by
  cases e
  exact h F σ H (Le.refl F) g
def seqM (f h : MS) : MS := fun env st => (f env st).bind fun p => match p.1 with
  | .nx e => h e p.2
  | fl => some (fl, p.2)
theorem is_seq {t u : TS} {f h : MS} (h1 : ImS K t f) (h2 : ImS K u h) : ImS K (tSeq t u) (seqM f h) := fun dk H0 F0 F σ H env st fl st' g e E hd => by
  obtain ⟨⟨fl1, s1⟩, e1, e⟩ := bnd e
  cases fl1 with
  | nx env1 => exact h1 dk H0 F0 F σ H env st _ s1 g e1 _ fun F1 σ1 H1 le1 g1 => h2 dk H0 F0 F1 σ1 H1 env1 s1 fl st' g1 e E (hd.mono le1)
  | rt d => cases e; exact h1 dk H0 F0 F σ H env st _ s1 g e1 _ hd
  | bk d => cases e; exact h1 dk H0 F0 F σ H env st _ s1 g e1 _ hd
  | ct d => cases e; exact h1 dk H0 F0 F σ H env st _ s1 g e1 _ hd
def retM (f : ME) : MS := fun env st => (f env st).map fun p => (.rt p.1, p.2)
theorem is_ret {te : TE} {f : ME} (h : Im K te f) : ImS K (tRet te) (retM f) := fun dk H0 F0 F σ H env st fl st' g e E hd => by
  obtain ⟨⟨d, s1⟩, e1, e⟩ := mpd e
  cases e
  exact h dk H0 F0 F σ H env st d s1 g e1 _ fun v F1 H1 x1 g1 r1 => hd v F1 H1 g1.ext g1.wd r1
def retN : MS := fun env st => some (.rt .non, st)
theorem is_retN : ImS K tRetN retN := fun dk H0 F0 F σ H env st fl st' g e E hd => by
  cases e
  exact hd .non F H g.ext g.wd .non
def ifS (c : MT) (f h : MS) : MS := fun env st => (c env st).bind fun p => if p.1 then f env p.2 else h env p.2
theorem is_if {c : TT} {t u : TS} {fc : MT} {f h : MS} (h0 : ImT K c fc) (h1 : ImS K t f) (h2 : ImS K u h) : ImS K (tIfS c t u) (ifS fc f h) := fun dk H0 F0 F σ H env st fl st' g e E hd => by
  obtain ⟨⟨b, s1⟩, e1, e⟩ := bnd e
  refine h0 dk H0 F0 F σ H env st b s1 g e1 _ fun F1 H1 x1 g1 => ?_
  cases b with
  | true => exact h1 dk H0 F0 F1 σ H1 env s1 fl st' g1 e E (hd.mono x1.f)
  | false => exact h2 dk H0 F0 F1 σ H1 env s1 fl st' g1 e E (hd.mono x1.f)
def dropM (f : ME) : MS := fun env st => (f env st).map fun p => (.nx env, p.2)
theorem is_drop {te : TE} {f : ME} (h : Im K te f) : ImS K (tDrop te) (dropM f) := fun dk H0 F0 F σ H env st fl st' g e E hd => by
  obtain ⟨⟨d, s1⟩, e1, e⟩ := mpd e
  cases e
  exact h dk H0 F0 F σ H env st d s1 g e1 _ fun v F1 H1 x1 g1 r1 => hd F1 σ H1 x1.f g1
def bkM : MS := fun env st => some (.bk env, st)
def ctM : MS := fun env st => some (.ct env, st)
theorem is_break : ImS K tBreak bkM := fun dk H0 F0 F σ H env st fl st' g e E h => by
  cases e
  exact h F σ H (Le.refl F) g
theorem is_cont : ImS K tCont ctM := fun dk H0 F0 F σ H env st fl st' g e E h => by
  cases e
  exact h F σ H (Le.refl F) g

/-! ### targets -/
abbrev MG := D → Sg → Option Sg
structure Tg (is : List Nat) (σ σ' : L2.St) (env env' : Sg) : Prop where
  len : σ'.length = σ.length
  elen : env'.length = env.length
  same : ∀ (i : Nat), i ∉ is → σ'[i]? = σ[i]? ∧ env'[i]? = env[i]?
def ImG (K : Fg) (g : TG) (t : MG) (is : List Nat) : Prop := ∀ (dk : Dk) (H0 : Hp) (F0 F : Fz) (σ : L2.St) (H : Hp) (env : Sg) (st : S) (v : V) (d : D) (env' : Sg), Good K dk H0 F0 F σ H env st → Rp K dk F v d → t d env = some env' →
  ∀ Q : L2.St → Hp → Prop, (∀ σ', Good K dk H0 F0 F σ' H env' st → Tg is σ σ' env env' → Q σ' H) → g v σ H Q
def ImGs (K : Fg) (g : TGs) (t : List D → Sg → Option Sg) (is : List Nat) : Prop := ∀ (dk : Dk) (H0 : Hp) (F0 F : Fz) (σ : L2.St) (H : Hp) (env : Sg) (st : S) (vs : List V) (ds : List D) (env' : Sg), Good K dk H0 F0 F σ H env st → Rps K dk F vs ds → t ds env = some env' →
  ∀ Q : L2.St → Hp → Prop, (∀ σ', Good K dk H0 F0 F σ' H env' st → Tg is σ σ' env env' → Q σ' H) → g vs σ H Q
def nameT (i : Nat) : MG := fun d env => some (env.set i (.val d))
theorem ig_name (i : Nat) : ImG K (gName i) (nameT i) [i] := fun dk H0 F0 F σ H env st v d env' g r e Q q => by
  cases e
  refine q _ (g.set r) ⟨List.length_set, List.length_set, fun j hj => ?_⟩
  have hj' : i ≠ j := fun z => hj (by simp [z])
  exact ⟨List.getElem?_set_ne hj', List.getElem?_set_ne hj'⟩
def nilT : List D → Sg → Option Sg
  | [], env => some env
  | _, _ => none
def consT (t : MG) (u : List D → Sg → Option Sg) : List D → Sg → Option Sg
  | d :: ds, env => (t d env).bind fun e => u ds e
  | _, _ => none
theorem igs_nil : ImGs K gNil nilT [] := fun dk H0 F0 F σ H env st vs ds env' g r e Q q => by
  unfold nilT at e
  split at e
  · cases e
    cases r
    exact ⟨rfl, q σ g ⟨rfl, rfl, fun _ _ => ⟨rfl, rfl⟩⟩⟩
  · cases e
theorem igs_cons {g : TG} {gs : TGs} {t : MG} {u : List D → Sg → Option Sg} {is js : List Nat} (h1 : ImG K g t is) (h2 : ImGs K gs u js) : ImGs K (gCons g gs) (consT t u) (is ++ js) := fun dk H0 F0 F σ H env st vs ds env' gd r e Q q => by
  unfold consT at e
  split at e
  · obtain ⟨e1, h3, h4⟩ := bnd e
    cases r with
    | cons a b =>
      refine ⟨_, _, rfl, h1 dk H0 F0 F σ H env st _ _ e1 gd a h3 _ fun σ1 g1 t1 => ?_⟩
      refine h2 dk H0 F0 F σ1 H e1 st _ _ env' g1 b h4 _ fun σ2 g2 t2 => q σ2 g2 ⟨t2.len.trans t1.len, t2.elen.trans t1.elen, fun i hi => ?_⟩
      have a1 := t1.same i fun z => hi (List.mem_append_left _ z)
      have a2 := t2.same i fun z => hi (List.mem_append_right _ z)
      exact ⟨a2.1.trans a1.1, a2.2.trans a1.2⟩
  · cases e
def tupT (n : Nat) (u : List D → Sg → Option Sg) : MG := fun d env => match d with
  | .tup ds => if ds.length = n then u ds env else none
  | _ => none
theorem ig_tup {gs : TGs} {u : List D → Sg → Option Sg} {js : List Nat} {n : Nat} (h : ImGs K gs u js) : ImG K (gTup K n gs) (tupT n u) js := fun dk H0 F0 F σ H env st v d env' g r e Q q => by
  unfold tupT at e
  split at e
  · split at e
    · rename_i hn
      cases r with
      | tup h1 h2 =>
        exact ⟨_, _, rfl, g.wd.sub.sqT h1, by rw [h2.length]; exact hn, h dk H0 F0 F σ H env st _ _ env' g h2 e Q q⟩
    · cases e
  · cases e
def asgM (t : MG) (f : ME) : MS := fun env st => (f env st).bind fun p => (t p.1 env).map fun e => (.nx e, p.2)
theorem is_asg {te : TE} {g : TG} {t : MG} {f : ME} {is : List Nat} (h : Im K te f) (hg : ImG K g t is) : ImS K (tAsg te g) (asgM t f) := fun dk H0 F0 F σ H env st fl st' gd e E hd => by
  obtain ⟨⟨d, s1⟩, e1, e⟩ := bnd e
  obtain ⟨en, e2, e⟩ := mpd e
  cases e
  refine h dk H0 F0 F σ H env st d s1 gd e1 _ fun v F1 H1 x1 g1 r1 => ?_
  exact hg dk H0 F0 F1 σ H1 env s1 v d en g1 r1 e2 _ fun σ' g2 _ => hd F1 σ' H1 x1.f g2
/-- a new list for a name that will change it -/
def ownM (i : Nat) (f : MA) : MS := fun env st => (f env st).map fun p => (.nx (env.set i (.own (.lst, p.1))), p.2)
theorem is_own {te : TE} {f : MA} (i : Nat) (h : ImF K te f) : ImS K (tAsg te (gName i)) (ownM i f) := fun dk H0 F0 F σ H env st fl st' g e E hd => by
  obtain ⟨⟨ds, s1⟩, e1, e⟩ := mpd e
  cases e
  refine h dk H0 F0 F σ H env st ds s1 g e1 _ fun p vs F1 H1 x1 g1 hp fp hl r => ?_
  have nd := g.nedk hp
  exact hd F1 _ H1 x1.f (g1.setO (ds := (.lst, ds)) hl fp (g.fresh0 hp) nd.1 nd.2 (g.noown hp) r)
/-- a, b = e1, e2 -/
def two (i j : Nat) (env : Sg) : List D → Option Sg
  | [d, e] => some ((env.set i (.val d)).set j (.val e))
  | _ => none
def parM (i j : Nat) (fa : MA) : MS := fun env st => (fa env st).bind fun p => (two i j env p.1).map fun e => (.nx e, p.2)
theorem is_par {ta : TA} {fa : MA} (i j : Nat) (h : ImA K ta fa) : ImS K (tPar i j ta) (parM i j fa) := fun dk H0 F0 F σ H env st fl st' g e E hd => by
  obtain ⟨⟨ds, s1⟩, e1, e⟩ := bnd e
  obtain ⟨en, e2, e⟩ := mpd e
  cases e
  refine h dk H0 F0 F σ H env st ds s1 g e1 _ fun vs F1 H1 x1 g1 r1 => ?_
  replace e2 : two i j env ds = some en := e2
  unfold two at e2
  split at e2
  · cases e2
    cases r1 with
    | cons a b => cases b with
      | cons b c =>
        cases c
        exact ⟨_, _, rfl, hd F1 _ H1 x1.f ((g1.set a).set b)⟩
  · cases e2
/-- x op= e -/
def augM (i : Nat) (op : D → D → Option D) (f : ME) : MS := fun env st => match env[i]? with
  | some (.val x) => (f env st).bind fun p => (op x p.1).map fun z => (.nx (env.set i (.val z)), p.2)
  | _ => none
theorem is_aug {te : TE} {ti : TIp} {op : D → D → Option D} {f : ME} (i : Nat) (hr : RO K ti op) (h : ImW K te f) : ImS K (tAug i te ti) (augM i op f) := fun dk H0 F0 F σ H env st fl st' g e E hd => by
  unfold augM at e
  split at e
  · rename_i x hx
    obtain ⟨⟨d, s1⟩, e1, e⟩ := bnd e
    obtain ⟨z, e2, e⟩ := mpd e
    cases e
    obtain ⟨v, h1, h2⟩ := g.sl i _ hx
    refine ⟨v, join_eq h1, h dk H0 F0 F σ H env st d s1 g e1 _ fun u F1 H1 x1 g1 r1 => ?_⟩
    exact hr dk F1 H1 s1 v u x d z g1.wd (.rp (h2.mono x1.f)) r1.w e2 _ fun w F2 H2 px r2 => hd F2 _ H2 (x1.f.trans px.f) ((g1.px px).set r2)
  · cases e
/-- a name's own list is changed no more -/
def frzE (i : Nat) (env : Sg) : Sg := match env[i]? with
  | some (.own (.lst, ds)) => env.set i (.val (.lst ds))
  | some (.own (.dic ks, ds)) => env.set i (.val (.dic ks ds))
  | _ => env
theorem Good.frz1 {i : Nat} {w : Own} {o : HO} {d : D} {p : Addr} (g : Good K dk H0 F0 F σ H env st) (he : env[i]? = some (.own w)) (hs : σ[i]? = some (some (.ref p))) (h2 : H p = some o) (h3 : F.out p) (h4 : H0 p = none) (h5 : p ≠ dk.1) (h6 : p ≠ dk.2)
    (r : Rp K dk (F.up p o) (.ref p) d) : Good K dk H0 F0 (F.up p o) σ H (env.set i (.val d)) st := by
  have hil : i < env.length := by
    by_cases hl : i < env.length
    · exact hl
    · rw [List.getElem?_eq_none (by omega)] at he; cases he
  -- first forget the slot, then freeze, then store it again
  have g1 : Good K dk H0 F0 F σ H (env.set i .un) st := g.reslot (by rw [List.length_set]; exact g.len) fun j s e => by
    by_cases hj : i = j
    · subst hj
      rw [List.getElem?_set_self hil] at e
      cases e; exact .inl rfl
    · rw [List.getElem?_set_ne hj] at e; exact .inr ⟨e, rfl⟩
  have g2 := g1.freeze (p := p) h2 h3 h4 h5 h6 fun j es e => by
    by_cases hj : i = j
    · subst hj
      rw [List.getElem?_set_self hil] at e; cases e
    · rw [List.getElem?_set_ne hj] at e
      exact g.dis i j _ es p hj he e hs
  have g3 := g2.set (i := i) r
  rw [List.set_set] at g3
  have es : σ.set i (some (.ref p)) = σ := by
    apply List.ext_getElem?
    intro j
    by_cases hj : i = j
    · subst hj
      rw [List.getElem?_set_self (by rw [g.len]; exact hil), hs]
    · rw [List.getElem?_set_ne hj]
  rw [es] at g3
  exact g3
theorem Good.frzE (i : Nat) (g : Good K dk H0 F0 F σ H env st) : ∃ F', Le F F' ∧ Good K dk H0 F0 F' σ H (frzE i env) st := by
  unfold MD.frzE
  split
  · rename_i ds he
    obtain ⟨p, vs, h1, h2, h3, h4, h5, h6, h7⟩ := g.sl i _ he
    have le : Le F (F.up p (.lst vs)) := Le.new h3.1
    exact ⟨_, le, g.frz1 he (join_eq h1) h2 h3 h4 h5 h6 (.lst Fz.up_same (h7.mono le))⟩
  · rename_i ks ds he
    obtain ⟨p, vs, h1, ⟨h2, h2'⟩, h3, h4, h5, h6, h7⟩ := g.sl i _ he
    have le : Le F (F.up p (.dK (ks.zip vs))) := Le.new h3.1
    exact ⟨_, le, g.frz1 he (join_eq h1) h2 h3 h4 h5 h6 (.dic Fz.up_same h2' (h7.mono le))⟩
  · exact ⟨F, Le.refl F, g⟩
def frzM (i : Nat) (f : MS) : MS := fun env st => f (frzE i env) st
theorem is_frz {t : TS} {f : MS} (i : Nat) (h : ImS K t f) : ImS K t (frzM i f) := fun dk H0 F0 F σ H env st fl st' g e E hd => by
  obtain ⟨F1, le, g1⟩ := g.frzE i
  exact h dk H0 F0 F1 σ H (frzE i env) st fl st' g1 e E (hd.mono le)
/-- x.append(e), x.extend(e) of a name's own list -/
def appM (i : Nat) (f : ME) : MS := fun env st => match env[i]? with
  | some (.own (.lst, ds)) => if ds.length < sizeLine then (f env st).map fun p => (.nx (env.set i (.own (.lst, ds ++ [p.1]))), p.2) else none
  | _ => none
theorem is_app {te : TE} {f : ME} (i : Nat) (h : Im K te f) : ImS K (tDrop (tBM K "list" rAppend (tVar i) (tCons te tNil))) (appM i f) := fun dk H0 F0 F σ H env st fl st' g e E hd => by
  unfold appM at e
  split at e
  · rename_i ds he
    split at e
    · rename_i hz
      obtain ⟨⟨d, s1⟩, e1, e⟩ := mpd e
      cases e
      obtain ⟨p, vs, h1, h2, h3, h4, h5, h6, h7⟩ := g.sl i _ he
      refine ⟨.ref p, join_eq h1, .inl ⟨rfl, vs, SqL.of h2⟩, ?_⟩
      refine h dk H0 F0 F σ H env st d s1 g e1 _ fun v F1 H1 x1 g1 r1 => ?_
      refine ⟨p, vs, v, rfl, rfl, x1.h _ _ h2 h5 h6 (.inl h3.2), by rw [h7.length]; exact hz, ?_⟩
      exact hd F1 σ _ x1.f (g1.mut (ds' := (.lst, _)) he (join_eq h1) upd_same ((h7.mono x1.f).append (Rps.one r1)))
    · cases e
  · cases e
def lstOf : D → Option (List D)
  | .lst ds => some ds
  | _ => none
theorem lstOf_eq {d : D} {ds : List D} (h : lstOf d = some ds) : d = .lst ds := by
  cases d <;> first | (cases h; rfl) | cases h
def extM (i : Nat) (f : ME) : MS := fun env st => match env[i]? with
  | some (.own (.lst, ds)) => (f env st).bind fun p => (lstOf (dr p.2 p.1)).bind fun es => if ds.length + es.length ≤ sizeLine then some (.nx (env.set i (.own (.lst, ds ++ es))), p.2) else none
  | _ => none
theorem is_ext {te : TE} {f : ME} (i : Nat) (h : ImW K te f) : ImS K (tDrop (tBM K "list" rExtend (tVar i) (tCons te tNil))) (extM i f) := fun dk H0 F0 F σ H env st fl st' g e E hd => by
  unfold extM at e
  split at e
  · rename_i ds he
    obtain ⟨⟨d, s1⟩, e1, e⟩ := bnd e
    obtain ⟨es, e2, e⟩ := bnd e
    split at e
    · rename_i hz
      cases e
      obtain ⟨p, vs, h1, h2, h3, h4, h5, h6, h7⟩ := g.sl i _ he
      refine ⟨.ref p, join_eq h1, .inl ⟨rfl, vs, SqL.of h2⟩, ?_⟩
      refine h dk H0 F0 F σ H env st _ s1 g e1 _ fun v F1 H1 x1 g1 r1 => ?_
      have r2 := r1.dr g1.wd
      rw [lstOf_eq e2] at r2
      obtain ⟨q, us, rfl, k1, k2⟩ := r2.l g1.wd.sub
      refine ⟨p, q, vs, us, rfl, rfl, x1.h _ _ h2 h5 h6 (.inl h3.2), k1, by rw [h7.length, k2.length]; exact hz, ?_⟩
      exact hd F1 σ _ x1.f (g1.mut (ds' := (.lst, _)) he (join_eq h1) upd_same ((h7.mono x1.f).append k2))
    · cases e
  · cases e
end
end MD

set_option Elab.async false
set_option linter.all false
set_option maxRecDepth 100000
set_option maxHeartbeats 1000000
namespace MD
open PySem L2

abbrev MI := Sg → S → Option (List D × S)
/-- the walk goes through these data, whatever is laid meanwhile -/
def Stdy (K : Fg) (dk : Dk) (F : Fz) (J : It) (ds : List D) : Prop := ∀ (F1 : Fz) (H1 : Hp) (st : S), Le F F1 → Wd K dk F1 H1 st → ∀ i : Nat,
  (∀ d, ds[i]? = some d → J.go i H1 ∧ ∀ x H2, J.yld i H1 x H2 → ∃ F2, Px F1 H1 F2 H2 ∧ Rp K dk F2 x d) ∧ (ds.length ≤ i → J.stop i H1)
def ImI (K : Fg) (wi : TI) (f : MI) : Prop := ∀ (dk : Dk) (H0 : Hp) (F0 F : Fz) (σ : L2.St) (H : Hp) (env : Sg) (st : S) (ds : List D) (st' : S), Good K dk H0 F0 F σ H env st → f env st = some (ds, st') →
  ∀ R : It → Hp → Prop, (∀ J F' H', Ext dk F H F' H' → Good K dk H0 F0 F' σ H' env st' → Stdy K dk F' J ds → R J H') → wi σ H R

section
variable {K : Fg} {dk : Dk} {F F' F0 : Fz} {H H' H0 : Hp} {σ : L2.St} {env : Sg} {st : S}
theorem Stdy.mono {J : It} {ds : List D} (le : Le F F') (h : Stdy K dk F J ds) : Stdy K dk F' J ds := fun F1 H1 st l w => h F1 H1 st (le.trans l) w
theorem getD_none {α : Type} {l : List α} {i : Nat} (h : l.length ≤ i) : l[i]? = none := List.getElem?_eq_none h

/-! ### for -/
def forL (t : MG) (b : MS) : List D → MS
  | [], env, st => some (.nx env, st)
  | d :: ds, env, st => (t d env).bind fun env1 => (b env1 st).bind fun p => match p.1 with
    | .nx e => forL t b ds e p.2
    | .ct e => forL t b ds e p.2
    | .bk e => some (.nx e, p.2)
    | .rt r => some (.rt r, p.2)
def forM (it : MI) (t : MG) (b : MS) : MS := fun env st => (it env st).bind fun p => forL t b p.1 env p.2
theorem is_for {wi : TI} {g : TG} {tb : TS} {it : MI} {t : MG} {b : MS} {is : List Nat} (hi : ImI K wi it) (hg : ImG K g t is) (hb : ImS K tb b) : ImS K (tFor wi g tb) (forM it t b) := fun dk H0 F0 F σ H env st fl st' gd e E hd => by
  obtain ⟨⟨ds, s1⟩, e1, e⟩ := bnd e
  refine hi dk H0 F0 F σ H env st ds s1 gd e1 _ fun J F1 H1 x1 g1 sd => ?_
  have hd1 := hd.mono x1.f
  let P : Nat → L2.St → Hp → Prop := fun i σ H => ∃ F2 env st, Le F1 F2 ∧ Good K dk H0 F0 F2 σ H env st ∧ forL t b (ds.drop i) env st = some (fl, st')
  refine ⟨fun i m σ H => m = ds.length - i ∧ i ≤ ds.length ∧ P i σ H, ⟨_, rfl, Nat.zero_le _, F1, env, s1, Le.refl F1, g1, e⟩, ?_⟩
  rintro i m σ2 H2 ⟨rfl, hle, F2, env2, s2, le2, g2, e2⟩
  by_cases hlt : i < ds.length
  · have hdi : ds[i]? = some ds[i] := List.getElem?_eq_getElem hlt
    obtain ⟨hgo, hy⟩ := (sd F2 H2 s2 le2 g2.wd i).1 _ hdi
    refine .inr ⟨hgo, P (i + 1), fun σ' H' hp => ⟨_, by omega, rfl, hlt, hp⟩, fun x H3 hx => ?_⟩
    obtain ⟨F3, px, rx⟩ := hy x H3 hx
    have g3 := g2.px px
    rw [List.drop_eq_getElem_cons hlt] at e2
    obtain ⟨env3, e3, e2⟩ := bnd e2
    obtain ⟨⟨fl3, s3⟩, e4, e2⟩ := bnd e2
    refine hg dk H0 F0 F3 σ2 H3 env2 s2 x _ env3 g3 rx e3 _ fun σ4 g4 _ => ?_
    refine hb dk H0 F0 F3 σ4 H3 env3 s2 fl3 s3 g4 e4 _ ?_
    cases fl3 with
    | nx e5 => exact fun F5 σ5 H5 l5 g5 => ⟨F5, e5, s3, (le2.trans px.f).trans l5, g5, e2⟩
    | ct e5 => exact fun F5 σ5 H5 l5 g5 => ⟨F5, e5, s3, (le2.trans px.f).trans l5, g5, e2⟩
    | bk e5 =>
      cases e2
      exact fun F5 σ5 H5 l5 g5 => hd1 F5 σ5 H5 ((le2.trans px.f).trans l5) g5
    | rt r =>
      cases e2
      exact hd1
  · have ei : i = ds.length := by omega
    subst ei
    rw [List.drop_length] at e2
    cases e2
    exact .inl ⟨(sd F2 H2 _ le2 g2.wd ds.length).2 (Nat.le_refl _), hd1 F2 σ2 H2 le2 g2⟩

/-! ### while -/
def whF (c : MT) (b : MS) : Nat → MS
  | 0, _, _ => none
  | n + 1, env, st => (c env st).bind fun q => if q.1 then (b env q.2).bind fun p => match p.1 with
      | .nx e => whF c b n e p.2
      | .ct e => whF c b n e p.2
      | .bk e => some (.nx e, p.2)
      | .rt r => some (.rt r, p.2)
    else some (.nx env, q.2)
theorem whF_mono {c : MT} {b : MS} {r : Fl × S} : ∀ (n : Nat) {env : Sg} {st : S}, whF c b n env st = some r → whF c b (n + 1) env st = some r
  | 0, _, _, h => by cases h
  | n + 1, env, st, h => by
    obtain ⟨⟨k, s1⟩, e1, h⟩ := bnd h
    show ((c env st).bind _) = _
    rw [e1]
    cases k with
    | false => exact h
    | true =>
      replace h : ((b env s1).bind fun p => match p.1 with
        | .nx e => whF c b n e p.2
        | .ct e => whF c b n e p.2
        | .bk e => some (.nx e, p.2)
        | .rt r => some (.rt r, p.2)) = some r := h
      obtain ⟨⟨fl, s2⟩, e2, h⟩ := bnd h
      show ((b env s1).bind _) = _
      rw [e2]
      cases fl with
      | nx e => exact whF_mono n h
      | ct e => exact whF_mono n h
      | bk e => exact h
      | rt e => exact h
theorem whF_le {c : MT} {b : MS} {r : Fl × S} {env : Sg} {st : S} {n m : Nat} (h : n ≤ m) (e : whF c b n env st = some r) : whF c b m env st = some r := by
  induction h with
  | refl => exact e
  | step _ ih => exact whF_mono _ ih
open Classical in
noncomputable def whM (c : MT) (b : MS) : MS := fun env st => if h : ∃ n r, whF c b n env st = some r then whF c b h.choose env st else none
theorem whM_of {c : MT} {b : MS} {r : Fl × S} {env : Sg} {st : S} {n : Nat} (e : whF c b n env st = some r) : whM c b env st = some r := by
  unfold whM
  have h : ∃ n r, whF c b n env st = some r := ⟨n, r, e⟩
  rw [dif_pos h]
  obtain ⟨r', hr⟩ := h.choose_spec
  rw [hr]
  rcases Nat.le_total n h.choose with l | l
  · rw [whF_le l e] at hr; exact hr.symm
  · rw [whF_le l hr] at e; exact e
theorem of_whM {c : MT} {b : MS} {r : Fl × S} {env : Sg} {st : S} (e : whM c b env st = some r) : ∃ n, whF c b n env st = some r := by
  unfold whM at e
  split at e
  · exact ⟨_, e⟩
  · cases e
theorem is_while {c : TT} {tb : TS} {fc : MT} {b : MS} (hc : ImT K c fc) (hb : ImS K tb b) : ImS K (tWhile c tb) (whM fc b) := fun dk H0 F0 F σ H env st fl st' gd e E hd => by
  obtain ⟨n, e⟩ := of_whM e
  refine ⟨fun m σ H => ∃ F2 env st, Le F F2 ∧ Good K dk H0 F0 F2 σ H env st ∧ whF fc b m env st = some (fl, st'), ⟨n, F, env, st, Le.refl F, gd, e⟩, ?_⟩
  rintro m σ2 H2 ⟨F2, env2, s2, le2, g2, e2⟩
  cases m with
  | zero => cases e2
  | succ m =>
    obtain ⟨⟨k, s3⟩, e3, e2⟩ := bnd e2
    refine hc dk H0 F0 F2 σ2 H2 env2 s2 k s3 g2 e3 _ fun F3 H3 x3 g3 => ?_
    have le3 := le2.trans x3.f
    cases k with
    | false => cases e2; exact hd F3 σ2 H3 le3 g3
    | true =>
      replace e2 : ((b env2 s3).bind fun p => match p.1 with
        | .nx e => whF fc b m e p.2
        | .ct e => whF fc b m e p.2
        | .bk e => some (.nx e, p.2)
        | .rt r => some (.rt r, p.2)) = some (fl, st') := e2
      obtain ⟨⟨fl4, s4⟩, e4, e2⟩ := bnd e2
      refine ⟨fun σ H => ∃ F2 env st, Le F F2 ∧ Good K dk H0 F0 F2 σ H env st ∧ whF fc b m env st = some (fl, st'), fun σ' H' h => ⟨m, Nat.lt_succ_self m, h⟩, ?_⟩
      refine hb dk H0 F0 F3 σ2 H3 env2 s3 fl4 s4 g3 e4 _ ?_
      cases fl4 with
      | nx e5 => exact fun F5 σ5 H5 l5 g5 => ⟨F5, e5, s4, le3.trans l5, g5, e2⟩
      | ct e5 => exact fun F5 σ5 H5 l5 g5 => ⟨F5, e5, s4, le3.trans l5, g5, e2⟩
      | bk e5 =>
        cases e2
        exact fun F5 σ5 H5 l5 g5 => hd F5 σ5 H5 (le3.trans l5) g5
      | rt r =>
        cases e2
        exact hd

/-! ### comprehensions -/
def wipeE (env : Sg) : List Nat → Sg
  | [] => env
  | v :: vs => (wipeE env vs).set v .un
theorem wipeE_length (env : Sg) : ∀ vs : List Nat, (wipeE env vs).length = env.length
  | [] => rfl
  | v :: vs => by unfold wipeE; rw [List.length_set, wipeE_length env vs]
theorem wipeE_get {env : Sg} {i : Nat} {s : Sl} : ∀ {vs : List Nat}, (wipeE env vs)[i]? = some s → s = .un ∨ (env[i]? = some s ∧ i ∉ vs)
  | [], h => .inr ⟨h, by simp⟩
  | v :: vs, h => by
    unfold wipeE at h
    by_cases hi : v = i
    · subst hi
      by_cases hv : v < (wipeE env vs).length
      · rw [List.getElem?_set_self hv] at h; cases h; exact .inl rfl
      · rw [List.getElem?_eq_none (by rw [List.length_set]; omega)] at h; cases h
    · rw [List.getElem?_set_ne hi] at h
      rcases wipeE_get h with z | ⟨z1, z2⟩
      · exact .inl z
      · exact .inr ⟨z1, by simp only [List.mem_cons, not_or]; exact ⟨fun e => hi e.symm, z2⟩⟩
theorem wipe_off {σ : L2.St} {i : Nat} : ∀ {vs : List Nat}, i ∉ vs → (wipe σ vs)[i]? = σ[i]?
  | [], _ => rfl
  | v :: vs, h => by
    unfold wipe
    have hi : v ≠ i := fun e => h (by simp [e])
    rw [List.getElem?_set_ne hi]
    exact wipe_off fun z => h (List.mem_cons_of_mem _ z)
theorem wipe_in {σ : L2.St} {i : Nat} : ∀ {vs : List Nat}, i ∈ vs → (wipe σ vs)[i]? = if i < σ.length then some none else none
  | [], h => by cases h
  | v :: vs, h => by
    unfold wipe
    by_cases hi : v = i
    · subst hi
      by_cases hv : v < σ.length
      · rw [List.getElem?_set_self (by rw [wipe_length]; exact hv), if_pos hv]
      · rw [List.getElem?_eq_none (by rw [List.length_set, wipe_length]; omega), if_neg hv]
    · rw [List.getElem?_set_ne hi]
      rcases List.mem_cons.mp h with e | e
      · exact absurd e.symm hi
      · exact wipe_in e
theorem wipe_eq {σ σ' : L2.St} {vs : List Nat} (hl : σ'.length = σ.length) (h : ∀ i : Nat, i ∉ vs → σ'[i]? = σ[i]?) : wipe σ' vs = wipe σ vs := by
  apply List.ext_getElem?
  intro i
  by_cases hi : i ∈ vs
  · rw [wipe_in hi, wipe_in hi, hl]
  · rw [wipe_off hi, wipe_off hi]; exact h i hi
theorem wipe_wipe {σ : L2.St} {vs : List Nat} : wipe (wipe σ vs) vs = wipe σ vs := wipe_eq (wipe_length σ vs) fun i hi => wipe_off hi
theorem Good.wiped {vs : List Nat} (g : Good K dk H0 F0 F σ H env st) : Good K dk H0 F0 F (wipe σ vs) H (wipeE env vs) st :=
  g.reslot (by rw [wipe_length, wipeE_length]; exact g.len) fun i s e => by
    rcases wipeE_get e with z | ⟨z1, z2⟩
    · exact .inl z
    · exact .inr ⟨z1, wipe_off z2⟩
def compL (t : MG) (c : MT) (f : ME) (env : Sg) : List D → S → Option (List D × S)
  | [], st => some ([], st)
  | d :: ds, st => (t d env).bind fun e => (c e st).bind fun p => if p.1 then (f e p.2).bind fun q => (compL t c f env ds q.2).map fun r => (q.1 :: r.1, r.2) else compL t c f env ds p.2
def compM (it : MI) (t : MG) (c : MT) (f : ME) (vs : List Nat) : MA := fun env st => (it env st).bind fun p => if p.1.length ≤ sizeLine then compL t c f (wipeE env vs) p.1 p.2 else none
def yesM : MT := fun _ st => some (true, st)
theorem it_yes : ImT K tYes yesM := fun dk H0 F0 F σ H env st b st' g e Q q => by
  cases e
  exact q F H (Ext.refl F H) g
theorem if_comp {wi : TI} {g : TG} {tt : TT} {te : TE} {vs : List Nat} {it : MI} {t : MG} {c : MT} {f : ME} {is : List Nat} (hi : ImI K wi it) (hg : ImG K g t is) (ht : ImT K tt c) (he : Im K te f) (hv : ∀ i ∈ is, i ∈ vs) :
    ImF K (tLc wi g tt te vs) (compM it t c f vs) := fun dk H0 F0 F σ H env st out st' gd e Q q => by
  obtain ⟨⟨ds, s1⟩, e1, e⟩ := bnd e
  replace e : (if ds.length ≤ sizeLine then compL t c f (wipeE env vs) ds s1 else none) = some (out, st') := e
  split at e
  · rename_i hz
    refine hi dk H0 F0 F σ H env st ds s1 gd e1 _ fun J F1 H1 x1 g1 sd Dn hD => ?_
    have hDH : H Dn = none := by
      cases w : H Dn with
      | none => rfl
      | some o => exact absurd hD (x1.m Dn (by rw [w]; exact fun z => nomatch z))
    have nd := g1.nedk hD
    have h0D := g1.fresh0 hD
    have noD := g1.noown hD
    have noW : ∀ (j : Nat) (es : Own), (wipeE env vs)[j]? = some (.own es) → (wipe σ vs)[j]? ≠ some (some (.ref Dn)) := fun j es e => by
      rcases wipeE_get e with z | ⟨z1, z2⟩
      · cases z
      · rw [wipe_off z2]; exact noD j es z1
    let P : Nat → Hp → Prop := fun i H => ∃ F2 st2 acc done rest, Le F1 F2 ∧ Ext dk F1 H1 F2 H ∧ Good K dk H0 F0 F2 (wipe σ vs) H (wipeE env vs) st2 ∧ H Dn = some (.lst acc) ∧ F2.out Dn ∧ acc.length ≤ i ∧ Rps K dk F2 acc done ∧
      compL t c f (wipeE env vs) (ds.drop i) st2 = some (rest, st') ∧ done ++ rest = out
    have px0 : Px F1 H1 F1 (upd H1 Dn (.lst [])) := Px.lay g1.wd.sub hD
    refine ⟨fun i m H => m = ds.length - i ∧ i ≤ ds.length ∧ P i H, ⟨_, rfl, Nat.zero_le _, F1, s1, [], [], out, Le.refl F1, px0.ext, (g1.wiped).px px0, upd_same, g1.wd.out hD, Nat.zero_le _, .nil, e, rfl⟩, ?_⟩
    rintro i m H2 ⟨rfl, hle, F2, s2, acc, done, rest, le2, x2, g2, hacc, f2, hal, racc, e2, eo⟩
    by_cases hlt : i < ds.length
    · have hdi : ds[i]? = some ds[i] := List.getElem?_eq_getElem hlt
      obtain ⟨hgo, hy⟩ := (sd F2 H2 s2 le2 g2.wd i).1 _ hdi
      refine .inr ⟨hgo, P (i + 1), fun H' hp => ⟨_, by omega, rfl, hlt, hp⟩, fun x H3 hx => ?_⟩
      obtain ⟨F3, px, rx⟩ := hy x H3 hx
      have g3 := g2.px px
      rw [List.drop_eq_getElem_cons hlt] at e2
      obtain ⟨env3, e3, e2⟩ := bnd e2
      obtain ⟨⟨b, s4⟩, e4, e2⟩ := bnd e2
      refine hg dk H0 F0 F3 (wipe σ vs) H3 (wipeE env vs) s2 x _ env3 g3 rx e3 _ fun σ4 g4 tg => ?_
      have same : ∀ j : Nat, j ∉ vs → σ4[j]? = (wipe σ vs)[j]? ∧ env3[j]? = (wipeE env vs)[j]? := fun j hj => tg.same j fun z => hj (hv j z)
      have weq : wipe σ4 vs = wipe σ vs := by
        rw [wipe_eq tg.len fun j hj => (same j hj).1, wipe_wipe]
      have nD3 : H2 Dn ≠ none := by rw [hacc]; exact fun z => nomatch z
      have back : ∀ {F5 : Fz} {H5 : Hp} {st5 : S}, Good K dk H0 F0 F5 σ4 H5 env3 st5 → Good K dk H0 F0 F5 (wipe σ vs) H5 (wipeE env vs) st5 := fun {F5 H5 st5} g5 =>
        g5.reslot (by rw [wipe_length, wipeE_length]; exact gd.len) fun j s es => by
          rcases wipeE_get es with z | ⟨z1, z2⟩
          · exact .inl z
          · exact .inr ⟨(same j z2).2.trans es, (same j z2).1.symm⟩
      refine ⟨weq, ?_⟩
      refine ht dk H0 F0 F3 σ4 H3 env3 s2 b s4 g4 e4 _ fun F5 H5 x5 g5 => ?_
      have x25 : Ext dk F2 H2 F5 H5 := px.ext.trans x5
      have a5 : H5 Dn = some (.lst acc) := x25.h _ _ hacc nd.1 nd.2 (.inl f2.2)
      have f5 : F5.out Dn := x25.out f2 nD3
      cases b with
      | false =>
        exact ⟨F5, s4, acc, done, rest, le2.trans x25.f, x2.trans x25, back g5, a5, f5, by omega, racc.mono x25.f, e2, eo⟩
      | true =>
        replace e2 : ((f env3 s4).bind fun q => (compL t c f (wipeE env vs) (ds.drop (i + 1)) q.2).map fun r => (q.1 :: r.1, r.2)) = some (rest, st') := e2
        obtain ⟨⟨y, s6⟩, e6, e2⟩ := bnd e2
        obtain ⟨⟨rest', s7⟩, e7, e2⟩ := mpd e2
        cases e2
        refine he dk H0 F0 F5 σ4 H5 env3 s4 y s6 g5 e6 _ fun v F6 H6 x6 g6 r6 => ?_
        have x26 := x25.trans x6
        have a6 : H6 Dn = some (.lst acc) := x26.h _ _ hacc nd.1 nd.2 (.inl f2.2)
        have f6 : F6.out Dn := x26.out f2 nD3
        refine ⟨acc, a6, by omega, F6, s6, acc ++ [v], done ++ [y], rest', le2.trans x26.f, ?_, (back g6).mutT a6 f6 h0D nd.1 nd.2 noW, upd_same, f6, by simp; omega, (racc.mono x26.f).append (Rps.one r6), e7, by rw [← eo]; simp⟩
        exact (x2.trans x26).upd hD
    · have ei : i = ds.length := by omega
      subst ei
      rw [List.drop_length] at e2
      cases e2
      refine .inl ⟨(sd F2 H2 _ le2 g2.wd ds.length).2 (Nat.le_refl _), ?_⟩
      rw [List.append_nil] at eo
      subst eo
      have g9 : Good K dk H0 F0 F2 σ H2 env st' := by
        have gx := g1.step x2 g2.wd
        exact gx
      exact q Dn acc F2 H2 (x1.trans x2) g9 hDH f2 hacc racc
  · cases e
end
end MD

set_option Elab.async false
set_option linter.all false
set_option maxRecDepth 100000
set_option maxHeartbeats 2000000
namespace MD
open PySem L2

section
variable {K : Fg} {dk : Dk} {F F' F0 : Fz} {H H' H0 : Hp} {σ : L2.St} {env : Sg} {st : S}
/-! ### what a for or a comprehension walks -/
def rngD (lo : Int) (n : Nat) : List D := (List.range n).map fun k => .int (lo + (k : Nat))
theorem rngD_get {lo : Int} {n i : Nat} {d : D} (h : (rngD lo n)[i]? = some d) : i < n ∧ d = .int (lo + (i : Nat)) := by
  unfold rngD at h
  rw [List.getElem?_map] at h
  obtain ⟨k, h1, h2⟩ := mpd h
  have hi : i < n := by
    by_cases hl : i < n
    · exact hl
    · rw [List.getElem?_eq_none (by rw [List.length_range]; omega)] at h1; cases h1
  rw [List.getElem?_range hi] at h1
  cases h1
  exact ⟨hi, h2.symm⟩
theorem stdy_rng (lo : Int) (n : Nat) : Stdy K dk F (Itr lo n) (rngD lo n) := fun F1 H1 st le w i => by
  refine ⟨fun d hd => ?_, fun hl => ?_⟩
  · obtain ⟨h1, rfl⟩ := rngD_get hd
    refine ⟨h1, fun x H2 hy => ?_⟩
    obtain ⟨e1, e2⟩ := hy
    subst e1 e2
    exact ⟨F1, Px.refl w.sub, .int _⟩
  · show n ≤ i
    unfold rngD at hl
    simpa using hl
def r1M (a : MA) : MI := fun env st => (a env st).bind fun p => match p.1 with
  | [.int j] => if -(2 ^ 62) ≤ j ∧ j < 2 ^ 62 then some (rngD 0 j.toNat, p.2) else none
  | _ => none
theorem ii_range1 {ta : TA} {a : MA} (h : ImAW K ta a) : ImI K (iRng1 ta) (r1M a) := fun dk H0 F0 F σ H env st ds st' g e R q => by
  obtain ⟨⟨xs, s1⟩, h1, e⟩ := bnd e
  refine h dk H0 F0 F σ H env st xs s1 g h1 _ fun vs F1 H1 x1 g1 r1 => ?_
  dsimp only at e
  split at e
  · split at e
    · rename_i j hj
      cases e
      obtain ⟨v, rfl, r⟩ := r1.ws.one
      cases r.int
      exact ⟨j, rfl, hj.1, hj.2, q _ F1 H1 x1 g1 (stdy_rng 0 j.toNat)⟩
    · cases e
  · cases e
def r2M (a : MA) : MI := fun env st => (a env st).bind fun p => match p.1 with
  | [.int i, .int j] => if -(2 ^ 62) ≤ i ∧ i < 2 ^ 62 ∧ -(2 ^ 62) ≤ j ∧ j < 2 ^ 62 then some (rngD i (j - i).toNat, p.2) else none
  | _ => none
theorem ii_range2 {ta : TA} {a : MA} (h : ImAW K ta a) : ImI K (iRng2 ta) (r2M a) := fun dk H0 F0 F σ H env st ds st' g e R q => by
  obtain ⟨⟨xs, s1⟩, h1, e⟩ := bnd e
  refine h dk H0 F0 F σ H env st xs s1 g h1 _ fun vs F1 H1 x1 g1 r1 => ?_
  dsimp only at e
  split at e
  · split at e
    · rename_i i j hj
      cases e
      obtain ⟨v, u, rfl, r, r'⟩ := r1.ws.two
      cases r.int
      cases r'.int
      exact ⟨i, j, rfl, hj, q _ F1 H1 x1 g1 (stdy_rng i (j - i).toNat)⟩
    · cases e
  · cases e

/-! a list, a tuple or a text -/
theorem stdy_list {a : Addr} {vs : List V} {ds : List D} (h : F a = some (.lst vs)) (r : Rps K dk F vs ds) : Stdy K dk F (Itl K a) ds := fun F1 H1 st le w i => by
  have hq : SqL K H1 a vs := SqL.of (w.sub.lst (le.h _ _ h))
  refine ⟨fun d hd => ?_, fun hl => ⟨vs, hq, by rw [r.length]; exact hl⟩⟩
  obtain ⟨v, h1, h2⟩ := r.get hd
  refine ⟨⟨vs, v, hq, h1⟩, fun x H2 hy => ?_⟩
  obtain ⟨e1, e2⟩ := hy
  subst e1
  have ev := e2 vs hq
  rw [h1] at ev
  cases ev
  exact ⟨F1, Px.refl w.sub, h2.mono le⟩
theorem stdy_tup {a : Addr} {vs : List V} {ds : List D} (h : SqT K F a vs) (r : Rps K dk F vs ds) : Stdy K dk F (Itt K a) ds := fun F1 H1 st le w i => by
  have hq : SqT K H1 a vs := w.sub.sqT (le.sqT h)
  refine ⟨fun d hd => ?_, fun hl => ⟨vs, hq, by rw [r.length]; exact hl⟩⟩
  obtain ⟨v, h1, h2⟩ := r.get hd
  refine ⟨⟨vs, v, hq, h1⟩, fun x H2 hy => ?_⟩
  obtain ⟨e1, e2⟩ := hy
  subst e1
  have ev := e2 vs hq
  rw [h1] at ev
  cases ev
  exact ⟨F1, Px.refl w.sub, h2.mono le⟩
theorem signs_get {x : Str} {i : Nat} {d : D} (h : ((signs x).map D.str)[i]? = some d) : ∃ c, x.cps[i]? = some c ∧ d = .str ⟨#[c]⟩ := by
  unfold signs at h
  rw [List.map_map, List.getElem?_map] at h
  obtain ⟨c, h1, h2⟩ := mpd h
  exact ⟨c, by simpa using h1, h2.symm⟩
theorem signs_len (x : Str) : ((signs x).map D.str).length = x.cps.size := by
  unfold signs
  simp
theorem stdy_str (x : Str) : Stdy K dk F (Its x) ((signs x).map D.str) := fun F1 H1 st le w i => by
  refine ⟨fun d hd => ?_, fun hl => by rw [signs_len] at hl; exact hl⟩
  obtain ⟨c, h1, rfl⟩ := signs_get hd
  refine ⟨?_, fun y H2 hy => ?_⟩
  · show i < x.cps.size
    by_cases hl : i < x.cps.size
    · exact hl
    · rw [Array.getElem?_eq_none (by omega)] at h1; cases h1
  · obtain ⟨e1, c', h2, e2⟩ := hy
    subst e1 e2
    rw [h1] at h2
    cases h2
    exact ⟨F1, Px.refl w.sub, .str _⟩
def iSeq (K : Fg) (te : TE) : TI := fun σ H R => te σ H fun x H1 =>
  (∃ a, x = .ref a ∧ (∃ xs, SqL K H1 a xs) ∧ R (Itl K a) H1) ∨ (∃ a, x = .ref a ∧ (∃ xs, SqT K H1 a xs) ∧ R (Itt K a) H1) ∨ ∃ y, x = .str y ∧ R (Its y) H1
theorem pi_seq {X : Cx} {tg e : Expr} {te : TE} (he : PE X e te) : PI X tg e (iSeq X.K te) := by
  constructor
  intro pins s σ H R I h
  refine thn (he.run pins s σ H _ I h) fun v s1 h1 => ?_
  obtain ⟨x, H1, I1, r1, q1⟩ := h1
  rcases q1 with ⟨a, rfl, ⟨xs, hq⟩, q⟩ | ⟨a, rfl, ⟨xs, hq⟩, q⟩ | ⟨y, rfl, q⟩
  · cases r1
    obtain ⟨its, _, pl, _⟩ := I1.list hq
    exact wpAny_pyIter_list pl.isList (pi_one (tk := s1.toks) I1 _ (turn_list a _) ⟨_, Heap.get?_push_size _ rfl, rfl, rfl⟩ q)
  · cases r1
    obtain ⟨its, _, pl, _⟩ := I1.tuple hq
    exact wpAny_pyIter_tuple (show s1.heap.IsTuple a its.toArray from pl) (pi_one (tk := s1.toks) I1 _ (turn_tuple a _) ⟨_, Heap.get?_push_size _ rfl, rfl, rfl⟩ q)
  · obtain ⟨t, rfl⟩ := r1
    cases ha : y.cps.all (· < 128)
    · exact wpAny_pyIter_wide ha (pi_one (tk := s1.toks) I1 _ (turn_str _ y t "str_iterator" (.inr rfl)) ⟨_, Heap.get?_push_size _ rfl, rfl, rfl⟩ q)
    · exact wpAny_pyIter_ascii ha (pi_one (tk := s1.toks) I1 _ (turn_str _ y t "str_ascii_iterator" (.inl rfl)) ⟨_, Heap.get?_push_size _ rfl, rfl, rfl⟩ q)
def seqOf : D → Option (List D)
  | .lst ds => some ds
  | .tup ds => some ds
  | .str x => some ((signs x).map D.str)
  | _ => none
def seqI (f : ME) : MI := fun env st => (f env st).bind fun p => (seqOf p.1).map fun ds => (ds, p.2)
theorem ii_seq {te : TE} {f : ME} (h : Im K te f) : ImI K (iSeq K te) (seqI f) := fun dk H0 F0 F σ H env st ds st' g e R q => by
  obtain ⟨⟨d, s1⟩, h1, e⟩ := bnd e
  obtain ⟨es, h2, e⟩ := mpd e
  cases e
  refine h dk H0 F0 F σ H env st d s1 g h1 _ fun v F1 H1 x1 g1 r1 => ?_
  replace h2 : seqOf d = some ds := h2
  cases d with
  | lst xs =>
    cases h2
    cases r1 with
    | lst a1 a2 => exact .inl ⟨_, rfl, ⟨_, SqL.of (g1.wd.sub.lst a1)⟩, q _ F1 H1 x1 g1 (stdy_list a1 a2)⟩
  | tup xs =>
    cases h2
    cases r1 with
    | tup a1 a2 => exact .inr (.inl ⟨_, rfl, ⟨_, g1.wd.sub.sqT a1⟩, q _ F1 H1 x1 g1 (stdy_tup a1 a2)⟩)
  | str x =>
    cases h2
    cases r1
    exact .inr (.inr ⟨_, rfl, q _ F1 H1 x1 g1 (stdy_str x)⟩)
  | _ => cases h2

/-! ### enumerate -/
def enumD (ds : List D) : List D := ds.zipIdx.map fun p => .tup [.int ((p.2 : Nat) : Int), p.1]
theorem enumD_get {ds : List D} {i : Nat} {d : D} (h : (enumD ds)[i]? = some d) : ∃ x, ds[i]? = some x ∧ d = .tup [.int ((i : Nat) : Int), x] := by
  unfold enumD at h
  rw [List.getElem?_map, List.getElem?_zipIdx] at h
  obtain ⟨p, h1, h2⟩ := mpd h
  obtain ⟨x, h3, h4⟩ := mpd h1
  subst h4
  exact ⟨x, h3, by rw [← h2]; simp⟩
theorem enumD_len (ds : List D) : (enumD ds).length = ds.length := by unfold enumD; simp
/-- items that stand fast, each in a new pair with its number -/
def ItE (C : Hp → Prop) (xs : List V) : It := ⟨fun i H => i < xs.length ∧ C H, fun i H v H' => ∃ T x, v = .ref T ∧ H T = none ∧ H' = upd H T (.tup [.int ((i : Nat) : Int), x]) ∧ xs[i]? = some x, fun i H => xs.length ≤ i ∧ C H⟩
theorem pair_new {T : Addr} {i : Int} {x : V} {d : D} {F1 : Fz} {H1 : Hp} {st : S} (w : Wd K dk F1 H1 st) (hT : H1 T = none) (r : Rp K dk F1 x d) :
    ∃ F2, Px F1 H1 F2 (upd H1 T (.tup [.int i, x])) ∧ Rp K dk F2 (.ref T) (.tup [.int i, d]) := by
  have px : Px F1 H1 (Fz.up F1 T (.tup [.int i, x])) (upd H1 T (.tup [.int i, x])) := Px.new w.sub hT
  exact ⟨_, px, .tup (SqT.of Fz.up_same) (.cons (.int i) (.cons (r.mono px.f) .nil))⟩
theorem stdy_enumE {C : Hp → Prop} {vs : List V} {ds : List D} (hC : ∀ H1, Sb F H1 → C H1) (r : Rps K dk F vs ds) : Stdy K dk F (ItE C vs) (enumD ds) := fun F1 H1 st le w i => by
  have hc : C H1 := hC H1 (le.sb w.sub)
  refine ⟨fun d hd => ?_, fun hl => ⟨by rw [enumD_len, ← r.length] at hl; exact hl, hc⟩⟩
  obtain ⟨x, h1, rfl⟩ := enumD_get hd
  obtain ⟨v, h2, h3⟩ := r.get h1
  refine ⟨⟨?_, hc⟩, fun y H2 hy => ?_⟩
  · show i < vs.length
    by_cases hl : i < vs.length
    · exact hl
    · rw [List.getElem?_eq_none (by omega)] at h2; cases h2
  · obtain ⟨T, v', rfl, hT, rfl, e⟩ := hy
    rw [h2] at e
    cases e
    exact pair_new w hT (h3.mono le)
theorem stdy_enumL {a : Addr} {vs : List V} {ds : List D} (h : F a = some (.lst vs)) (r : Rps K dk F vs ds) : Stdy K dk F (Ite K a) (enumD ds) := fun F1 H1 st le w i => by
  have hq : SqL K H1 a vs := SqL.of (w.sub.lst (le.h _ _ h))
  refine ⟨fun d hd => ?_, fun hl => ⟨vs, hq, by rw [enumD_len, ← r.length] at hl; exact hl⟩⟩
  obtain ⟨x, h1, rfl⟩ := enumD_get hd
  obtain ⟨v, h2, h3⟩ := r.get h1
  refine ⟨⟨vs, v, hq, h2⟩, fun y H2 hy => ?_⟩
  obtain ⟨T, v', rfl, hT, rfl, e⟩ := hy
  have e' := e vs hq
  rw [h2] at e'
  cases e'
  exact pair_new w hT (h3.mono le)
/-- a turn of enumerate over what draws from it -/
theorem turnE {P : Program} {w : World} {K : Fg} {elts : List Expr} {kk : Nat} {tpos : Pos} (C : Hp → Prop) (xs : List V) (e it : Addr) (St1 : Nat → Heap → Prop)
    (fr : ∀ i h h', St1 i h → (∀ o, h.get? it = some o → h'.get? it = some o) → St1 i h')
    (ob : ∀ i h, St1 i h → ∃ o, h.get? it = some o ∧ ∀ v, o.data ≠ .cell v)
    (dr : ∀ (X : Cx), X.prog = P → X.w = w → X.K = K → X.calm = true → ∀ (i : Nat) (pins : List (Addr × Obj)) (s : Shared) (σ : L2.St) (H : Hp), Inv X pins σ H s → C H → H it = none → St1 i s.heap →
      ∃ (fp : List Addr) (St2 : Nat → Heap → Prop) (Pv : Nat → Value → Prop), Draws P w X.A.in1 it fp xs.length Pv St2 ∧ St2 i s.heap ∧ (∀ j h, St2 j h → St1 j h) ∧ (∀ b ∈ fp, b = it ∨ (∃ o, H b = some o) ∨ ∃ o, X.base.get? b = some o) ∧ ∀ j u, Pv j u → ∃ x, xs[j]? = some x ∧ RelV x u) :
    Turn P w K (.Tuple elts kk tpos) (ItE C xs) [e, it] e (fun i h => (∃ old, IsEnum h e it ((i : Nat) : Int) old) ∧ St1 i h ∧ e ≠ it ∧ i ≤ xs.length) where
  mem := List.mem_cons_self
  obj := fun i h tn b hb => by
    obtain ⟨⟨old, he⟩, hs, _⟩ := tn
    rcases List.mem_cons.mp hb with z | z
    · rw [z]; exact ⟨_, he, fun v q => nomatch q⟩
    · rw [List.mem_singleton.mp z]; exact ob i h hs
  keep := fun i h h' tn k => by
    obtain ⟨⟨old, he⟩, hs, hne, hl⟩ := tn
    exact ⟨⟨old, k e List.mem_cons_self _ he⟩, fr i h h' hs fun o q => k it (by simp) o q, hne, hl⟩
  item := by
    intro X hP hw hK hc i pins s σ H Er I hf tn hgo
    obtain ⟨hg, hC⟩ : i < xs.length ∧ C H := hgo
    obtain ⟨⟨old, he⟩, hs, hne, _⟩ := tn
    obtain ⟨fp, St2, Pv, Dw, h2, h21, hfp, hpv⟩ := dr X hP hw hK hc i pins s σ H I hC (hf it (by simp)).1 hs
    subst hP hw hK
    have hel : e < s.heap.objs.size := Heap.lt_size he
    have hil : it < s.heap.objs.size := by obtain ⟨o, q, _⟩ := ob i _ hs; exact Heap.lt_size q
    have hef : e ∉ fp := fun z => by
      rcases hfp e z with q | ⟨o, q⟩ | ⟨o, q⟩
      · exact hne q
      · rw [(hf e (by simp)).1] at q; cases q
      · have hx := (I.bs e o q).1
        obtain ⟨f0, f1, f2, f3, _⟩ := hf e (by simp)
        rcases f3 with f3 | f3
        · exact I.ok.noex e o q f3
        · exact absurd (Nat.lt_of_lt_of_le (Heap.lt_size (I.ok.bs e o q).1) f3) (Nat.lt_irrefl _)
    refine wpAny_pyNext_enum_itemD Dw he h2 hg hne hef fun u h' tk hu ho hst hT hsz hk => ?_
    obtain ⟨x, hx, ru⟩ := hpv i u hu
    refine ⟨_, rfl, wpAny_letOwnedTupleGo_enum (s := { s with heap := h', toks := tk + 1 }) ho fun h'' he' sb => ?_⟩
    have hT2 : h''.get? s.heap.objs.size = some { cls := .type "tuple", data := .seq #[.int i tk, u] } := (sb.2 _ (Nat.ne_of_gt hel)).trans hT
    have new : ObjOk X.prog X.w (upd H s.heap.objs.size (.tup [.int ((i : Nat) : Int), x])) h'' s.heap.objs.size (.tup [.int ((i : Nat) : Int), x]) := by
      refine ⟨?_, [.int i tk, u], .cons ⟨_, rfl⟩ (.cons ru .nil), ⟨_, hT2, rfl, _, rfl⟩⟩
      show 2 ≤ sizeLine
      decide
    have I1 : Inv X pins σ (upd H s.heap.objs.size (.tup [.int ((i : Nat) : Int), x])) { s with heap := h'', toks := tk + 1 } := by
      refine I.turnedNew (ch := [e, it]) (fun b o hb q => ?_) hf (Nat.le_refl _) new
      have n1 : b ≠ e := fun z => hb (by simp [z])
      have n2 : b ≠ it := fun z => hb (by simp [z])
      exact (sb.2 b n1).trans (hk b o n1 n2 q)
    refine ⟨.ref s.heap.objs.size, _, I1, rfl, ⟨_, x, rfl, I.hok.fresh (Nat.le_refl _), rfl, hx⟩, ⟨⟨u, ?_⟩, ?_, hne, hg⟩, fun b hb => ?_⟩
    · have e1 : ((i + 1 : Nat) : Int) = (i : Int) + 1 := by omega
      rw [e1]; exact he'
    · exact fr (i + 1) h' h'' (h21 _ _ hst) fun o q => (sb.2 it (Ne.symm hne)).trans q
    · have hb' : b < s.heap.objs.size := by
        rcases List.mem_cons.mp hb with z | z
        · rw [z]; exact hel
        · rw [List.mem_singleton.mp z]; exact hil
      rw [upd_ne (Nat.ne_of_lt hb')]
      exact (hf b hb).1
  done := by
    intro X hP hw hK hc i pins s σ H Er I hf tn hgo
    obtain ⟨hg, hC⟩ : xs.length ≤ i ∧ C H := hgo
    obtain ⟨⟨old, he⟩, hs, hne, hl⟩ := tn
    have ei : i = xs.length := Nat.le_antisymm hl hg
    subst ei
    obtain ⟨fp, St2, Pv, Dw, h2, h21, hfp, hpv⟩ := dr X hP hw hK hc xs.length pins s σ H I hC (hf it (by simp)).1 hs
    subst hP hw hK
    obtain ⟨f0, f1, f2, f3, f4, f5⟩ := hf it (by simp)
    exact wpAny_pyNext_enum_endD Dw he h2 fun h' eb => ⟨rfl, I.turned (t' := s.toks) (fun b o hb q => eb b o hb q) f0 f1 f3 f4 f5⟩
  self := fun A i s Q E tn h => by
    obtain ⟨⟨_, he⟩, _⟩ := tn
    exact wpAny_pyIter_enum he h
end
end MD

set_option Elab.async false
set_option linter.all false
set_option maxRecDepth 100000
set_option maxHeartbeats 2000000
namespace MD
open PySem L2

theorem newT (t : Addr) (items : Array Value) : Meets (Builtin.«enumerate.__new__» ⟨[.type "enumerate", .ref t], []⟩) (fun _ R s => s.heap.IsTuple t items ∧ R (.ok (.ret (.ref (s.heap.push { cls := .type "tuple_iterator", data := .fields #[.ref t, .int 0 0] }).objs.size)))
        { s with heap := (s.heap.push { cls := .type "tuple_iterator", data := .fields #[.ref t, .int 0 0] }).push { cls := .type "enumerate", data := .fields #[.none, .bool false, .ref s.heap.objs.size, rawInt 0, .none, .none] } }) :=
  .of_wp fun prog w A R s h => by
    obtain ⟨hp, g, d, tk, os⟩ := s
    obtain ⟨hL, h⟩ := h
    obtain ⟨⟨c0, dct, dt, sl⟩, hl, hc, n, hd⟩ := id hL
    have hsub := sub_enumerate
    wp_walk using AutoSeq1.wpAny_loadPart' hl
    refine wpAny_stack_any fun st => wpAny_pure ?_
    split
    · rename_i c _ _ _ _ _
      cases (c == Value.type "enumerate")
      · wp_walk using AutoSeq1.wpAny_loadPart' hl, wpAny_pyIter_tuple hL
        exact ⟨_, rfl, h⟩
      · wp_walk using AutoSeq1.wpAny_loadPart' hl, wpAny_pyIter_tuple hL
        exact ⟨_, rfl, h⟩
    · wp_walk using AutoSeq1.wpAny_loadPart' hl, wpAny_pyIter_tuple hL
      exact ⟨_, rfl, h⟩
theorem call_enumT {prog : Program} {w : World} {A : Around} {E : Value → Shared → Prop} {s : Shared} {t : Addr} {items : Array Value} {Q : Value → Shared → Prop} (hL : s.heap.IsTuple t items)
    (h : ∀ h', IsEnum h' (s.heap.objs.size + 1) s.heap.objs.size 0 .none → h'.IsTupleIter s.heap.objs.size t 0 → (∀ b o, s.heap.get? b = some o → h'.get? b = some o) → Q (.ref (s.heap.objs.size + 1)) { s with heap := h' }) :
    wpAny (model prog w) A (call (.type "enumerate") [.ref t]) Q E s := by
  refine callType_new F.called_enumerate (by decide) (F.typeCall_enumerate_1 _) (F.newCall_enumerate_1 _) (fun obj => F.args_object_init_2 obj _) F.entry_enumerate_new (newT t items) ⟨hL, ?_⟩
  have hz : (s.heap.push { cls := .type "tuple_iterator", data := .fields #[.ref t, .int 0 0] }).objs.size = s.heap.objs.size + 1 := Heap.size_push ..
  show _ ∧ _
  rw [hz]
  have he : IsEnum ((s.heap.push { cls := .type "tuple_iterator", data := .fields #[.ref t, .int 0 0] }).push { cls := .type "enumerate", data := .fields #[.none, .bool false, .ref s.heap.objs.size, rawInt 0, .none, .none] }) (s.heap.objs.size + 1) s.heap.objs.size 0 .none := by
    have q := Heap.get?_push_size (s.heap.push { cls := .type "tuple_iterator", data := .fields #[.ref t, .int 0 0] }) (o := { cls := .type "enumerate", data := .fields #[.none, .bool false, .ref s.heap.objs.size, rawInt 0, .none, .none] }) rfl
    rw [hz] at q
    exact q
  exact ⟨⟨_, he, rfl⟩, h _ he ⟨_, Heap.get?_push_of_some _ (Heap.get?_push_size _ rfl), rfl, rfl⟩ fun b o x => Heap.get?_push_of_some _ (Heap.get?_push_of_some _ x)⟩

section
variable {K : Fg} {dk : Dk} {F F' F0 : Fz} {H H' H0 : Hp} {σ : L2.St} {env : Sg} {st : S}
theorem turn_enumS {P : Program} {w : World} {elts : List Expr} {kk : Nat} {tpos : Pos} (e it : Addr) (x : Str) (t : Tok) :
    Turn P w K (.Tuple elts kk tpos) (ItE (fun _ => True) ((signs x).map V.str)) [e, it] e (fun i h => (∃ old, IsEnum h e it ((i : Nat) : Int) old) ∧ h.IsStrIter it (strIterType x) x t i ∧ e ≠ it ∧ i ≤ ((signs x).map V.str).length) := by
  refine turnE _ _ e it (fun i h => h.IsStrIter it (strIterType x) x t i) (fun i h h' st k => ?_) (fun i h st => ?_) fun X hP hw hK hc i pins s σ H I _ _ hs => ?_
  · obtain ⟨o, ho, r⟩ := st
    exact ⟨o, k o ho, r⟩
  · obtain ⟨o, ho, c, d⟩ := st
    exact ⟨o, ho, fun v z => by rw [d] at z; cases z⟩
  · have hd : X.A.in1.handled = none := I.ok.hd hc
    have hl : ((signs x).map V.str).length = x.cps.size := by unfold signs; simp
    subst hP hw
    refine ⟨[it], _, _, hl ▸ Draws.text (prog := X.prog) (w := X.w) hd it x t, hs, fun _ _ z => z, fun b hb => .inl (List.mem_singleton.mp hb), fun j u hu => ?_⟩
    obtain ⟨c, u', h1, rfl⟩ := hu
    refine ⟨.str ⟨#[c]⟩, ?_, ⟨_, rfl⟩⟩
    unfold signs
    rw [List.map_map, List.getElem?_map]
    have : x.cps.toList[j]? = some c := by simpa using h1
    rw [this]
    rfl
theorem turn_enumT {P : Program} {w : World} {elts : List Expr} {kk : Nat} {tpos : Pos} (a e it : Addr) (xs : List V) :
    Turn P w K (.Tuple elts kk tpos) (ItE (fun H => SqT K H a xs) xs) [e, it] e (fun i h => (∃ old, IsEnum h e it ((i : Nat) : Int) old) ∧ h.IsTupleIter it a i ∧ e ≠ it ∧ i ≤ xs.length) := by
  refine turnE _ _ e it (fun i h => h.IsTupleIter it a i) (fun i h h' st k => ?_) (fun i h st => ?_) fun X hP hw hK hc i pins s σ H I hq hn hs => ?_
  · obtain ⟨o, ho, r⟩ := st
    exact ⟨o, k o ho, r⟩
  · obtain ⟨o, ho, c, d⟩ := st
    exact ⟨o, ho, fun v z => by rw [d] at z; cases z⟩
  · have hd : X.A.in1.handled = none := I.ok.hd hc
    subst hP hw hK
    obtain ⟨its, rv, pt, hz⟩ := I.tuple hq
    have hl : xs.length = its.toArray.size := by rw [List.size_toArray]; exact rv.length
    have hb : (∃ o, H a = some o) ∨ ∃ o, X.base.get? a = some o := by
      rcases hq with (h | ⟨o, h⟩) | ⟨o, _, _, h, _⟩
      · exact .inl ⟨_, h⟩
      · exact .inl ⟨_, h⟩
      · exact .inr ⟨_, I.mod.kin a o h⟩
    have hai : a ≠ it := fun z => by
      obtain ⟨o, ho, c, d⟩ := hs
      obtain ⟨o2, ho2, c2, _⟩ := id pt
      rw [z, ho] at ho2
      cases ho2
      rw [c] at c2
      exact absurd c2 (by decide)
    refine ⟨[it, a], _, _, hl ▸ Draws.tuple (prog := X.prog) (w := X.w) hd it a hai its.toArray, ⟨hs, pt⟩, fun _ _ z => z.1, fun b hbm => ?_, fun j u hu => ?_⟩
    · rcases List.mem_cons.mp hbm with z | z
      · exact .inl z
      · rw [List.mem_singleton.mp z]; exact .inr hb
    · have hu' : its[j]? = some u := by simpa using hu
      have hjl : j < xs.length := by
        rw [rv.length]
        by_cases hl : j < its.length
        · exact hl
        · rw [List.getElem?_eq_none (by omega)] at hu'; cases hu'
      obtain ⟨u2, h1, h2⟩ := rv.get (List.getElem?_eq_getElem hjl)
      rw [hu'] at h1
      cases h1
      exact ⟨_, List.getElem?_eq_getElem hjl, h2⟩
def iEnumA (K : Fg) (ta : TA) : TI := fun σ H R => ta σ H fun vs H1 => (∃ a xs, vs = [.ref a] ∧ SqL K H1 a xs ∧ R (Ite K a) H1) ∨ (∃ a xs, vs = [.ref a] ∧ SqT K H1 a xs ∧ R (ItE (fun H => SqT K H a xs) xs) H1) ∨
  ∃ y, vs = [.str y] ∧ R (ItE (fun _ => True) ((signs y).map V.str)) H1
theorem pi_enumA {X : Cx} {e : Expr} {ta : TA} {p pos tpos : Pos} {elts : List Expr} {kk : Nat} (hg : Gl X "enumerate") (hm : X.mg "enumerate" = none) (ha : PA X [e] ta) (hs : starEach [e] X.env = [(false, eval e X.env)] := by rfl) :
    PI X (.Tuple elts kk tpos) (.Call (.Name "enumerate" p) [e] [] pos) (iEnumA X.K ta) := by
  constructor
  intro pins s σ H R I h
  refine PyProof.Rows.Call_ (ld_blt I hg hm PyProof.Rows.boot_enumerate (PyProof.Rows.callWith_type1 (thn (ha.run pos pins s σ H _ I h) fun us s1 q0 => ?_) hs rfl))
  obtain ⟨vs, H1, I1, r1, q1⟩ := q0
  have fpo : ∀ b ∈ [s1.heap.objs.size + 1, s1.heap.objs.size], FpOk X pins H1 b := fun b hb => by
    have hle : s1.heap.objs.size ≤ b := by
      rcases List.mem_cons.mp hb with z | z
      · rw [z]; exact Nat.le_add_right _ _
      · rw [List.mem_singleton.mp z]; exact Nat.le_refl _
    exact I1.fpOk hle (I1.hok.fresh hle)
  rcases q1 with ⟨a, xs, rfl, hq, q⟩ | ⟨a, xs, rfl, hq, q⟩ | ⟨y, rfl, q⟩
  · obtain ⟨u, rfl, ru⟩ := vals1 r1
    cases ru
    obtain ⟨its, rv, pl, hz⟩ := I1.list hq
    refine call_enumerate_list pl.isList fun h' he hit hsz hk => wpAny_pyIter_enum he ?_
    exact ⟨_, _, _, _, H1, rfl, I1.kept (t' := s1.toks) hk, turn_enum a (s1.heap.objs.size + 1) s1.heap.objs.size, ⟨⟨.none, he⟩, hit, Nat.succ_ne_self _⟩, fpo, q⟩
  · obtain ⟨u, rfl, ru⟩ := vals1 r1
    cases ru
    obtain ⟨its, rv, pl, hz⟩ := I1.tuple hq
    refine call_enumT (show s1.heap.IsTuple a its.toArray from pl) fun h' he hit hk => wpAny_pyIter_enum he ?_
    exact ⟨_, _, _, _, H1, rfl, I1.kept (t' := s1.toks) hk, turn_enumT a (s1.heap.objs.size + 1) s1.heap.objs.size xs, ⟨⟨.none, he⟩, hit, Nat.succ_ne_self _, Nat.zero_le _⟩, fpo, q⟩
  · obtain ⟨u, rfl, ru⟩ := vals1 r1
    obtain ⟨t, rfl⟩ := ru
    refine call_enumerate_str fun h' he hit hsz hk => wpAny_pyIter_enum he ?_
    exact ⟨_, _, _, _, H1, rfl, I1.kept (t' := s1.toks) hk, turn_enumS (s1.heap.objs.size + 1) s1.heap.objs.size y t, ⟨⟨.none, he⟩, hit, Nat.succ_ne_self _, Nat.zero_le _⟩, fpo, q⟩
def enumI (f : ME) : MI := fun env st => (f env st).bind fun p => (seqOf p.1).map fun ds => (enumD ds, p.2)
theorem Rps.mapStr : ∀ (xs : List Str), Rps K dk F (xs.map V.str) (xs.map D.str) := Rps.ofStrs
theorem ii_enum {te : TE} {f : ME} (h : Im K te f) : ImI K (iEnumA K (tCons te tNil)) (enumI f) := fun dk H0 F0 F σ H env st ds st' g e R q => by
  obtain ⟨⟨d, s1⟩, h1, e⟩ := bnd e
  obtain ⟨es, h2, e⟩ := mpd e
  cases e
  refine h dk H0 F0 F σ H env st d s1 g h1 _ fun v F1 H1 x1 g1 r1 => ?_
  replace h2 : seqOf d = some es := h2
  cases d with
  | lst xs =>
    cases h2
    cases r1 with
    | lst a1 a2 => exact .inl ⟨_, _, rfl, SqL.of (g1.wd.sub.lst a1), q _ F1 H1 x1 g1 (stdy_enumL a1 a2)⟩
  | tup xs =>
    cases h2
    cases r1 with
    | tup a1 a2 => exact .inr (.inl ⟨_, _, rfl, g1.wd.sub.sqT a1, q _ F1 H1 x1 g1 (stdy_enumE (fun H2 le => le.sqT a1) a2)⟩)
  | str x =>
    cases h2
    cases r1
    exact .inr (.inr ⟨_, rfl, q _ F1 H1 x1 g1 (stdy_enumE (fun _ _ => trivial) (Rps.ofStrs _))⟩)
  | _ => cases h2
end
end MD

set_option Elab.async false
set_option linter.all false
set_option maxRecDepth 100000
set_option maxHeartbeats 2000000
namespace MD
open PySem PySem.Spec PyProof.Rows L2

/-- a def keeps its promise wherever no repr is running -/
structure FnG (P : Program) (w : World) (K : Fg) (mg : Str → Option Value) (base : Heap) (k : Nat) (f : Addr) (fd : FuncData) (ps : List Str) (sp : Sp) : Prop where
  len : ∀ vs H Q E, sp vs H Q E → vs.length = ps.length
  run : ∀ (A : Around) (outer : List Env) (s : Shared) (H : Hp) (args : Args) (us : List Value) (vs : List V) (Q : VK) (E : XK), Room k A → A.guards = some [] → Env0 P w K mg base A outer s H → BindsTo s fd args (ps.zip us) → Vals vs us →
    sp vs H Q E → codeAny (model P w) A (.call (.ref f) args) (CR CX0 outer P w H s Q E) s

section
variable {X : Cx} {k : Nat} {f : Addr} {fd : FuncData} {ps : List Str} {sp : Sp} {x : Str} {p pos : Pos} {e : Expr} {es : List Expr} {t : TA}
theorem runG {pins : List (Addr × Obj)} {σ : L2.St} {H : Hp} {s : Shared} {Q : VK} {us : List Value} {vs : List V} (F : FnG X.prog X.w X.K X.mg X.base k f fd ps sp) (hr : Room k X.A) (gd : X.A.guards = some []) (hb : Binds X.K fd ps [])
    (I : L2.Inv X pins σ H s) (r : Vals vs us) (h : sp vs H Q E0) : wpAny (model X.prog X.w) X.A (call (.ref f) us) (EP X pins σ Q) X.xe s := by
  have hl : us.length = ps.length := r.length.symm.trans (F.len _ _ _ _ h)
  have bb := hb s us I.kIn (by rw [List.append_nil]; exact hl)
  rw [List.append_nil] at bb
  refine wpAny_call (codeAny_mono (F.run X.A X.stack s H ⟨us, []⟩ us vs Q E0 hr gd I.env0 bb r h) fun rr s' hq => ?_)
  cases rr with
  | error er => exact False.elim hq
  | ok fl =>
    cases fl with
    | ret u => exact I.after hq
    | next => exact False.elim hq
    | brk => exact False.elim hq
    | cont => exact False.elim hq
theorem pe_callG (F : FnG X.prog X.w X.K X.mg X.base k f fd ps sp) (hr : Room k X.A) (gd : X.A.guards = some []) (hg : Gl X x) (hm : X.mg x = some (.ref f)) (hk : PySem.W.keepIn X.K (.ref f) = true) (hb : Binds X.K fd ps [])
    (ha : PA X (e :: es) t) (hdb : (x == ("__debug__" : Str)) = false := by decide) (he : starEach (e :: es) X.env = (false, eval e X.env) :: starEach es X.env := by rfl) (hpl : (backTo pos (starEach es X.env)).any (·.1) = false := by rfl) :
    PE X (.Call (.Name x p) (e :: es) [] pos) (tCall sp [] E0 t) := by
  constructor
  intro pins s σ H Q I h
  refine wpAny_Call_Name_kw (ld_glob I hg hm ?_ hdb)
  refine PySem.W.callWith_K (h₀ := X.base) I.ok.mod.kin hk (thn (ha.run pos pins s σ H _ I h) fun us s1 q0 => ?_) he hpl
  obtain ⟨vs, H1, I1, r, q⟩ := q0
  rw [List.append_nil] at q
  exact ⟨I1.kIn, runG F hr gd hb I1 r q⟩
end

theorem guards_deeper {A : Around} (env : Env) (h : A.guards = some []) : (A.deeper env).guards = some [] := by
  first | exact h | (simp [Around.deeper, h]) 

/-- a def of the text by its body -/
theorem fnG_of {P : Program} {w : World} {K : Fg} {mg : Str → Option Value} {base : Heap} {x qual : Str} {st : Stmt} {f : Addr} {fd : FuncData} {N ps : List Str} {k : Nat} {sp : Sp} (Fn : Fun K x qual st f fd) (S : FnScope N ps (defScope st))
    (len : ∀ vs H Q E, sp vs H Q E → vs.length = ps.length)
    (hbody : ∀ (cdv : Value) (A : Around) (outer : List Env) (s : Shared) (H : Hp) (vs : List V) (Q : VK) (E : XK), Room k (A.deeper (envOfC qual (defScope st) s.heap.objs.size f cdv)) → (A.deeper (envOfC qual (defScope st) s.heap.objs.size f cdv)).guards = some [] → sp vs H Q E →
      ∃ t, PSs (cxOf CX0 P w K mg base N qual (defScope st) f cdv A outer s H E).nox (defBody st) t ∧ t { nx := fun _ H' => Q .non H', rt := Q } (L2.start N vs) H) : FnG P w K mg base (k + 1) f fd ps sp := by
  refine ⟨len, fun A outer s H args us vs Q E hr gd e0 hb r hsp => ?_⟩
  -- the promise, asked only where no repr is running
  let sp' : Sp := fun vs' H' Q' E' => sp vs' H' Q' E'
  obtain ⟨oc, od, kV, doc, pm, an, cdv, ct, osl, rfl, lk, hcd⟩ := Fn.ex
  have hl := len _ _ _ _ hsp
  have KX : K.In s.heap := e0.mod.kin.keeps fun b o e => (e0.bs b o e).1
  have lim : s.heap.NoLimit := e0.mod.nolimit.keeps fun b o e => (e0.bs b o e).1
  have hkind : ∀ y ∈ ps.zip us, (defScope st).names.lookup y.1 = some .local ∨ ((defScope st).names.lookup y.1 = some .cell ∧ ((cellsFrom (s.heap.objs.size + 1) (defScope st).names []).lookup y.1).isSome = true) := by
    rintro ⟨n, v⟩ hy
    rcases S.par n (List.of_mem_zip hy).1 with q | q
    · exact .inl q
    · exact .inr ⟨q, PySem.W.cellsFrom_some _ _ _ (.inl q)⟩
  refine codeAny_call_function hr.depth (KX _ _ lk) rfl S.co S.gen rfl (PySem.W.codeRec_of KX hcd) (hb _ _ _ _ ?_)
  refine wpAny_newFunctionEnv_cells S.kind hkind fun env he s1 y => ?_
  subst he
  refine ⟨lim.keeps y.toInCall.keep, codeAny_func ?_⟩
  obtain ⟨t, ht, hq⟩ := hbody cdv A outer s H vs Q E (hr.deeper _) (guards_deeper _ gd) hsp
  have I := inv_start (CX := CX0) (E := E) (qual := qual) (f := f) (cd := cdv) S hr.hd e0 hl r y
  refine wpAny_mono ((ht.nox).run [] s1 (L2.start N vs) H _ I hq) (fun fl s' hs => ?_) fun er s' hs => hs
  cases fl with
  | ret u =>
    obtain ⟨v, σ', H', J, rv, q⟩ := hs
    exact ⟨v, H', J.os, J.bare, J.base, J.hok, rv, q⟩
  | next =>
    obtain ⟨σ', H', J, q⟩ := hs
    exact ⟨V.non, H', J.os, J.bare, J.base, J.hok, rfl, q⟩
  | brk =>
    obtain ⟨_, _, _, q⟩ := hs
    exact False.elim q
  | cont =>
    obtain ⟨_, _, _, q⟩ := hs
    exact False.elim q

/-! ### promises by mirrors -/
abbrev MF := List D → S → Option (D × S)
/-- called with these data it gives what the mirror gives; n parameters -/
def spD (K : Fg) (n : Nat) (m : MF) : Sp := fun vs H Q _ => vs.length = n ∧ ∃ (dk : Dk) (F : Fz) (ds : List D) (st : S) (d : D) (st' : S), Wd K dk F H st ∧ Rps K dk F vs ds ∧ m ds st = some (d, st') ∧
  ∀ v F' H', Ext dk F H F' H' → Wd K dk F' H' st' → Rp K dk F' v d → Q v H'
def callM (m : MF) (a : MA) : ME := fun env st => (a env st).bind fun p => m p.1 p.2
section
variable {K : Fg}
theorem im_call {n : Nat} {m : MF} {ta : TA} {a : MA} {E : XK} (ha : ImA K ta a) (hn : ∀ env st p, a env st = some p → p.1.length = n) : Im K (tCall (spD K n m) [] E ta) (callM m a) := fun dk H0 F0 F σ H env st d st' g e Q q => by
  obtain ⟨⟨ds, s1⟩, h1, e⟩ := bnd e
  refine ha dk H0 F0 F σ H env st ds s1 g h1 _ fun vs F1 H1 x1 g1 r1 => ?_
  rw [List.append_nil]
  exact ⟨r1.length.trans (hn _ _ _ h1), dk, F1, ds, s1, d, st', g1.wd, r1, e, fun v F' H' x w r => q v F' H' (x1.trans x) (g1.step x w) r⟩
theorem an_nil : ∀ env st p, aNil env st = some p → p.1.length = 0 := fun env st p h => by cases h; rfl
theorem an_cons {f : ME} {r : MA} {n : Nat} (h : ∀ env st p, r env st = some p → p.1.length = n) : ∀ env st p, aCons f r env st = some p → p.1.length = n + 1 := fun env st p e => by
  obtain ⟨x, h1, e⟩ := bnd e
  obtain ⟨y, h2, e⟩ := mpd e
  cases e
  simp [h _ _ _ h2]
/-- a def's mirror, by its body's -/
def runM (N : Nat) (b : MS) : MF := fun ds st => (b (ds.map Sl.val ++ List.replicate (N - ds.length) Sl.un) st).bind fun p => match p.1 with
  | .rt d => some (d, p.2)
  | .nx _ => some (.non, p.2)
  | _ => none
theorem Rps.slots {dk : Dk} {F : Fz} : ∀ {vs : List V} {ds : List D} {i : Nat} {s : Sl}, Rps K dk F vs ds → (ds.map Sl.val)[i]? = some s → ∃ v d, vs[i]? = some v ∧ s = .val d ∧ Rp K dk F v d := fun {vs ds i s} r e => by
  rw [List.getElem?_map] at e
  obtain ⟨d, h1, h2⟩ := mpd e
  obtain ⟨v, h3, h4⟩ := r.get h1
  exact ⟨v, d, h3, h2.symm, h4⟩
theorem good_start {dk : Dk} {F : Fz} {H : Hp} {N : List Str} {vs : List V} {ds : List D} {st : S} (w : Wd K dk F H st) (r : Rps K dk F vs ds) (hl : vs.length ≤ N.length) : Good K dk H F F (L2.start N vs) H (ds.map Sl.val ++ List.replicate (N.length - ds.length) Sl.un) st := by
  have hlen := r.length
  refine ⟨w, Ext.refl F H, ?_, fun i s e => ?_, fun i j es fs p hne e1 e2 e3 => ?_⟩
  · unfold L2.start
    simp
    omega
  · by_cases hi : i < ds.length
    · rw [List.getElem?_append_left (by simpa using hi)] at e
      obtain ⟨v, d, h1, rfl, h2⟩ := r.slots e
      refine ⟨v, ?_, h2⟩
      unfold L2.start
      rw [List.getElem?_append_left (by rw [List.length_map, hlen]; exact hi), List.getElem?_map, h1]
      rfl
    · rw [List.getElem?_append_right (by simpa using hi), List.getElem?_replicate] at e
      split at e
      · cases e; trivial
      · cases e
  · exfalso
    by_cases hi : i < ds.length
    · rw [List.getElem?_append_left (by simpa using hi)] at e1
      obtain ⟨v, d, _, h, _⟩ := r.slots e1
      cases h
    · rw [List.getElem?_append_right (by simpa using hi), List.getElem?_replicate] at e1
      split at e1 <;> cases e1
/-- THE RULE: a def by its body's term t and the mirror b of t -/
theorem fnD {P : Program} {w : World} {mg : Str → Option Value} {base : Heap} {x qual : Str} {st : Stmt} {f : Addr} {fd : FuncData} {N ps : List Str} {k : Nat} {b : MS} (Fn : Fun K x qual st f fd) (S : FnScope N ps (defScope st)) (hN : ps.length ≤ N.length)
    (hbody : ∀ (cdv : Value) (A : Around) (outer : List Env) (s : Shared) (H : Hp) (E : XK), Room k (A.deeper (envOfC qual (defScope st) s.heap.objs.size f cdv)) → (A.deeper (envOfC qual (defScope st) s.heap.objs.size f cdv)).guards = some [] →
      ∃ t, PSs (cxOf CX0 P w K mg base N qual (defScope st) f cdv A outer s H E).nox (defBody st) t ∧ ImS K t b) : FnG P w K mg base (k + 1) f fd ps (spD K ps.length (runM N.length b)) := by
  refine fnG_of Fn S (fun vs H Q E h => h.1) fun cdv A outer s H vs Q E hr gd h => ?_
  obtain ⟨hlv, dk, F, ds, s0, d, s1, wd, r, e, q⟩ := h
  obtain ⟨t, h1, h2⟩ := hbody cdv A outer s H E hr gd
  refine ⟨t, h1, ?_⟩
  obtain ⟨⟨fl, s2⟩, e1, e⟩ := bnd e
  refine h2 dk H F F (L2.start N vs) H _ s0 fl s2 (good_start wd r (by rw [hlv]; exact hN)) e1 _ ?_
  cases fl with
  | rt d' => cases e; exact fun v F' H' x w r => q v F' H' x w r
  | nx en => cases e; exact fun F' σ' H' le g => q .non F' H' g.ext g.wd .non
  | bk en => cases e
  | ct en => cases e
end
end MD

set_option Elab.async false
set_option linter.all false
set_option maxRecDepth 100000
set_option maxHeartbeats 2000000
namespace MD
open PySem PySem.Spec PyProof.Rows L2

/-! ### the deck -/
structure DC where
  m1 : Int
  c1 : Int
  c2 : Int
  m2 : Int
def atOf (st : S) : Nat := ((st.n + 1) % (st.cells.length : Int)).toNat
def cellOf (st : S) : Int := if st.cells = [] then 0 else st.cells.getD (atOf st) 0
def drawV (c : DC) (many : Int) (st : S) : Int :=
  if cellOf st ≥ 10 ^ 18 then cellOf st % many else ((cellOf st % c.m1 + c.c1 * (st.n + 1) + c.c2) ^ 5 % c.m2) % many
def drawT (many : Int) (st : S) : S :=
  if cellOf st ≥ 10 ^ 18 then ⟨st.cells.set (atOf st) (cellOf st / many), st.n + 1, st.ob⟩ else ⟨st.cells, st.n + 1, st.ob⟩
def nMax : Int := 1000000000000
def drawM (c : DC) : MF
  | [.deck, .int many], st => if 0 < many ∧ many < 1073741824 ∧ 0 ≤ st.n ∧ st.n < nMax then some (.int (drawV c many st), drawT many st) else none
  | _, _ => none
def DC.ok (c : DC) : Prop := 0 < c.m1 ∧ c.m1 < 2 ^ 32 ∧ 0 < c.m2 ∧ c.m2 < 2 ^ 32 ∧ 0 ≤ c.c1 ∧ c.c1 < 2 ^ 16 ∧ 0 ≤ c.c2 ∧ c.c2 < 2 ^ 16

/-! readings used by the draw -/
section
variable {K : Fg}
def rInt1 : List V → Hp → VK → Prop := fun xs H Q => (∃ i, xs = [.int i] ∧ Q (.int i) H) ∨ ∃ k, xs = [.bl k] ∧ Q (.int (if k then 1 else 0)) H
def rLen1 (K : Fg) : List V → Hp → VK → Prop := fun xs H Q => ∃ x n, xs = [x] ∧ LenV K x H n ∧ Q (.int n) H
abbrev tInt (t : TE) : TE := tCB rInt1 (tCons t tNil)
abbrev tLen (K : Fg) (t : TE) : TE := tCB (rLen1 K) (tCons t tNil)
abbrev tIx (K : Fg) (a b : TE) : TE := tOp (rIx K) a b
abbrev tI (i : Int) : TE := tC (.int i)
abbrev tDk1 (K : Fg) : TE := tIx K (tVar 0) (tI 1)
abbrev tDk0 (K : Fg) : TE := tIx K (tVar 0) (tI 0)
def tDraw1 (K : Fg) : TS := tAsg (tOp (rI0 fun i j => .int (i + j)) (tDk1 K) (tI 1)) (gSub (tVar 0) (tI 1) rSetL)
def tDraw2 (K : Fg) : TS := tAsg (tTup (tCons (tI 0) (tCons (tUn (rU fun i => .int (-i)) (tI 1)) tNil))) (gTup K 2 (gCons (gName 2) (gCons (gName 3) gNil)))
def tDraw3 (K : Fg) : TS := tIfS (tTest (tOp (rI0 fun i j => .bl (decide (j < i))) (tLen K (tDk0 K)) (tI 0)))
  (tSeq (tAsg (tOp (rI (fun _ j => 0 < j) fun i j => .int (i % j)) (tInt (tDk1 K)) (tLen K (tDk0 K))) (gName 3)) (tAsg (tIx K (tDk0 K) (tVar 3)) (gName 2))) tNext
def tDraw4 (K : Fg) : TS := tIfS (tTest (tOp (rI0 fun i j => .bl (decide (j ≤ i))) (tVar 2) (tOp (rI CPow fun i j => .int (i ^ j.toNat)) (tI 10) (tI 18))))
  (tSeq (tAsg (tOp (rI CDiv fun i j => .int (i / j)) (tInt (tVar 2)) (tVar 1)) (gSub (tDk0 K) (tVar 3) rSetL)) (tRet (tOp (rI (fun _ j => 0 < j) fun i j => .int (i % j)) (tInt (tVar 2)) (tVar 1)))) tNext
def tDraw5 (K : Fg) (c : DC) : TS := tAsg (tOp (rI0 fun i j => .int (i + j)) (tOp (rI0 fun i j => .int (i + j)) (tOp (rI (fun _ j => 0 < j) fun i j => .int (i % j)) (tInt (tVar 2)) (tI c.m1))
  (tOp (rI CMul fun i j => .int (i * j)) (tI c.c1) (tDk1 K))) (tI c.c2)) (gName 4)
def tDraw6 (K : Fg) (c : DC) : TS := tRet (tOp (rI (fun _ j => 0 < j) fun i j => .int (i % j)) (tInt (tOp (rI (fun _ j => 0 < j) fun i j => .int (i % j)) (tInt (tOp (rI CPow fun i j => .int (i ^ j.toNat)) (tVar 4) (tI 5))) (tI c.m2))) (tVar 1))
def tDraw (K : Fg) (c : DC) : TS := tSeq (tDraw1 K) (tSeq (tDraw2 K) (tSeq (tDraw3 K) (tSeq (tDraw4 K) (tSeq (tDraw5 K c) (tDraw6 K c)))))

theorem at0 {α : Type} {x y : α} : L2.atI [x, y] 0 = some x := rfl
theorem at1 {α : Type} {x y : α} : L2.atI [x, y] 1 = some y := rfl
/-- deck[1], deck[0] -/
theorem rd1 {H : Hp} {a c : Addr} {n : Int} {σ : L2.St} {Q : VK} (hs : σ[0]? = some (some (.ref a))) (h : H a = some (.lst [.ref c, .int n])) (q : Q (.int n) H) : tDk1 K σ H Q :=
  ⟨_, hs, .inl ⟨a, _, 1, _, rfl, rfl, SqL.of h, at1, q⟩⟩
theorem rd0 {H : Hp} {a c : Addr} {n : Int} {σ : L2.St} {Q : VK} (hs : σ[0]? = some (some (.ref a))) (h : H a = some (.lst [.ref c, .int n])) (q : Q (.ref c) H) : tDk0 K σ H Q :=
  ⟨_, hs, .inl ⟨a, _, 0, _, rfl, rfl, SqL.of h, at0, q⟩⟩

theorem draw_ok {dk : Dk} {F : Fz} {H : Hp} {st : S} {c : DC} {many : Int} (hc : c.ok) (w : Wd K dk F H st) (h1 : 0 < many) (h2 : many < 1073741824) (h3 : 0 ≤ st.n) (h4 : st.n < nMax) {E : Ends}
    (q : ∀ F' H', Ext dk F H F' H' → Wd K dk F' H' (drawT many st) → E.rt (.int (drawV c many st)) H') : tDraw K c E [some (.ref dk.1), some (.int many), none, none, none] H := by
  obtain ⟨k1, k2, k3, k4, k5, k6, k7, k8⟩ := hc
  -- deck[1] = deck[1] + 1
  refine rd1 rfl w.d1 ⟨st.n, 1, rfl, rfl, _, rfl, dk.1, _, 1, 1, rfl, rfl, w.d1, rfl, ?_⟩
  have hH1 : upd H dk.1 (.lst ([V.ref dk.2, V.int st.n].set 1 (V.int (st.n + 1)))) = upd H dk.1 (.lst [.ref dk.2, .int (st.n + 1)]) := rfl
  rw [hH1]
  have a1 : ∀ (H' : Hp), H' = upd H dk.1 (.lst [.ref dk.2, .int (st.n + 1)]) → H' dk.1 = some (.lst [.ref dk.2, .int (st.n + 1)]) ∧ H' dk.2 = some (.lst (st.cells.map V.int)) := by
    rintro H' rfl
    exact ⟨upd_same, by rw [upd_ne w.ne.symm]; exact w.d2⟩
  generalize hHH : upd H dk.1 (.lst [.ref dk.2, .int (st.n + 1)]) = H1
  obtain ⟨b1, b2⟩ := a1 H1 hHH.symm
  -- cell, at = 0, -1
  refine ⟨1, rfl, by show 2 ≤ sizeLine; decide, fun p hp => ⟨p, _, rfl, SqT.of upd_same, rfl, _, _, rfl, _, _, rfl, rfl, ?_⟩⟩
  have p1 : p ≠ dk.1 := (ne_of_none b1 hp).symm
  have p2 : p ≠ dk.2 := (ne_of_none b2 hp).symm
  generalize hHp : upd H1 p (.tup [.int 0, .int (-1)]) = H2
  have c1 : H2 dk.1 = some (.lst [.ref dk.2, .int (st.n + 1)]) := by rw [← hHp, upd_ne p1.symm]; exact b1
  have c2 : H2 dk.2 = some (.lst (st.cells.map V.int)) := by rw [← hHp, upd_ne p2.symm]; exact b2
  have hp0 : H p = none := by
    rw [← hHH, upd_ne p1] at hp; exact hp
  have keep : ∀ a o, H a = some o → a ≠ dk.1 → a ≠ dk.2 → H2 a = some o := fun a o e n1 n2 => by
    rw [← hHp, upd_ne (ne_of_none e hp0), ← hHH, upd_ne n1]; exact e
  have keepF : Sb F H2 := fun a o e => by
    have m1 : a ≠ dk.1 := fun z => by rw [z, w.f1.1] at e; cases e
    have m2 : a ≠ dk.2 := fun z => by rw [z, w.f2.1] at e; cases e
    rcases w.sub a o e with q | ⟨od, kvs, q1, q2⟩
    · exact .inl (keep a o q m1 m2)
    · exact .inr ⟨od, kvs, q1, keep a _ q2 m1 m2⟩
  have keepO : ∀ (H3 : Hp), (∀ a o, H2 a = some o → a ≠ dk.2 → H3 a = some o) → ∀ (n : Nat) (a : Addr) (o : Ob), F.mu[n]? = some a → st.ob[n]? = some o → F a = none ∧ ObAt K dk F H3 a o := fun H3 hk n a o e1 e2 => by
    obtain ⟨q1, q2⟩ := w.ob n a o e1 e2
    have m1 : a ≠ dk.1 := fun z => w.f1.2 (z ▸ List.mem_of_getElem? e1)
    have m2 : a ≠ dk.2 := fun z => w.f2.2 (z ▸ List.mem_of_getElem? e1)
    exact ⟨q1, q2.keep (fun o e => hk a o (keep a o e m1 m2) m2) (Le.refl F)⟩
  have keepK : ∀ a o, H2 a = some o → Fro o → H a = some o := fun a o e f => by
    rw [← hHp, ← hHH] at e
    exact updK (by rintro ⟨_, _, z⟩; cases z) a o (updK (by rintro ⟨_, _, z⟩; cases z) a o e f) f
  have keepM : ∀ a, H a ≠ none → H2 a ≠ none := fun a e z => by
    by_cases n1 : a = dk.1
    · rw [n1, c1] at z; cases z
    · by_cases n2 : a = dk.2
      · rw [n2, c2] at z; cases z
      · cases q : H a with
        | none => exact e q
        | some o => rw [keep a o q n1 n2] at z; cases z
  have ext2 : Ext dk F H F H2 := ⟨fun a o e n1 n2 _ => keep a o e n1 n2, Le.refl F, fun _ h _ => h, keepM, fun _ h => .inl h, keepK⟩
  have wd2 : Wd K dk F H2 ⟨st.cells, st.n + 1, st.ob⟩ := ⟨keepF, c1, c2, w.f1, w.f2, w.ne, w.ml, w.nd, keepO H2 fun _ _ e _ => e⟩
  -- the cell
  have mid : ∀ (E' : Ends), (∀ v3, (st.cells ≠ [] → v3 = ((atOf st : Nat) : Int) ∧ atOf st < st.cells.length) → E'.nx [some (.ref dk.1), some (.int many), some (.int (cellOf st)), some (.int v3), none] H2) →
      tDraw3 K E' [some (.ref dk.1), some (.int many), some (.int 0), some (.int (-1)), none] H2 := by
    intro E' hE
    refine rd0 rfl c1 ⟨_, _, rfl, .inl ⟨_, SqL.of c2, rfl⟩, _, 0, rfl, rfl, _, rfl, ?_⟩
    by_cases hl : st.cells = []
    · dsimp only
      rw [if_neg (by simp [hl])]
      have e0 : cellOf st = 0 := by unfold cellOf; rw [if_pos hl]
      have := hE (-1) fun z => absurd hl z
      rw [e0] at this
      exact this
    · have hlen : 0 < st.cells.length := List.length_pos_iff.mpr hl
      dsimp only
      rw [if_pos (by simp; exact hlen)]
      refine rd1 rfl c1 (.inl ⟨_, rfl, rd0 rfl c1 ⟨_, _, rfl, .inl ⟨_, SqL.of c2, rfl⟩, _, _, rfl, rfl, by simp; exact hlen, ?_⟩⟩)
      have hm0 : 0 ≤ (st.n + 1) % (st.cells.length : Int) := Int.emod_nonneg _ (by omega)
      have hm1 : (st.n + 1) % (st.cells.length : Int) < st.cells.length := Int.emod_lt_of_pos _ (by omega)
      have hat : ((atOf st : Nat) : Int) = (st.n + 1) % (st.cells.length : Int) := by unfold atOf; omega
      have hal : atOf st < st.cells.length := by omega
      show tAsg (tIx K (tDk0 K) (tVar 3)) (gName 2) E' [some (.ref dk.1), some (.int many), some (.int 0), some (.int ((st.n + 1) % ((st.cells.map V.int).length : Int))), none] H2
      rw [List.length_map, ← hat]
      have hg : L2.atI (st.cells.map V.int) ((atOf st : Nat) : Int) = some (.int (st.cells.getD (atOf st) 0)) := by
        refine atI_nat ?_
        rw [List.getElem?_map, List.getElem?_eq_getElem hal, List.getD_eq_getElem?_getD, List.getElem?_eq_getElem hal]
        rfl
      refine rd0 rfl c1 ⟨_, rfl, .inl ⟨_, _, _, _, rfl, rfl, SqL.of c2, hg, ?_⟩⟩
      have e0 : cellOf st = st.cells.getD (atOf st) 0 := by unfold cellOf; rw [if_neg hl]
      have := hE ((atOf st : Nat) : Int) fun _ => ⟨rfl, hal⟩
      rw [e0] at this
      exact this
  refine mid _ fun v3 hv3 => ?_
  -- a great cell
  refine ⟨_, rfl, 10, 18, rfl, rfl, ⟨by decide, by decide, by decide⟩, _, _, rfl, rfl, _, rfl, ?_⟩
  by_cases hbig : cellOf st ≥ 10 ^ 18
  · have hne : st.cells ≠ [] := fun z => by
      have e0 : cellOf st = 0 := by unfold cellOf; rw [if_pos z]
      rw [e0] at hbig
      revert hbig; decide
    obtain ⟨e3, hal⟩ := hv3 hne
    dsimp only
    rw [if_pos (by simpa using hbig)]
    refine ⟨_, rfl, .inl ⟨_, rfl, _, rfl, _, _, rfl, rfl, ⟨h1, h2⟩, ?_⟩⟩
    refine rd0 rfl c1 ⟨_, rfl, dk.2, _, v3, atOf st, rfl, rfl, c2, ?_, ?_⟩
    · rw [e3]
      unfold ixN
      rw [if_pos (by omega), if_pos (by rw [List.length_map]; omega)]
      simp
    · refine ⟨_, rfl, .inl ⟨_, rfl, _, rfl, _, _, rfl, rfl, h1, ?_⟩⟩
      have ev : drawV c many st = cellOf st % many := by unfold drawV; rw [if_pos hbig]
      have et : drawT many st = ⟨st.cells.set (atOf st) (cellOf st / many), st.n + 1, st.ob⟩ := by unfold drawT; rw [if_pos hbig]
      have es : (st.cells.map V.int).set (atOf st) (.int (cellOf st / many)) = (st.cells.set (atOf st) (cellOf st / many)).map V.int := by rw [List.map_set]
      rw [es]
      have fin := q F (upd H2 dk.2 (.lst ((st.cells.set (atOf st) (cellOf st / many)).map V.int))) ⟨fun a o e n1 n2 _ => by rw [upd_ne n2]; exact keep a o e n1 n2, Le.refl F, fun _ h _ => h, fun a e z => by
        by_cases n2 : a = dk.2
        · rw [n2, upd_same] at z; cases z
        · rw [upd_ne n2] at z; exact keepM a e z, fun _ h => .inl h, fun a o e f => keepK a o (updK (by rintro ⟨_, _, z⟩; cases z) a o e f) f⟩ (by
          rw [et]
          exact ⟨fun a o e => by rw [upd_ne (fun z => by rw [z, w.f2.1] at e; cases e)]; exact keepF a o e, by rw [upd_ne w.ne]; exact c1, upd_same, w.f1, w.f2, w.ne, w.ml, w.nd, keepO _ fun a o e m => by rw [upd_ne m]; exact e⟩)
      rw [ev] at fin
      exact fin
  · dsimp only
    rw [if_neg (by simpa using hbig)]
    have hmix : 0 ≤ cellOf st % c.m1 ∧ cellOf st % c.m1 < c.m1 := ⟨Int.emod_nonneg _ (by omega), Int.emod_lt_of_pos _ k1⟩
    refine ⟨_, rfl, .inl ⟨_, rfl, _, _, rfl, rfl, k1, ?_⟩⟩
    refine rd1 rfl c1 ⟨_, _, rfl, rfl, .inl ⟨by omega, by omega⟩, _, _, rfl, rfl, _, _, rfl, rfl, ?_⟩
    have hb : c.c1 * (st.n + 1) ≤ 65536 * 1000000000001 := by
      unfold nMax at h4
      have x1 : c.c1 * (st.n + 1) ≤ 65536 * (st.n + 1) := Int.mul_le_mul_of_nonneg_right (by omega) (by omega)
      omega
    have hb0 : 0 ≤ c.c1 * (st.n + 1) := Int.mul_nonneg k5 (by omega)
    refine ⟨_, rfl, _, _, rfl, rfl, ⟨by decide, by decide, ?_⟩, .inl ⟨_, rfl, _, _, rfl, rfl, k3, .inl ⟨_, rfl, _, rfl, _, _, rfl, rfl, h1, ?_⟩⟩⟩
    · omega
    · have ev : drawV c many st = ((cellOf st % c.m1 + c.c1 * (st.n + 1) + c.c2) ^ 5 % c.m2) % many := by unfold drawV; rw [if_neg hbig]
      have et : drawT many st = ⟨st.cells, st.n + 1, st.ob⟩ := by unfold drawT; rw [if_neg hbig]
      have fin := q F H2 ext2 (by rw [et]; exact wd2)
      rw [ev] at fin
      exact fin
end
end MD

set_option Elab.async false
set_option linter.all false
set_option maxRecDepth 100000
set_option maxHeartbeats 2000000
namespace MD
open PySem PySem.Spec PyProof.Rows L2

section
variable {K : Fg} {P : Program} {w : World} {mg : Str → Option Value} {base : Heap}
theorem fn_draw {x qual : Str} {st : Stmt} {f : Addr} {fd : FuncData} {N ps : List Str} {k : Nat} {c : DC} (hc : c.ok) (Fn : Fun K x qual st f fd) (S : FnScope N ps (defScope st)) (hN : N.length = 5) (hp : ps.length = 2)
    (hbody : ∀ (cdv : Value) (A : Around) (outer : List Env) (s : Shared) (H : Hp) (E : XK), PSs (cxOf CX0 P w K mg base N qual (defScope st) f cdv A outer s H E).nox (defBody st) (tDraw K c)) : FnG P w K mg base (k + 1) f fd ps (spD K 2 (drawM c)) := by
  refine fnG_of Fn S (fun vs H Q E h => by rw [hp]; exact h.1) fun cdv A outer s H vs Q E hr gd h => ⟨_, hbody cdv A outer s H E, ?_⟩
  obtain ⟨hlv, dk, F, ds, s0, d, s1, wd, r, e, q⟩ := h
  unfold drawM at e
  split at e
  · split at e
    · rename_i hcnd
      cases e
      cases r with
      | cons a b => cases b with
        | cons b c' =>
          cases c'
          cases a
          cases b
          have es : ∀ i : Int, L2.start N [V.ref dk.1, V.int i] = [some (.ref dk.1), some (.int i), none, none, none] := fun i => by
            unfold L2.start
            rw [hN]
            rfl
          rw [es _]
          exact draw_ok hc wd hcnd.1 hcnd.2.1 hcnd.2.2.1 hcnd.2.2.2 fun F' H' x w => q _ F' H' x w (.int _)
    · cases e
  · cases e

/-! ### the deck is made -/
def absI (i : Int) : Int := if i < 0 then -i else i
def spDeck (K : Fg) : Sp := fun vs H Q _ => ∃ (a : Addr) (ns : List Int), vs = [.ref a] ∧ SqL K H a (ns.map V.int) ∧ ns.length ≤ 63 ∧
  ∀ (dk : Dk) (H' : Hp), Lh H H' → Wd K dk ⟨fun _ => none, []⟩ H' ⟨ns.map absI, 0, []⟩ → Q (.ref dk.1) H'
def rAbs1 : List V → Hp → VK → Prop := fun xs H Q => ∃ i, xs = [.int i] ∧ Q (.int (if i < 0 then -i else i)) H
def tDeck (K : Fg) : TS := tRet (tLst (tCons (tLc (iList K (tSl (rSlL K) (tVar 0) tNoPart (tPart (tI 63)))) (gName 1) tYes (tCB rAbs1 (tCons (tVar 1) tNil)) [1]) (tCons (tI 0) tNil)))
theorem deck_ok {H : Hp} {a : Addr} {ns : List Int} {E : Ends} (hs : SqL K H a (ns.map V.int)) (hl : ns.length ≤ 63) (q : ∀ (dk : Dk) (H' : Hp), Lh H H' → Wd K dk ⟨fun _ => none, []⟩ H' ⟨ns.map absI, 0, []⟩ → E.rt (.ref dk.1) H') :
    tDeck K E [some (.ref a), none] H := by
  refine ⟨_, rfl, _, rfl, a, _, rfl, hs, fun p hp => ?_⟩
  have ec : cutV (ns.map V.int) none (some 63) = ns.map V.int := by
    unfold cutV
    have e1 : HT.sIx (ns.map V.int).length 0 none = 0 := rfl
    have e2 : HT.sIx (ns.map V.int).length (ns.map V.int).length (some 63) = ns.length := by
      rw [List.length_map]
      have := HT.sIx_nat ns.length ns.length 63
      rw [show ((63 : Nat) : Int) = 63 from rfl] at this
      rw [this]; omega
    rw [e1, e2, List.drop_zero, Nat.sub_zero]
    exact List.take_of_length_le (by rw [List.length_map]; exact Nat.le_refl _)
  rw [ec]
  refine ⟨p, rfl, ⟨_, SqL.of upd_same⟩, fun c hc => ?_⟩
  have ncp : c ≠ p := fun z => by rw [z, upd_same] at hc; cases hc
  have hcH : H c = none := by rw [upd_ne ncp] at hc; exact hc
  refine lc_list (xs := ns.map V.int) (fun i H' => Lh H H' ∧ H' p = some (.lst (ns.map V.int)) ∧ H' c = some (.lst (((ns.take i).map absI).map V.int))) ⟨(Lh.new hp).trans (Lh.new hc), by rw [upd_ne ncp.symm, upd_same], upd_same⟩ (fun i H' _ h => SqL.of h.2.1) (fun i v H' hv h => ?_) fun H' h => ?_
  · obtain ⟨h1, h2, h3⟩ := h
    rw [List.getElem?_map] at hv
    obtain ⟨n, hn, rfl⟩ := mpd hv
    have hil : i < ns.length := by
      by_cases hi : i < ns.length
      · exact hi
      · rw [List.getElem?_eq_none (by omega)] at hn; cases hn
    refine ⟨rfl, ?_⟩
    show tCB rAbs1 (tCons (tVar 1) tNil) _ H' _
    refine ⟨_, rfl, n, rfl, _, h3, ?_, fun b o e => ?_, ?_, ?_⟩
    · rw [List.length_map, List.length_map, List.length_take]
      exact Nat.lt_of_le_of_lt (Nat.min_le_right _ _) (small1000 (by omega))
    · rw [upd_ne (ne_of_none e hcH)]; exact h1 b o e
    · rw [upd_ne ncp.symm]; exact h2
    · rw [upd_same, List.take_add_one, hn]
      simp [absI]
  · obtain ⟨h1, h2, h3⟩ := h
    rw [List.length_map, List.take_length] at h3
    refine ⟨by show 2 ≤ sizeLine; decide, fun d hd => ?_⟩
    have ndc : d ≠ c := fun z => by rw [z, h3] at hd; cases hd
    have fin := q (d, c) (upd H' d (.lst [.ref c, .int 0])) (h1.trans (Lh.new hd)) ⟨fun _ _ z => (nomatch z), upd_same, (upd_ne (a := d) ndc.symm).trans h3, ⟨rfl, fun z => nomatch z⟩, ⟨rfl, fun z => nomatch z⟩, ndc, rfl, List.nodup_nil, fun n a o z => by simp at z⟩
    exact fin
theorem fn_deck {x qual : Str} {st : Stmt} {f : Addr} {fd : FuncData} {N ps : List Str} {k : Nat} (Fn : Fun K x qual st f fd) (S : FnScope N ps (defScope st)) (hN : N.length = 2) (hp : ps.length = 1)
    (hbody : ∀ (cdv : Value) (A : Around) (outer : List Env) (s : Shared) (H : Hp) (E : XK), PSs (cxOf CX0 P w K mg base N qual (defScope st) f cdv A outer s H E).nox (defBody st) (tDeck K)) : FnG P w K mg base (k + 1) f fd ps (spDeck K) := by
  refine fnG_of Fn S (fun vs H Q E h => ?_) fun cdv A outer s H vs Q E hr gd h => ⟨_, hbody cdv A outer s H E, ?_⟩
  · obtain ⟨a, ns, rfl, _⟩ := h
    rw [hp]; rfl
  · obtain ⟨a, ns, rfl, hs, hl, q⟩ := h
    have es : L2.start N [V.ref a] = [some (.ref a), none] := by
      unfold L2.start
      rw [hN]
      rfl
    rw [es]
    exact deck_ok hs hl fun dk H' le wd => q dk H' le wd

/-! ### the law -/
def spLaw (K : Fg) : Sp := fun vs H Q _ => ∃ (a : Addr) (ns : List Int), vs = [.ref a] ∧ SqL K H a (ns.map V.int) ∧ ns.length ≤ 63 ∧ ∀ H', Q (.bl true) H'
/-- the slots behind the law's first statement: the script, the deck, all else -/
def env0 (n : Nat) : Sg := .un :: .val .deck :: List.replicate (n - 2) .un
theorem fn_law {x qual : Str} {st : Stmt} {f : Addr} {fd : FuncData} {N ps : List Str} {k : Nat} {b : MS} (Fn : Fun K x qual st f fd) (S : FnScope N ps (defScope st)) (hN : 2 ≤ N.length) (hp : ps.length = 1)
    (hb : ∀ ns : List Int, ns.length ≤ 63 → ∃ s1, b (env0 N.length) ⟨ns.map absI, 0, []⟩ = some (.rt (.bl true), s1))
    (hbody : ∀ (cdv : Value) (A : Around) (outer : List Env) (s : Shared) (H : Hp) (E : XK), Room k (A.deeper (envOfC qual (defScope st) s.heap.objs.size f cdv)) → (A.deeper (envOfC qual (defScope st) s.heap.objs.size f cdv)).guards = some [] →
      ∃ t, PSs (cxOf CX0 P w K mg base N qual (defScope st) f cdv A outer s H E).nox (defBody st) (tSeq (tAsg (tCall (spDeck K) [] E0 (tCons (tVar 0) tNil)) (gName 1)) t) ∧ ImS K t b) : FnG P w K mg base (k + 1) f fd ps (spLaw K) := by
  refine fnG_of Fn S (fun vs H Q E h => ?_) fun cdv A outer s H vs Q E hr gd h => ?_
  · obtain ⟨a, ns, rfl, _⟩ := h
    rw [hp]; rfl
  · obtain ⟨a, ns, rfl, hs, hl, q⟩ := h
    obtain ⟨t, h1, h2⟩ := hbody cdv A outer s H E hr gd
    refine ⟨_, h1, ?_⟩
    obtain ⟨m, hm⟩ : ∃ m, N.length = m + 2 := ⟨N.length - 2, by omega⟩
    have es : L2.start N [V.ref a] = some (.ref a) :: none :: List.replicate m none := by
      unfold L2.start
      rw [hm]
      rfl
    rw [es]
    refine ⟨_, rfl, a, ns, rfl, hs, hl, fun dk H' le wd => ?_⟩
    obtain ⟨s1, hr1⟩ := hb ns hl
    have g : Good K dk H' ⟨fun _ => none, []⟩ ⟨fun _ => none, []⟩ (some (.ref a) :: some (.ref dk.1) :: List.replicate m none) H' (env0 N.length) ⟨ns.map absI, 0, []⟩ := by
      refine ⟨wd, Ext.refl _ _, by unfold env0; rw [hm]; simp, fun i s e => ?_, fun i j ds es p hne e1 e2 e3 => ?_⟩
      · unfold env0 at e
        match i with
        | 0 => cases e; trivial
        | 1 => cases e; exact ⟨_, rfl, .deck⟩
        | i + 2 =>
          have e' : (List.replicate (N.length - 2) Sl.un)[i]? = some s := e
          rw [List.getElem?_replicate] at e'
          split at e'
          · cases e'; trivial
          · cases e'
      · exfalso
        unfold env0 at e1
        match i with
        | 0 => cases e1
        | 1 => cases e1
        | i + 2 =>
          have e' : (List.replicate (N.length - 2) Sl.un)[i]? = some (.own ds) := e1
          rw [List.getElem?_replicate] at e'
          split at e' <;> cases e'
    refine h2 dk H' _ _ _ H' _ _ _ s1 g hr1 _ ?_
    intro v F' H2 _ _ r
    cases r
    exact q H2
end
end MD

set_option Elab.async false
set_option linter.all false
set_option maxRecDepth 100000
set_option maxHeartbeats 2000000
namespace MD
open PySem PySem.Spec PyProof.Rows L2

/-- the law's own call, from a heap in which nothing is tracked but the script -/
theorem law_core {P : Program} {w : World} {K : Fg} {mg mb : Str → Option Value} {k : Nat} {fa a : Addr} {fd : FuncData} {x : Str} {sp : Sp} {s1 : Shared} {vs : List Value} (KX : K.In s1.heap) (hns : s1.heap.Ns mainGlobals mg) (hb : s1.heap.Ns builtinsNs mb)
    (hbb : ∀ y : Str, y ≠ "__name__" → mb y = bootBuiltins y) (hlim : s1.heap.NoLimit) (hg : s1.gens = #[]) (ha : s1.heap.get? a = some { cls := .type "list", data := .seq vs.toArray }) (hr : Room k callerA)
    (Fn : ∀ base : Heap, K.In base → base.Ns mainGlobals mg → FnG P w K mg base k fa fd [x] sp) (hbind : ∀ (s : Shared) (u : Value), BindsTo s fd ⟨[u], []⟩ [(x, u)])
    (H : Hp) (hO : Only H) (hok : HOk P w H s1.heap) (hA : ∀ b, H b ≠ none → b = a) (hK : H a ≠ none → K.lookup a = none) (hsp : sp [.ref a] H (fun v _ => v = .bl true) E0) :
    codeAny (model P w) callerA (.call (.ref fa) ⟨[.ref a], []⟩) (fun r s' => r = .ok (.ret (.bool true)) ∧ OldK s1.heap s'.heap ∧ s'.os = s1.os ∧ AllBare s'.gens) s1 := by
  have only : ∀ {b : Addr} {o : Obj} {es : Array DictEntry} {ep : Nat}, s1.heap.get? b = some o → o.data = .dict es ep → H b = none := by
    intro b o es ep e d
    by_cases hz : H b = none
    · exact hz
    · have hba := hA b hz
      rw [hba, ha] at e
      have e' := (Option.some.inj e).symm
      rw [e'] at d
      exact absurd d (fun z => Data.noConfusion z)
  have low : ∀ {b : Addr} {m : Str → Option Value}, s1.heap.Ns b m → (hidT s1.heap H).Ns b m := by
    intro b m hm
    obtain ⟨o, es, ep, e, d, r⟩ := hm
    exact ⟨o, es, ep, hidT_get e (only e d), d, r⟩
  have kin : K.In (hidT s1.heap H) := by
    intro b o e
    refine hidT_get (KX b o e) ?_
    by_cases hz : H b = none
    · exact hz
    · have hba := hA b hz
      rw [hba] at hz e
      rw [hK hz] at e
      cases e
  obtain ⟨mc, l1, l2⟩ := hlim
  have md : Mod K mg (hidT s1.heap H) := ⟨kin, low hns, ⟨mb, low hb, hbb⟩, ⟨mc, low l1, l2⟩⟩
  have en : Env0 P w K mg (hidT s1.heap H) callerA [] s1 H := by
    refine ⟨rfl, md, fun b o e => of_hidT e, Nat.le_of_eq (hidT_size _ _), trivial, fun b z => ?_, hok, .of_eq hg⟩
    exact absurd (show b ∈ ([] : List Addr) from z) (by simp)
  refine codeAny_mono ((Fn _ kin (low hns)).run callerA [] s1 H ⟨[.ref a], []⟩ [.ref a] [.ref a] _ _ hr rfl en (hbind s1 (.ref a)) (.cons rfl .nil) hsp) fun r s' h => ?_
  rcases r with er | fl
  · exact False.elim h
  · cases fl with
    | ret u =>
      obtain ⟨v, H', os, bare, un, hok', r', q⟩ := h
      replace q : v = .bl true := q
      rw [q] at r'
      have hu : u = Value.bool true := r'
      rw [hu]
      refine ⟨rfl, OldK.of_keep fun b o e => ?_, os, bare⟩
      by_cases hz : H b = none
      · exact un.keep b o e hz (fun z => absurd (show b ∈ ([] : List Addr) from z) (by simp)) (by simp)
      · rcases hO b with z | ⟨ob, xs, z⟩
        · exact absurd z hz
        · have k1 := (hok b _ z).1
          have k2 := (hok' b _ (un.frzs b ob _ z)).1
          rw [e] at k1
          rw [k2, k1]
    | next => exact False.elim h
    | brk => exact False.elim h
    | cont => exact False.elim h
theorem law_callG {P : Program} {w : World} {K : Fg} {mg mb : Str → Option Value} {k : Nat} {fa a : Addr} {fd : FuncData} {x : Str} {sp : Sp} {s1 : Shared} {vs : List Value} {ns : List Int} (KX : K.In s1.heap) (hns : s1.heap.Ns mainGlobals mg) (hb : s1.heap.Ns builtinsNs mb)
    (hbb : ∀ y : Str, y ≠ "__name__" → mb y = bootBuiltins y) (hlim : s1.heap.NoLimit) (hg : s1.gens = #[]) (ha : s1.heap.get? a = some { cls := .type "list", data := .seq vs.toArray }) (hi : IntsAre vs ns) (hl : ns.length ≤ sizeLine) (hr : Room k callerA)
    (Fn : ∀ base : Heap, K.In base → base.Ns mainGlobals mg → FnG P w K mg base k fa fd [x] sp) (hbind : ∀ (s : Shared) (u : Value), BindsTo s fd ⟨[u], []⟩ [(x, u)])
    (hsp : ∀ H : Hp, SqL K H a (ns.map V.int) → sp [.ref a] H (fun v _ => v = .bl true) E0) :
    codeAny (model P w) callerA (.call (.ref fa) ⟨[.ref a], []⟩) (fun r s' => r = .ok (.ret (.bool true)) ∧ OldK s1.heap s'.heap ∧ s'.os = s1.os ∧ AllBare s'.gens) s1 := by
  have rv := vals_ints hi
  have lenV := hi.length
  by_cases hk : K.lookup a = none
  · let H : Hp := fun b => if b = a then some (.frz { cls := .type "list", data := .seq vs.toArray } (.lst (ns.map V.int))) else none
    have atA : H a = some (.frz { cls := .type "list", data := .seq vs.toArray } (.lst (ns.map V.int))) := if_pos rfl
    have off : ∀ b, b ≠ a → H b = none := fun b z => if_neg z
    refine law_core KX hns hb hbb hlim hg ha hr Fn hbind H (fun b => ?_) (fun b u z => ?_) (fun b z => ?_) (fun _ => hk) (hsp H (.inl (.inr ⟨_, atA⟩)))
    · by_cases e : b = a
      · rw [e]; exact .inr ⟨_, _, atA⟩
      · exact .inl (off b e)
    · by_cases e : b = a
      · rw [e, atA] at z
        cases z
        rw [e]
        exact ⟨ha, by rw [List.length_map]; exact hl, vs, _, rv, ha⟩
      · rw [off b e] at z; cases z
    · by_cases e : b = a
      · exact e
      · exact absurd (off b e) z
  · obtain ⟨o, ho⟩ : ∃ o, K.lookup a = some o := Option.ne_none_iff_exists'.mp hk
    have e := KX a o ho
    rw [ha] at e
    have eo : o = { cls := .type "list", data := .seq vs.toArray } := (Option.some.inj e).symm
    subst eo
    refine law_core KX hns hb hbb hlim hg ha hr Fn hbind (fun _ => none) (fun _ => .inl rfl) (fun b u z => nomatch (show (none : Option HO) = some u from z)) (fun b z => absurd rfl z) (fun z => absurd rfl z) (hsp _ ?_)
    exact .inr ⟨_, vs.toArray, _, ho, rfl, rfl, rfl, by rw [List.size_toArray, lenV]; exact hl, by simpa using rv⟩
/-- what k_head leaves, from the law's promise -/
theorem walkG {l : PySem.W.OpenLaw} {n k : Nat} {q : Program} {loose : List Str} {XP : (Str → Option Value) → Heap → Prop} {YP : World → Heap → Prop} {d : DefRec} {K : Params → Fg} {x : Str} (hn : l.most = some n) (hn2 : n ≤ 63) (hdf : d.params.defaults = []) (hr : Room k callerA)
    (hY : ∀ (w : World) (h : Heap), YP w h → (K w.params).In h)
    (Fn : ∀ (w : World) (mg : Str → Option Value) (fa : Addr) (h : Heap), (K w.params).In h → h.Ns mainGlobals mg → mg d.name = some (.ref fa) →
      ∃ fd : FuncData, (∀ (s : Shared) (u : Value), BindsTo s fd ⟨[u], []⟩ [(x, u)]) ∧ ∀ base : Heap, (K w.params).In base → base.Ns mainGlobals mg → FnG l.prog w (K w.params) mg base k fa fd [x] (spLaw (K w.params))) :
    PySem.W.WalkO q loose XP YP l.row.toRowW d [] (fun f vs => PySem.call f vs) := by
  refine Att.attach_call hn hdf fun w s₀ s₁ mg mb fa o pm cd doc a vs ns G Y ho hd hcd hmg hobj hints hlen hg => ?_
  have KX := hY w _ Y
  obtain ⟨fd, hb, hF⟩ := Fn w mg fa _ KX G.T.g hmg
  have small : ns.length ≤ sizeLine := Nat.le_trans (Nat.le_trans hlen hn2) (by decide)
  exact law_callG KX G.T.g G.T.b G.T.builtins G.T.nolimit hg hobj hints small hr hF hb fun H hS => ⟨a, ns, rfl, hS, Nat.le_trans hlen hn2, fun _ => rfl⟩
end MD

set_option Elab.async false
set_option linter.all false
set_option maxRecDepth 100000
set_option maxHeartbeats 2000000
namespace MD
open PySem PySem.Spec PyProof.Rows L2

section
variable {K : Fg} {dk : Dk} {F F' F0 : Fz} {H H' H0 : Hp} {X : Cx}
/-! rules of several kinds in one -/
def rAddA (K : Fg) : R2 := fun x y H Q => rI0 (fun i j => .int (i + j)) x y H Q ∨ (∃ i j, x = .str i ∧ y = .str j ∧ i.length + j.length ≤ sizeLine ∧ Q (.str (i ++ j)) H) ∨ rCatA K x y H Q ∨ rCat x y H Q
theorem op_addA : OpR X (binaryOp .Add) (rAddA X.K) := OpR.or op_add (OpR.or op_add_str (OpR.or op_catA op_cat))
def addM : D → D → Option D
  | .int i, .int j => some (.int (i + j))
  | .str i, .str j => if i.length + j.length ≤ sizeLine then some (.str (i ++ j)) else none
  | .tup i, .tup j => if i.length + j.length ≤ sizeLine then some (.tup (i ++ j)) else none
  | .lst i, .lst j => if i.length + j.length ≤ sizeLine then some (.lst (i ++ j)) else none
  | _, _ => none
theorem ro_addA : RO K (rAddA K) addM := by
  intro dk F H st x y d e z w rx ry hz Q q
  unfold addM at hz
  split at hz
  · exact .inl (ro_I0 (fun i j => rc_int (i + j)) dk F H st x y _ _ z w rx ry hz Q q)
  · exact .inr (.inl (ro_strCat dk F H st x y _ _ z w rx ry hz Q q))
  · exact .inr (.inr (.inl (ro_tupCat dk F H st x y _ _ z w rx ry hz Q q)))
  · refine .inr (.inr (.inr (rof_lstCat.ro dk F H st x y _ _ z w rx ry ?_ Q q)))
    unfold lstCat
    split at hz
    · rename_i hc
      simp only [hc, if_true]; exact hz
    · cases hz
  · cases hz
abbrev subM : D → D → Option D := iI fun i j => .int (i - j)
abbrev mulM : D → D → Option D := iIC CMul fun i j => .int (i * j)
abbrev fdivM : D → D → Option D := iIC CDiv fun i j => .int (i / j)
abbrev modM : D → D → Option D := iIC (fun _ j => 0 < j) fun i j => .int (i % j)
abbrev powM : D → D → Option D := iIC CPow fun i j => .int (i ^ j.toNat)
abbrev ltM : D → D → Option D := iI fun i j => .bl (decide (i < j))
abbrev leM : D → D → Option D := iI fun i j => .bl (decide (i ≤ j))
abbrev gtM : D → D → Option D := iI fun i j => .bl (decide (j < i))
abbrev geM : D → D → Option D := iI fun i j => .bl (decide (j ≤ i))
theorem ro_sub : RO K (rI0 fun i j => .int (i - j)) subM := ro_I0 fun i j => rc_int _
theorem ro_mul : RO K (rI CMul fun i j => .int (i * j)) mulM := ro_I fun i j => rc_int _
theorem ro_fdiv : RO K (rI CDiv fun i j => .int (i / j)) fdivM := ro_I fun i j => rc_int _
theorem ro_mod : RO K (rI (fun _ j => 0 < j) fun i j => .int (i % j)) modM := ro_I fun i j => rc_int _
theorem ro_pow : RO K (rI CPow fun i j => .int (i ^ j.toNat)) powM := ro_I fun i j => rc_int _
theorem ro_lt : RO K (rI0 fun i j => .bl (decide (i < j))) ltM := ro_I0 fun i j => rc_bl _
theorem ro_le : RO K (rI0 fun i j => .bl (decide (i ≤ j))) leM := ro_I0 fun i j => rc_bl _
theorem ro_gt : RO K (rI0 fun i j => .bl (decide (j < i))) gtM := ro_I0 fun i j => rc_bl _
theorem ro_ge : RO K (rI0 fun i j => .bl (decide (j ≤ i))) geM := ro_I0 fun i j => rc_bl _
theorem ro_ipAdd : RO K (ipI fun i j => i + j) (iI fun i j => .int (i + j)) := ro_I0 fun i j => rc_int _
theorem ro_ipSub : RO K (ipI fun i j => i - j) (iI fun i j => .int (i - j)) := ro_I0 fun i j => rc_int _
/-! in -/
def rInA (K : Fg) : R2 := fun x y H Q => (∃ (c : Nat) (z : Str), x = .str ⟨#[c]⟩ ∧ y = .str z ∧ Q (.bl (decide (c ∈ z.cps.toList))) H) ∨ rIn K false x y H Q
def rNotInA (K : Fg) : R2 := fun x y H Q => (∃ (c : Nat) (z : Str), x = .str ⟨#[c]⟩ ∧ y = .str z ∧ Q (.bl (!decide (c ∈ z.cps.toList))) H) ∨ rIn K true x y H Q
theorem op_inA : OpR X (compareOp .In) (rInA X.K) := OpR.or op_in_sign op_in_seq
theorem op_notInA : OpR X (compareOp .NotIn) (rNotInA X.K) := OpR.or op_notIn_sign op_notIn_seq
def inM (d e : D) : Option D := match e with
  | .str _ => inSign d e
  | _ => inSeq false d e
def notInM (d e : D) : Option D := match e with
  | .str _ => notInSign d e
  | _ => inSeq true d e
theorem ro_in : RO K (rInA K) inM := by
  intro dk F H st x y d e z w rx ry hz Q q
  unfold inM at hz
  split at hz
  · exact .inl (ro_inSign dk F H st x y _ _ z w rx ry hz Q q)
  · exact .inr (ro_inSeq false dk F H st x y _ _ z w rx ry hz Q q)
theorem ro_notIn : RO K (rNotInA K) notInM := by
  intro dk F H st x y d e z w rx ry hz Q q
  unfold notInM at hz
  split at hz
  · exact .inl (ro_notInSign dk F H st x y _ _ z w rx ry hz Q q)
  · exact .inr (ro_inSeq true dk F H st x y _ _ z w rx ry hz Q q)
/-! tuple(..) of a list, a tuple, a text -/
def rTupA (K : Fg) : List V → Hp → VK → Prop := fun xs H Q => (∃ p ys, xs = [.ref p] ∧ ((SqL K H p ys ∧ ∀ l, H l = none → Q (.ref l) (upd H l (.tup ys))) ∨ (SqT K H p ys ∧ Q (.ref p) H))) ∨
  ∃ x, xs = [.str x] ∧ x.cps.size ≤ sizeLine ∧ ∀ p, H p = none → Q (.ref p) (upd H p (.tup ((signs x).map V.str)))
theorem call_tupA (hc : X.calm = true) : CallR X (.type "tuple") (rTupA X.K) := CallR.or call_tuple_of (call_tupStr hc)
def tupleM : List D → Option D
  | [.lst ds] => some (.tup ds)
  | [.tup ds] => some (.tup ds)
  | [.str x] => if x.cps.size ≤ sizeLine then some (.tup ((signs x).map D.str)) else none
  | _ => none
theorem rc_tupA : RC K (rTupA K) tupleM := by
  intro dk F H st vs ds z w rx hz Q q
  unfold tupleM at hz
  split at hz
  · exact .inl (rc_tupOf dk F H st vs _ z w rx hz Q q)
  · exact .inl (rc_tupOf dk F H st vs _ z w rx hz Q q)
  · exact .inr (rc_tupStr dk F H st vs _ z w rx hz Q q)
  · cases hz
/-! module constants -/
theorem pe_gstr {x : Str} {s : Str} {pos : Pos} (hg : Gl X x) (hm : ∃ t, X.mg x = some (.str s t)) (hd : (x == ("__debug__" : Str)) = false := by decide) : PE X (.Name x pos) (tC (.str s)) := by
  obtain ⟨t, h⟩ := hm
  exact pe_glob hg h ⟨t, rfl⟩ hd
theorem pe_gint {x : Str} {i : Int} {pos : Pos} (hg : Gl X x) (hm : ∃ t, X.mg x = some (.int i t)) (hd : (x == ("__debug__" : Str)) = false := by decide) : PE X (.Name x pos) (tC (.int i)) := by
  obtain ⟨t, h⟩ := hm
  exact pe_glob hg h ⟨t, rfl⟩ hd
end
/-! a def that is known to its callers -/
def Cal (P : Program) (w : World) (K : Fg) (mg : Str → Option Value) (base : Heap) (k : Nat) (x : Str) (ps : List Str) (sp : Sp) : Prop :=
  ∃ f fd, FnG P w K mg base k f fd ps sp ∧ mg x = some (.ref f) ∧ PySem.W.keepIn K (.ref f) = true ∧ Binds K fd ps []
section
variable {X : Cx} {k j : Nat} {ps : List Str} {sp : Sp} {x : Str} {p pos : Pos} {e : Expr} {es : List Expr} {t : TA}
theorem pe_callC (C : Cal X.prog X.w X.K X.mg X.base j x ps sp) (hr : Room k X.A) (gd : X.A.guards = some []) (hg : Gl X x) (ha : PA X (e :: es) t) (hj : j ≤ k := by decide) (hdb : (x == ("__debug__" : Str)) = false := by decide)
    (he : starEach (e :: es) X.env = (false, eval e X.env) :: starEach es X.env := by rfl) (hpl : (backTo pos (starEach es X.env)).any (·.1) = false := by rfl) : PE X (.Call (.Name x p) (e :: es) [] pos) (tCall sp [] E0 t) := by
  obtain ⟨f, fd, F, hm, hk, hb⟩ := C
  exact pe_callG F (hr.mono hj) gd hg hm hk hb ha hdb he hpl
end
end MD

set_option Elab.async false
set_option linter.all false
set_option maxRecDepth 100000
set_option maxHeartbeats 1000000
namespace MD
open PySem L2

/-! ### dicts with ints and texts as keys -/
def keyOf : D → Option Key
  | .int i => some (.inl i)
  | .str x => some (.inr x)
  | _ => none
def keyD : Key → D
  | .inl i => .int i
  | .inr x => .str x
section
variable {K : Fg} {dk : Dk} {F F' F0 : Fz} {H H' H0 : Hp} {σ : L2.St} {env : Sg} {st : S}
theorem keyOf_rw {v : V} {d : D} {k : Key} (r : Rw K dk F H v d) (h : keyOf d = some k) : v = kV k := by
  cases d with
  | int i => cases h; exact r.int
  | str x => cases h; exact r.str
  | _ => cases h
theorem keyD_rp (k : Key) : Rp K dk F (kV k) (keyD k) := by
  cases k with
  | inl i => exact .int i
  | inr x => exact .str x
def getK {α : Type} : List Key → List α → Key → Option α
  | k' :: ks, x :: xs, k => if k' = k then some x else getK ks xs k
  | _, _, _ => none
theorem getK_val : ∀ {vs : List V} {ds : List D} (ks : List Key) (k : Key), Rps K dk F vs ds → ks.length = vs.length →
    (∀ d, getK ks ds k = some d → ∃ v, valV (ks.zip vs) k = some v ∧ Rp K dk F v d) ∧ (getK ks ds k = none → valV (ks.zip vs) k = none)
  | _, _, [], k, .nil, _ => ⟨fun d h => (by cases h), fun _ => rfl⟩
  | _, _, [], k, .cons a r, h => by simp at h
  | _, _, k' :: ks, k, .nil, h => by simp at h
  | v :: vs, d :: ds, k' :: ks, k, .cons a r, h => by
    obtain ⟨i1, i2⟩ := getK_val ks k r (by simpa using h)
    rw [List.zip_cons_cons]
    unfold getK
    by_cases e : k' = k
    · rw [if_pos e, valV_pos (p := (k', v)) e]
      exact ⟨fun d' h => (by cases h; exact ⟨v, rfl, a⟩), fun h => (by cases h)⟩
    · rw [if_neg e, valV_neg (p := (k', v)) e]
      exact ⟨i1, i2⟩
def hasK (ks : List Key) (k : Key) : Bool := ks.any fun k' => decide (k' = k)
def putKs (ks : List Key) (k : Key) : List Key := if hasK ks k = true then ks else ks ++ [k]
def putVs {α : Type} (ks : List Key) (xs : List α) (k : Key) (x : α) : List α := if hasK ks k = true then List.zipWith (fun k' x' => if k' = k then x else x') ks xs else xs ++ [x]
theorem put_len {α : Type} {ks : List Key} {xs : List α} {k : Key} {x : α} (h : ks.length = xs.length) : (putKs ks k).length = (putVs ks xs k x).length := by
  unfold putKs putVs
  by_cases e : hasK ks k = true
  · rw [if_pos e, if_pos e, List.length_zipWith, h, Nat.min_self]
  · rw [if_neg e, if_neg e, List.length_append, List.length_append, h]; rfl
theorem any_zip {vs : List V} (k : Key) : ∀ (ks : List Key) (vs : List V), ks.length = vs.length → ((ks.zip vs).any fun kv => decide (kv.1 = k)) = hasK ks k
  | [], [], _ => rfl
  | k' :: ks, v :: vs, h => by
    rw [List.zip_cons_cons, List.any_cons, any_zip (vs := vs) k ks vs (by simpa using h)]
    rfl
theorem map_zip (k : Key) (v : V) : ∀ (ks : List Key) (vs : List V), (ks.zip vs).map (fun kv => if kv.1 = k then (kv.1, v) else kv) = ks.zip (List.zipWith (fun k' x' => if k' = k then v else x') ks vs)
  | [], _ => rfl
  | _ :: _, [] => rfl
  | k' :: ks, u :: vs => by
    rw [List.zip_cons_cons, List.map_cons, map_zip k v ks vs, List.zipWith_cons_cons, List.zip_cons_cons]
    by_cases e : k' = k
    · simp [e]
    · simp [e]
theorem put_zip {ks : List Key} {vs : List V} {k : Key} {v : V} (h : ks.length = vs.length) : putK (ks.zip vs) k v = (putKs ks k).zip (putVs ks vs k v) := by
  unfold putK putKs putVs
  rw [any_zip (vs := vs) k ks vs h]
  by_cases e : hasK ks k = true
  · rw [if_pos e, if_pos e, if_pos e, map_zip]
  · rw [if_neg e, if_neg e, if_neg e, List.zip_append h]; rfl
theorem put_rps {k : Key} {v : V} {d : D} (r : Rp K dk F v d) : ∀ {vs : List V} {ds : List D} (ks : List Key), Rps K dk F vs ds → Rps K dk F (List.zipWith (fun k' x' => if k' = k then v else x') ks vs) (List.zipWith (fun k' x' => if k' = k then d else x') ks ds)
  | _, _, [], _ => .nil
  | _, _, _ :: _, .nil => .nil
  | _, _, k' :: ks, .cons a b => by
    rw [List.zipWith_cons_cons, List.zipWith_cons_cons]
    refine .cons ?_ (put_rps r ks b)
    by_cases e : k' = k
    · rw [if_pos e, if_pos e]; exact r
    · rw [if_neg e, if_neg e]; exact a
theorem putVs_rps {k : Key} {v : V} {d : D} {vs : List V} {ds : List D} {ks : List Key} (r : Rp K dk F v d) (rs : Rps K dk F vs ds) : Rps K dk F (putVs ks vs k v) (putVs ks ds k d) := by
  unfold putVs
  by_cases e : hasK ks k = true
  · rw [if_pos e, if_pos e]; exact put_rps r ks rs
  · rw [if_neg e, if_neg e]; exact rs.append (Rps.one r)

theorem pe_or {X : Cx} {e : Expr} {t t' : TE} (h : PE X e t) (h' : PE X e t') : PE X e (fun σ H Q => t σ H Q ∨ t' σ H Q) :=
  ⟨fun pins s σ H Q I q => q.elim (h.run pins s σ H Q I) (h'.run pins s σ H Q I)⟩
theorem ps_or {X : Cx} {e : Stmt} {t t' : TS} (h : PS X e t) (h' : PS X e t') : PS X e (fun E σ H => t E σ H ∨ t' E σ H) :=
  ⟨fun pins s σ H E I q => q.elim (h.run pins s σ H E I) (h'.run pins s σ H E I)⟩
/-! e[k], of a list, a tuple, a text, a dict -/
def dgetD : List Key → List D → D → Option D := fun ks ds k => (keyOf k).bind fun k => getK ks ds k
def subD (d e : D) : Option D := match d with
  | .dic ks ds => dgetD ks ds e
  | d => ixM d e
def tSub (K : Fg) (ta tb : TE) : TE := fun σ H Q => tDGet ta tb σ H Q ∨ tOp (rIx K) ta tb σ H Q
theorem pe_sub {X : Cx} {o i : Expr} {pos : Pos} {ta tb : TE} (hu : X.A.units + 1 < cLine) (ho : PE X o ta) (hi : PE X i tb) (hs : NoSl i := by intro _ _; rfl) (hs' : PlainIx i := by intro _ _; rfl) : PE X (.Subscript o i pos) (tSub X.K ta tb) :=
  pe_or (pe_dget hu ho hi hs) (pe_ix ix_seq ho hi hs')
theorem im_sub {ta tb : TE} {fa fb : ME} (ha : ImW K ta fa) (hb : ImW K tb fb) : Im K (tSub K ta tb) (opM subD fa fb) := fun dk H0 F0 F σ H env st d st' g e Q q => by
  obtain ⟨⟨x, s1⟩, h1, e'⟩ := bnd e
  obtain ⟨⟨y, s2⟩, h2, e'⟩ := bnd e'
  obtain ⟨z, h3, e'⟩ := mpd e'
  cases e'
  by_cases hd : ∃ ks ds, dr s2 x = .dic ks ds
  · obtain ⟨ks, ds, hd⟩ := hd
    refine .inl ?_
    refine ha dk H0 F0 F σ H env st x s1 g h1 _ fun v F1 H1 x1 g1 r1 => ?_
    refine hb dk H0 F0 F1 σ H1 env s1 y _ g1 h2 _ fun u F2 H2 x2 g2 r2 => ?_
    have r3 := (r1.ext x2).dr g2.wd
    rw [hd] at r3
    obtain ⟨p, vs, rfl, hr, hl, r⟩ := r3.d g2.wd.sub
    replace h3 : subD (dr s2 x) (dr s2 y) = some d := h3
    rw [hd] at h3
    obtain ⟨k, h4, h5⟩ := bnd (show (keyOf (dr s2 y)).bind (fun k => getK ks ds k) = some d from h3)
    obtain ⟨w, hw, rw'⟩ := (getK_val ks k r hl).1 _ h5
    exact ⟨p, w, rfl, .inl ⟨_, k, hr, keyOf_rw (r2.dr g2.wd) h4, hw.symm⟩, q w F2 H2 (x1.trans x2) g2 rw'⟩
  · refine .inr (im_op ro_ix ha hb dk H0 F0 F σ H env st d s2 g ?_ Q q)
    unfold opM
    rw [h1]
    show ((fb env s1).bind _) = _
    rw [h2]
    show (ixM (dr s2 x) (dr s2 y)).map _ = _
    have : subD (dr s2 x) (dr s2 y) = ixM (dr s2 x) (dr s2 y) := by
      unfold subD
      split
      · rename_i ks ds hx
        exact absurd ⟨ks, ds, hx⟩ hd
      · rfl
    rw [← this, show subD (dr s2 x) (dr s2 y) = some d from h3]
    rfl
/-! k in d, k not in d -/
def cntD (neg : Bool) (d e : D) : Option D := match e with
  | .dic ks ds => (keyOf d).map fun k => .bl (if neg then !(getK ks ds k).isSome else (getK ks ds k).isSome)
  | e => if neg then notInM d e else inM d e
def tIn (K : Fg) (ta tb : TE) : TE := fun σ H Q => tDIn ta tb σ H Q ∨ tOp (rInA K) ta tb σ H Q
def tNotIn (K : Fg) (ta tb : TE) : TE := fun σ H Q => tDNotIn ta tb σ H Q ∨ tOp (rNotInA K) ta tb σ H Q
theorem pe_in {X : Cx} {a b : Expr} {pos : Pos} {ta tb : TE} (hu : X.A.units + 1 < cLine) (ha : PE X a ta) (hb : PE X b tb) (hm : behindInMarks .In b = false := by rfl) : PE X (.Compare a [.In] [b] pos) (tIn X.K ta tb) :=
  pe_or (pe_cmp (pc_din hu ha hb) hm) (pe_cmpR op_inA ha hb hm)
theorem pe_notIn {X : Cx} {a b : Expr} {pos : Pos} {ta tb : TE} (hu : X.A.units + 1 < cLine) (ha : PE X a ta) (hb : PE X b tb) (hm : behindInMarks .NotIn b = false := by rfl) : PE X (.Compare a [.NotIn] [b] pos) (tNotIn X.K ta tb) :=
  pe_or (pe_cmp (pc_dnotin hu ha hb) hm) (pe_cmpR op_notInA ha hb hm)
theorem im_inX (neg : Bool) {ta tb t : TE} {fa fb : ME} (r : R2) (ro : RO K r (fun d e => if neg then notInM d e else inM d e))
    (hin : ∀ σ H Q, (ta σ H fun y H1 => tb σ H1 fun x H2 => ∃ a o, x = .ref a ∧ DGet H2 a y o ∧ Q (.bl (if neg then !o.isSome else o.isSome)) H2) ∨ tOp r ta tb σ H Q → t σ H Q) (ha : ImW K ta fa) (hb : ImW K tb fb) : Im K t (opM (cntD neg) fa fb) := fun dk H0 F0 F σ H env st d st' g e Q q => by
  obtain ⟨⟨x, s1⟩, h1, e'⟩ := bnd e
  obtain ⟨⟨y, s2⟩, h2, e'⟩ := bnd e'
  obtain ⟨z, h3, e'⟩ := mpd e'
  cases e'
  refine hin σ H Q ?_
  by_cases hd : ∃ ks ds, dr s2 y = .dic ks ds
  · obtain ⟨ks, ds, hd⟩ := hd
    refine .inl ?_
    refine ha dk H0 F0 F σ H env st x s1 g h1 _ fun v F1 H1 x1 g1 r1 => ?_
    refine hb dk H0 F0 F1 σ H1 env s1 y _ g1 h2 _ fun u F2 H2 x2 g2 r2 => ?_
    have r3 := r2.dr g2.wd
    rw [hd] at r3
    obtain ⟨p, vs, rfl, hr, hl, r⟩ := r3.d g2.wd.sub
    replace h3 : cntD neg (dr s2 x) (dr s2 y) = some d := h3
    rw [hd] at h3
    obtain ⟨k, h4, h5⟩ := mpd (show (keyOf (dr s2 x)).map (fun k => D.bl (if neg then !(getK ks ds k).isSome else (getK ks ds k).isSome)) = some d from h3)
    subst h5
    obtain ⟨i1, i2⟩ := getK_val ks k r hl
    refine ⟨p, _, rfl, .inl ⟨_, k, hr, keyOf_rw ((r1.ext x2).dr g2.wd) h4, rfl⟩, ?_⟩
    have es : (valV (ks.zip vs) k).isSome = (getK ks ds k).isSome := by
      cases hk : getK ks ds k with
      | none => rw [i2 hk]; rfl
      | some w => obtain ⟨u, hu, _⟩ := i1 w hk; rw [hu]; rfl
    rw [es]
    exact q _ F2 H2 (x1.trans x2) g2 (.bl _)
  · refine .inr (im_op ro ha hb dk H0 F0 F σ H env st d s2 g ?_ Q q)
    unfold opM
    rw [h1]
    show ((fb env s1).bind _) = _
    rw [h2]
    show ((fun d e => if neg then notInM d e else inM d e) (dr s2 x) (dr s2 y)).map _ = _
    have : cntD neg (dr s2 x) (dr s2 y) = if neg then notInM (dr s2 x) (dr s2 y) else inM (dr s2 x) (dr s2 y) := by
      unfold cntD
      split
      · rename_i ks ds hx
        exact absurd ⟨ks, ds, hx⟩ hd
      · rfl
    dsimp only
    rw [← this, show cntD neg (dr s2 x) (dr s2 y) = some d from h3]
    rfl
theorem im_in {ta tb : TE} {fa fb : ME} (ha : ImW K ta fa) (hb : ImW K tb fb) : Im K (tIn K ta tb) (opM (cntD false) fa fb) := im_inX false (rInA K) ro_in (fun σ H Q h => h) ha hb
theorem im_notIn {ta tb : TE} {fa fb : ME} (ha : ImW K ta fa) (hb : ImW K tb fb) : Im K (tNotIn K ta tb) (opM (cntD true) fa fb) := im_inX true (rNotInA K) ro_notIn (fun σ H Q h => h) ha hb
/-! len(d), list(d) -/
theorem call_lenR {X : Cx} : CallR X (.builtin "len") (fun xs H Q => ∃ a kvs, xs = [V.ref a] ∧ Rd H a (.dK kvs) ∧ Q (.int kvs.length) H) := by
  intro pins s σ H xs us Q I r h
  obtain ⟨a, kvs, rfl, ha, q⟩ := h
  obtain ⟨u, rfl, ru⟩ := vals1 r
  cases ru
  exact d_len I ha fun t s' I' => ⟨.int kvs.length, H, I', ⟨t, rfl⟩, q⟩
def lenA : List D → Option D
  | [.dic ks _] => some (.int ks.length)
  | ds => lenM ds
def rLenA (K : Fg) : List V → Hp → VK → Prop := fun xs H Q => (∃ a kvs, xs = [V.ref a] ∧ Rd H a (.dK kvs) ∧ Q (.int kvs.length) H) ∨ ∃ x n, xs = [x] ∧ LenV K x H n ∧ Q (.int n) H
theorem call_lenA {X : Cx} : CallR X (.builtin "len") (rLenA X.K) := CallR.or call_lenR call_len
theorem rc_lenA : RC K (rLenA K) lenA := by
  intro dk F H st vs ds z w rx hz Q q
  unfold lenA at hz
  split at hz
  · cases hz
    obtain ⟨v, rfl, r⟩ := rx.one
    obtain ⟨p, vs, rfl, hr, hl, r⟩ := r.d w.sub
    refine .inl ⟨p, _, rfl, hr, ?_⟩
    rw [List.length_zip, hl, Nat.min_self, ← hl]
    exact q _ F H (Px.refl w.sub) (.int _)
  · exact .inr (rc_len dk F H st vs _ z w rx hz Q q)
/-! d.get(k), d.get(k, x) -/
def isDicD : D → Option (List Key × List D)
  | .dic ks ds => some (ks, ds)
  | _ => none
theorem isDicD_eq {d : D} {q : List Key × List D} (h : isDicD d = some q) : d = .dic q.1 q.2 := by
  cases d <;> first | (cases h; rfl) | cases h
def get1M (fd fk : ME) : ME := fun env st => (fd env st).bind fun p => (isDicD (dr p.2 p.1)).bind fun _ => (fk env p.2).bind fun q => (isDicD (dr q.2 p.1)).bind fun z => (keyOf q.1).map fun k => ((getK z.1 z.2 k).getD .non, q.2)
theorem im_get1 {td ty : TE} {fd fk : ME} (hd : ImW K td fd) (hk : ImW K ty fk) : Im K (tDGet1 td ty) (get1M fd fk) := fun dk H0 F0 F σ H env st d st' g e Q q => by
  obtain ⟨⟨x, s1⟩, h1, e⟩ := bnd e
  obtain ⟨_, h2, e⟩ := bnd e
  obtain ⟨⟨y, s2⟩, h3, e⟩ := bnd e
  obtain ⟨⟨ks, ds⟩, h4, e⟩ := bnd e
  obtain ⟨k, h5, e⟩ := mpd e
  cases e
  refine hd dk H0 F0 F σ H env st x s1 g h1 _ fun v F1 H1 x1 g1 r1 => ?_
  have r1' := r1.dr g1.wd
  rw [isDicD_eq h2] at r1'
  obtain ⟨p, _, rfl, hr, _, _⟩ := r1'.d g1.wd.sub
  refine ⟨p, rfl, .inl ⟨_, hr⟩, ?_⟩
  refine hk dk H0 F0 F1 σ H1 env s1 y _ g1 h3 _ fun u F2 H2 x2 g2 r2 => ?_
  have r3 := (r1.ext x2).dr g2.wd
  rw [isDicD_eq h4] at r3
  obtain ⟨p', vs, e', hr, hl, r⟩ := r3.d g2.wd.sub
  cases e'
  obtain ⟨i1, i2⟩ := getK_val ks k r hl
  refine ⟨_, .inl ⟨_, k, hr, keyOf_rw r2.w h5, rfl⟩, ?_⟩
  dsimp only at q ⊢
  cases hk : getK ks ds k with
  | none =>
    rw [i2 hk]
    rw [hk] at q
    exact q .non F2 H2 (x1.trans x2) g2 .non
  | some d =>
    obtain ⟨u, hu, ru⟩ := i1 d hk
    rw [hu]
    rw [hk] at q
    exact q u F2 H2 (x1.trans x2) g2 ru
def get2M (fd fk fx : ME) : ME := fun env st => (fd env st).bind fun p => (isDicD (dr p.2 p.1)).bind fun _ => (fk env p.2).bind fun q => (fx env q.2).bind fun r => (isDicD (dr r.2 p.1)).bind fun z => (keyOf q.1).map fun k => ((getK z.1 z.2 k).getD r.1, r.2)
theorem im_get2 {td ty tx : TE} {fd fk fx : ME} (hd : ImW K td fd) (hk : ImW K ty fk) (hx : Im K tx fx) : Im K (tDGet2 td ty tx) (get2M fd fk fx) := fun dk H0 F0 F σ H env st d st' g e Q q => by
  obtain ⟨⟨x, s1⟩, h1, e⟩ := bnd e
  obtain ⟨_, h2, e⟩ := bnd e
  obtain ⟨⟨y, s2⟩, h3, e⟩ := bnd e
  obtain ⟨⟨z, s3⟩, h6, e⟩ := bnd e
  obtain ⟨⟨ks, ds⟩, h4, e⟩ := bnd e
  obtain ⟨k, h5, e⟩ := mpd e
  cases e
  refine hd dk H0 F0 F σ H env st x s1 g h1 _ fun v F1 H1 x1 g1 r1 => ?_
  have r1' := r1.dr g1.wd
  rw [isDicD_eq h2] at r1'
  obtain ⟨p, _, rfl, hr, _, _⟩ := r1'.d g1.wd.sub
  refine ⟨p, rfl, .inl ⟨_, hr⟩, ?_⟩
  refine hk dk H0 F0 F1 σ H1 env s1 y _ g1 h3 _ fun u F2 H2 x2 g2 r2 => ?_
  refine hx dk H0 F0 F2 σ H2 env s2 z _ g2 h6 _ fun w F3 H3 x3 g3 rz => ?_
  have x23 := x2.trans x3
  have r3 := (r1.ext x23).dr g3.wd
  rw [isDicD_eq h4] at r3
  obtain ⟨p', vs, e', hr, hl, r⟩ := r3.d g3.wd.sub
  cases e'
  obtain ⟨i1, i2⟩ := getK_val ks k r hl
  refine ⟨_, .inl ⟨_, k, hr, keyOf_rw (r2.ext x3).w h5, rfl⟩, ?_⟩
  dsimp only at q ⊢
  cases hk : getK ks ds k with
  | none =>
    rw [i2 hk]
    rw [hk] at q
    exact q w F3 H3 (x1.trans x23) g3 rz
  | some d =>
    obtain ⟨u, hu, ru⟩ := i1 d hk
    rw [hu]
    rw [hk] at q
    exact q u F3 H3 (x1.trans x23) g3 ru
/-! d[k] = v, of a name's own dict -/
def dputM (i : Nat) (fk fv : ME) : MS := fun env st => match env[i]? with
  | some (.own (.dic ks, ds)) => (fv env st).bind fun p => (fk env p.2).bind fun q => (keyOf q.1).bind fun k => if ds.length < sizeLine then some (.nx (env.set i (.own (.dic (putKs ks k), putVs ks ds k p.1))), q.2) else none
  | _ => none
theorem is_dput {ty tv : TE} {fk fv : ME} (i : Nat) (hk : ImW K ty fk) (hv : Im K tv fv) : ImS K (sDPut (tVar i) ty tv) (dputM i fk fv) := fun dk H0 F0 F σ H env st fl st' g e E hd => by
  unfold dputM at e
  split at e
  · rename_i ks ds he
    obtain ⟨⟨d, s1⟩, e1, e⟩ := bnd e
    obtain ⟨⟨y, s2⟩, e2, e⟩ := bnd e
    obtain ⟨k, e3, e⟩ := bnd e
    split at e
    · rename_i hz
      cases e
      obtain ⟨p, vs, h1, ⟨h2, h2'⟩, h3, h4, h5, h6, h7⟩ := g.sl i _ he
      refine hv dk H0 F0 F σ H env st d s1 g e1 _ fun v F1 H1 x1 g1 r1 => ?_
      refine ⟨.ref p, join_eq h1, hk dk H0 F0 F1 σ H1 env s1 y s2 g1 e2 _ fun u F2 H2 x2 g2 r2 => ?_⟩
      have x12 := x1.trans x2
      have hl := h7.length
      refine ⟨p, _, rfl, .inl ⟨ks.zip vs, k, x12.h _ _ h2 h5 h6 (.inl h3.2), keyOf_rw r2.w e3, ?_, rfl⟩, ?_⟩
      · rw [List.length_zip, h2', Nat.min_self, hl]; exact hz
      · refine hd F2 σ _ x12.f (g2.mut (ds' := (.dic (putKs ks k), putVs ks ds k d)) (vs' := putVs ks vs k v) he (join_eq h1) ⟨?_, put_len h2'⟩ (putVs_rps (r1.mono x2.f) (h7.mono x12.f)))
        rw [upd_same, put_zip h2']
    · cases e
  · cases e
/-! ### new dicts -/
abbrev MK := Sg → S → Option ((List Key × List D) × S)
def ImK (K : Fg) (te : TE) (f : MK) : Prop := ∀ (dk : Dk) (H0 : Hp) (F0 F : Fz) (σ : L2.St) (H : Hp) (env : Sg) (st : S) (q : List Key × List D) (st' : S), Good K dk H0 F0 F σ H env st → f env st = some (q, st') →
  ∀ Q : VK, (∀ p vs F' H', Ext dk F H F' H' → Good K dk H0 F0 F' σ H' env st' → H p = none → F'.out p → H' p = some (.dK (q.1.zip vs)) → q.1.length = vs.length → Rps K dk F' vs q.2 → Q (.ref p) H') → te σ H Q
def frzK (f : MK) : ME := fun env st => (f env st).map fun p => (.dic p.1.1 p.1.2, p.2)
theorem ImK.im {te : TE} {f : MK} (h : ImK K te f) : Im K te (frzK f) := fun dk H0 F0 F σ H env st d st' g e Q q => by
  obtain ⟨⟨⟨ks, ds⟩, s1⟩, h1, h2⟩ := mpd e
  cases h2
  refine h dk H0 F0 F σ H env st _ s1 g h1 Q fun p vs F' H' x g' hp fp hl hl2 r => ?_
  have nd := g.nedk hp
  have le : Le F' (F'.up p (.dK (ks.zip vs))) := Le.new fp.1
  exact q (.ref p) _ H' (x.freeze hp fp) (g'.freeze hl fp (g.fresh0 hp) nd.1 nd.2 (g.noown hp)) (.dic Fz.up_same hl2 (r.mono le))
theorem ImK.w {te : TE} {f : MK} (h : ImK K te f) : ImW K te (frzK f) := h.im.w
def ownK (i : Nat) (f : MK) : MS := fun env st => (f env st).map fun p => (.nx (env.set i (.own (.dic p.1.1, p.1.2))), p.2)
theorem is_ownK {te : TE} {f : MK} (i : Nat) (h : ImK K te f) : ImS K (tAsg te (gName i)) (ownK i f) := fun dk H0 F0 F σ H env st fl st' g e E hd => by
  obtain ⟨⟨⟨ks, ds⟩, s1⟩, e1, e⟩ := mpd e
  cases e
  refine h dk H0 F0 F σ H env st _ s1 g e1 _ fun p vs F1 H1 x1 g1 hp fp hl hl2 r => ?_
  have nd := g.nedk hp
  exact hd F1 _ H1 x1.f (g1.setO (ds := (.dic ks, ds)) ⟨hl, hl2⟩ fp (g.fresh0 hp) nd.1 nd.2 (g.noown hp) r)
/-! {k: v, ..} -/
def mrgL {α : Type} : List Key → List α → List (Key × α) → List Key × List α
  | ks, xs, [] => (ks, xs)
  | ks, xs, (k, x) :: r => mrgL (putKs ks k) (putVs ks xs k x) r
theorem mrg_zip : ∀ (kvs : List (Key × V)) (ks : List Key) (vs : List V), ks.length = vs.length → mergeK (ks.zip vs) kvs = (mrgL ks vs kvs).1.zip (mrgL ks vs kvs).2 ∧ (mrgL ks vs kvs).1.length = (mrgL ks vs kvs).2.length
  | [], ks, vs, h => ⟨rfl, h⟩
  | (k, v) :: r, ks, vs, h => by
    have ih := mrg_zip r (putKs ks k) (putVs ks vs k v) (put_len h)
    rw [← put_zip h] at ih
    exact ih
inductive Rpk (K : Fg) (dk : Dk) (F : Fz) : List (Key × V) → List (Key × D) → Prop
  | nil : Rpk K dk F [] []
  | cons {k : Key} {v : V} {d : D} {kvs : List (Key × V)} {kds : List (Key × D)} : Rp K dk F v d → Rpk K dk F kvs kds → Rpk K dk F ((k, v) :: kvs) ((k, d) :: kds)
theorem Rpk.mono (le : Le F F') : ∀ {kvs : List (Key × V)} {kds : List (Key × D)}, Rpk K dk F kvs kds → Rpk K dk F' kvs kds
  | _, _, .nil => .nil
  | _, _, .cons a b => .cons (a.mono le) (Rpk.mono le b)
theorem Rpk.length : ∀ {kvs : List (Key × V)} {kds : List (Key × D)}, Rpk K dk F kvs kds → kvs.length = kds.length
  | _, _, .nil => rfl
  | _, _, .cons a b => by simp [Rpk.length b]
theorem mrg_rps : ∀ {kvs : List (Key × V)} {kds : List (Key × D)} (ks : List Key) {vs : List V} {ds : List D}, Rpk K dk F kvs kds → Rps K dk F vs ds → (mrgL ks vs kvs).1 = (mrgL ks ds kds).1 ∧ Rps K dk F (mrgL ks vs kvs).2 (mrgL ks ds kds).2
  | _, _, ks, _, _, .nil, r => ⟨rfl, r⟩
  | _, _, ks, _, _, .cons a b, r => mrg_rps (putKs ks _) b (putVs_rps a r)
abbrev MP := Sg → S → Option (List (Key × D) × S)
def ImP (K : Fg) (trs : List (TE × TE)) (f : MP) : Prop := ∀ (dk : Dk) (H0 : Hp) (F0 F : Fz) (σ : L2.St) (H : Hp) (env : Sg) (st : S) (kds : List (Key × D)) (st' : S), Good K dk H0 F0 F σ H env st → f env st = some (kds, st') →
  ∀ Q : List (V × V) → Hp → Prop, (∀ kvs F' H', Ext dk F H F' H' → Good K dk H0 F0 F' σ H' env st' → Rpk K dk F' kvs kds → Q (kvs.map fun kv => (kV kv.1, kv.2)) H') → tPairs trs σ H Q
def pNil : MP := fun _ st => some ([], st)
theorem ip_nil : ImP K [] pNil := fun dk H0 F0 F σ H env st kds st' g e Q q => by
  cases e
  exact q [] F H (Ext.refl F H) g .nil
def pCons (fk fv : ME) (r : MP) : MP := fun env st => (fk env st).bind fun p => (keyOf p.1).bind fun k => (fv env p.2).bind fun q => (r env q.2).map fun z => ((k, q.1) :: z.1, z.2)
theorem ip_cons {tk tv : TE} {trs : List (TE × TE)} {fk fv : ME} {r : MP} (hk : Im K tk fk) (hv : Im K tv fv) (hr : ImP K trs r) : ImP K ((tk, tv) :: trs) (pCons fk fv r) := fun dk H0 F0 F σ H env st kds st' g e Q q => by
  obtain ⟨⟨y, s1⟩, e1, e⟩ := bnd e
  obtain ⟨k, e2, e⟩ := bnd e
  obtain ⟨⟨d, s2⟩, e3, e⟩ := bnd e
  obtain ⟨⟨kds', s3⟩, e4, e⟩ := mpd e
  cases e
  refine hk dk H0 F0 F σ H env st y s1 g e1 _ fun v F1 H1 x1 g1 r1 => ?_
  refine hv dk H0 F0 F1 σ H1 env s1 d s2 g1 e3 _ fun u F2 H2 x2 g2 r2 => ?_
  refine hr dk H0 F0 F2 σ H2 env s2 kds' _ g2 e4 _ fun kvs F3 H3 x3 g3 r3 => ?_
  have := q ((k, u) :: kvs) F3 H3 (x1.trans (x2.trans x3)) g3 (.cons (r2.mono x3.f) r3)
  rw [List.map_cons] at this
  have hv : v = kV k := keyOf_rw (H := H1) (.rp r1) e2
  rw [hv]
  exact this
def dispK (f : MP) : MK := fun env st => (f env st).bind fun p => if p.1.length ≤ 15 then some (mrgL [] [] p.1, p.2) else none
theorem ik_disp {trs : List (TE × TE)} {f : MP} (h : ImP K trs f) : ImK K (tDisp trs) (dispK f) := fun dk H0 F0 F σ H env st kd st' g e Q q => by
  obtain ⟨⟨kds, s1⟩, e1, e⟩ := bnd e
  dsimp only at e
  split at e
  · rename_i hz
    cases e
    intro p hp
    have nd := g.nedk hp
    have px : Px F H F (upd H p (.dK [])) := Px.lay g.wd.sub hp
    have fp := g.wd.out hp
    refine h dk H0 F0 F σ _ env st kds _ (g.px px) e1 _ fun kvs F1 H1 x1 g1 r1 => ?_
    have h1 : H1 p = some (.dK []) := x1.h _ _ upd_same nd.1 nd.2 (.inl fp.2)
    have f1 : F1.out p := x1.out fp (nn upd_same)
    have no := g.noown hp
    refine ⟨h1, kvs, rfl, by rw [r1.length]; exact hz, ?_⟩
    have g2 : Good K dk H0 F0 F1 σ (upd H1 p (.dK (mergeK [] kvs))) env st' := g1.mutT h1 f1 (g.fresh0 hp) nd.1 nd.2 no
    obtain ⟨z1, z2⟩ := mrg_zip kvs [] [] rfl
    obtain ⟨y1, y2⟩ := mrg_rps (K := K) (dk := dk) (F := F1) [] r1 Rps.nil
    refine q p (mrgL [] [] kvs).2 F1 _ ?_ g2 hp f1 (by rw [upd_same, ← y1]; exact congrArg (fun z => some (HO.dK z)) z1) (by rw [← y1]; exact z2) y2
    exact (px.ext.trans x1).upd hp
  · cases e
/-- {} -/
def newK : MK := fun env st => some (([], []), st)
theorem ik_new : ImK K tDNewK newK := fun dk H0 F0 F σ H env st kd st' g e Q q => by
  cases e
  intro p hp
  have px : Px F H F (upd H p (.dK [])) := Px.lay g.wd.sub hp
  exact q p [] F _ px.ext (g.px px) hp (g.wd.out hp) upd_same rfl .nil
/-- dict(d) -/
def cpyK (f : ME) : MK := fun env st => (f env st).bind fun p => (isDicD (dr p.2 p.1)).map fun q => (q, p.2)
theorem ik_cpy {te : TE} {f : ME} (h : ImW K te f) : ImK K (tCB (fun xs H Q => ∃ (a : Addr) (kvs : List (Key × V)), xs = [.ref a] ∧ Rd H a (.dK kvs) ∧ ∀ p, H p = none → Q (.ref p) (upd H p (.dK kvs))) (tCons te tNil)) (cpyK f) := fun dk H0 F0 F σ H env st kd st' g e Q q => by
  obtain ⟨⟨x, s1⟩, h1, e⟩ := bnd e
  obtain ⟨⟨ks, ds⟩, h2, e⟩ := mpd e
  cases e
  refine h dk H0 F0 F σ H env st x s1 g h1 _ fun v F1 H1 x1 g1 r1 => ?_
  have r3 := r1.dr g1.wd
  rw [isDicD_eq h2] at r3
  obtain ⟨p, vs, rfl, hr, hl, r⟩ := r3.d g1.wd.sub
  refine ⟨p, _, rfl, hr, fun p' hp => ?_⟩
  have px : Px F1 H1 F1 (upd H1 p' (.dK (ks.zip vs))) := Px.lay g1.wd.sub hp
  exact q p' vs F1 _ (x1.trans px.ext) (g1.px px) (x1.back hp) (g1.wd.out hp) upd_same hl r
end
end MD

set_option Elab.async false
set_option linter.all false
set_option maxRecDepth 100000
set_option maxHeartbeats 1000000
namespace MD
open PySem L2

/-! ### things of the store, changed -/
def S.put (st : S) (n : Nat) (o : Ob) : S := { st with ob := st.ob.set n o }
section
variable {K : Fg} {dk : Dk} {F F' F0 : Fz} {H H' H0 : Hp} {σ σ' : L2.St} {env env' : Sg} {st st' st'' : S}
theorem mu_lt {n : Nat} {a : Addr} (h : F.mu[n]? = some a) : n < F.mu.length := by
  by_cases hl : n < F.mu.length
  · exact hl
  · rw [List.getElem?_eq_none (by omega)] at h; cases h
theorem Wd.ndk (w : Wd K dk F H st) {a : Addr} (h : a ∈ F.mu) : a ≠ dk.1 ∧ a ≠ dk.2 := ⟨fun z => w.f1.2 (z ▸ h), fun z => w.f2.2 (z ▸ h)⟩
theorem Wd.put {n : Nat} {a : Addr} {o' : HO} {ob' : Ob} (w : Wd K dk F H st) (hn : F.mu[n]? = some a) (ho : ObAt K dk F (L2.upd H a o') a ob') : Wd K dk F (L2.upd H a o') (st.put n ob') := by
  have hm := List.mem_of_getElem? hn
  obtain ⟨n1, n2⟩ := w.ndk hm
  have hln := mu_lt hn
  obtain ⟨fa, _⟩ := w.ob n a _ hn (List.getElem?_eq_getElem (by rw [← w.ml]; exact hln))
  refine ⟨fun b u e => ?_, by rw [upd_ne n1.symm]; exact w.d1, by rw [upd_ne n2.symm]; exact w.d2, w.f1, w.f2, w.ne, by rw [w.ml]; simp [S.put], w.nd, fun m b u h1 h2 => ?_⟩
  · rw [upd_ne (ne_of_none e fa)]; exact w.sub b u e
  · by_cases hmn : n = m
    · subst hmn
      rw [hn] at h1; cases h1
      have h2' : (st.ob.set n ob')[n]? = some u := h2
      rw [List.getElem?_set_self (by rw [← w.ml]; exact hln)] at h2'
      cases h2'
      exact ⟨fa, ho⟩
    · have h2' : (st.ob.set n ob')[m]? = some u := h2
      rw [List.getElem?_set_ne hmn] at h2'
      obtain ⟨q1, q2⟩ := w.ob m b u h1 h2'
      have nb : b ≠ a := fun z => hmn (by
        subst z
        exact (List.getElem?_inj hln w.nd).mp (hn.trans h1.symm))
      exact ⟨q1, q2.keep (fun _ e => by rw [upd_ne nb]; exact e) (Le.refl F)⟩
theorem Ext.put {n : Nat} {a : Addr} {o o' : HO} (x : Ext dk F0 H0 F H) (hn : F.mu[n]? = some a) (ha : H a = some o) (nf : ¬ Fro o) (nf' : ¬ Fro o') : Ext dk F0 H0 F (L2.upd H a o') := by
  have hm := List.mem_of_getElem? hn
  refine ⟨fun b u e n1 n2 n3 => ?_, x.f, x.n, fun b e z => ?_, x.u, fun b u e f => x.k b u (updK nf' b u e f) f⟩
  · have e' := x.h b u e n1 n2 n3
    by_cases nb : b = a
    · subst nb
      rw [ha] at e'; cases e'
      rcases n3 with n3 | n3
      · rcases x.u b hm with q | q
        · exact absurd q n3
        · rw [q] at e; cases e
      · exact absurd n3 nf
    · rw [upd_ne nb]; exact e'
  · by_cases nb : b = a
    · subst nb; rw [upd_same] at z; cases z
    · rw [upd_ne nb] at z; exact x.m b e z
theorem Good.put {n : Nat} {a : Addr} {o o' : HO} {ob' : Ob} (g : Good K dk H0 F0 F σ H env st) (hn : F.mu[n]? = some a) (ha : H a = some o) (nf : ¬ Fro o) (ho : ObAt K dk F (upd H a o') a ob')
    (nf' : ¬ Fro o' := by rintro ⟨_, _, z⟩; cases z) : Good K dk H0 F0 F σ (upd H a o') env (st.put n ob') := by
  refine ⟨g.wd.put hn ho, g.ext.put hn ha nf nf', g.len, fun i s e => ?_, g.dis⟩
  have q := g.sl i s e
  cases s with
  | un => trivial
  | val d => exact q
  | own ds =>
    obtain ⟨p, vs, h1, h2, h3, h4⟩ := q
    have np : p ≠ a := fun z => h3.2 (z ▸ List.mem_of_getElem? hn)
    exact ⟨p, vs, h1, h2.keep fun o e => by rw [upd_ne np]; exact e, h3, h4⟩
/-! new things of the store -/
def Fz.ad (F : Fz) (p : Addr) : Fz := ⟨F.hp, F.mu ++ [p]⟩
def S.ad (st : S) (o : Ob) : S := { st with ob := st.ob ++ [o] }
theorem Le.ad {p : Addr} : Le F (F.ad p) := ⟨Lh.refl _, [p], rfl⟩
theorem Good.ad {p : Addr} {o : HO} {ob : Ob} (g : Good K dk H0 F0 F σ H env st) (hp : H p = some o) (fp : F.out p) (h0 : H0 p = none) (n1 : p ≠ dk.1) (n2 : p ≠ dk.2)
    (no : ∀ (i : Nat) (ds : Own), env[i]? = some (.own ds) → σ[i]? ≠ some (some (.ref p))) (ho : ObAt K dk (F.ad p) H p ob) : Good K dk H0 F0 (F.ad p) σ H env (st.ad ob) := by
  have le : Le F (F.ad p) := Le.ad
  have w := g.wd
  refine ⟨⟨w.sub, w.d1, w.d2, ⟨w.f1.1, fun z => ?_⟩, ⟨w.f2.1, fun z => ?_⟩, w.ne, ?_, ?_, fun n a u h1 h2 => ?_⟩, ⟨g.ext.h, g.ext.f.trans le, g.ext.n, g.ext.m, fun a ha => ?_, g.ext.k⟩, g.len, fun i s e => ?_, g.dis⟩
  · rcases List.mem_append.mp z with z | z
    · exact w.f1.2 z
    · exact n1 (List.mem_singleton.mp z).symm
  · rcases List.mem_append.mp z with z | z
    · exact w.f2.2 z
    · exact n2 (List.mem_singleton.mp z).symm
  · simp [Fz.ad, S.ad, w.ml]
  · show (F.mu ++ [p]).Nodup
    rw [List.nodup_append]
    refine ⟨w.nd, by simp, fun a ha b hb z => fp.2 ?_⟩
    rw [List.mem_singleton.mp hb] at z
    exact z ▸ ha
  · have h1' : (F.mu ++ [p])[n]? = some a := h1
    have h2' : (st.ob ++ [ob])[n]? = some u := h2
    by_cases hl : n < F.mu.length
    · rw [List.getElem?_append_left hl] at h1'
      rw [List.getElem?_append_left (by rw [← w.ml]; exact hl)] at h2'
      obtain ⟨q1, q2⟩ := w.ob n a u h1' h2'
      exact ⟨q1, q2.keep (fun _ e => e) le⟩
    · have hn : n = F.mu.length := by
        have := mu_lt h1
        simp [Fz.ad] at this
        omega
      subst hn
      rw [List.getElem?_append_right (Nat.le_refl _), Nat.sub_self] at h1'
      rw [w.ml, List.getElem?_append_right (Nat.le_refl _), Nat.sub_self] at h2'
      cases h1'; cases h2'
      exact ⟨fp.1, ho⟩
  · have ha' : a ∈ F.mu ++ [p] := ha
    rcases List.mem_append.mp ha' with z | z
    · exact g.ext.u a z
    · rw [List.mem_singleton.mp z]; exact .inr h0
  · have q := g.sl i s e
    cases s with
    | un => trivial
    | val d => obtain ⟨v, h1, h2⟩ := q; exact ⟨v, h1, h2.mono le⟩
    | own ds =>
      obtain ⟨r, vs, h1, h2, h3, h4, h5, h6, h7⟩ := q
      have nr : r ≠ p := fun z => no i ds e (by rw [← z]; exact join_eq h1)
      refine ⟨r, vs, h1, h2, ⟨h3.1, fun z => ?_⟩, h4, h5, h6, h7.mono le⟩
      rcases List.mem_append.mp z with z | z
      · exact h3.2 z
      · exact nr (List.mem_singleton.mp z)
theorem Ext.ad {p : Addr} (x : Ext dk F H F' H') (hp : H p = none) : Ext dk F H (F'.ad p) H' :=
  ⟨x.h, x.f.trans Le.ad, x.n, x.m, fun a ha => by
    have ha' : a ∈ F'.mu ++ [p] := ha
    rcases List.mem_append.mp ha' with z | z
    · exact x.u a z
    · rw [List.mem_singleton.mp z]; exact .inr hp, x.k⟩
theorem ad_at (w : Wd K dk F H st) (p : Addr) : (F.ad p).mu[st.ob.length]? = some p := by
  show (F.mu ++ [p])[st.ob.length]? = some p
  rw [← w.ml, List.getElem?_append_right (Nat.le_refl _), Nat.sub_self]; rfl
/-- a new list, a new dict for the store -/
def stoL (f : MA) : ME := fun env st => (f env st).map fun p => (.ref p.2.ob.length, p.2.ad (.lst p.1))
theorem ImF.sto {te : TE} {f : MA} (h : ImF K te f) : Im K te (stoL f) := fun dk H0 F0 F σ H env st d st' g e Q q => by
  obtain ⟨⟨ds, s1⟩, h1, h2⟩ := mpd e
  cases h2
  refine h dk H0 F0 F σ H env st ds s1 g h1 Q fun p vs F' H' x g' hp fp hl r => ?_
  have nd := g.nedk hp
  exact q (.ref p) _ H' (x.ad hp) (g'.ad hl fp (g.fresh0 hp) nd.1 nd.2 (g.noown hp) (.lst hl (r.mono Le.ad))) (.ref (ad_at g'.wd p))
def stoK (f : MK) : ME := fun env st => (f env st).map fun p => (.ref p.2.ob.length, p.2.ad (.dic false p.1.1 p.1.2))
theorem ImK.sto {te : TE} {f : MK} (h : ImK K te f) : Im K te (stoK f) := fun dk H0 F0 F σ H env st d st' g e Q q => by
  obtain ⟨⟨⟨ks, ds⟩, s1⟩, h1, h2⟩ := mpd e
  cases h2
  refine h dk H0 F0 F σ H env st _ s1 g h1 Q fun p vs F' H' x g' hp fp hl hl2 r => ?_
  have nd := g.nedk hp
  exact q (.ref p) _ H' (x.ad hp) (g'.ad hl fp (g.fresh0 hp) nd.1 nd.2 (g.noown hp) (.dic hl hl2 (r.mono Le.ad))) (.ref (ad_at g'.wd p))
/-! e.append(x), e[k] = x, of a thing of the store -/
def refOf : D → Option Nat
  | .ref n => some n
  | _ => none
theorem refOf_eq {d : D} {n : Nat} (h : refOf d = some n) : d = .ref n := by
  cases d <;> first | (cases h; rfl) | cases h
def lstAt (st : S) (n : Nat) : Option (List D) := match st.ob[n]? with
  | some (.lst ds) => some ds
  | _ => none
theorem lstAt_eq {n : Nat} {ds : List D} (h : lstAt st n = some ds) : st.ob[n]? = some (.lst ds) := by
  unfold lstAt at h
  split at h
  · rename_i e; cases h; exact e
  · cases h
def dicAt (st : S) (n : Nat) : Option (List Key × List D) := match st.ob[n]? with
  | some (.dic false ks ds) => some (ks, ds)
  | _ => none
theorem dicAt_eq {n : Nat} {q : List Key × List D} (h : dicAt st n = some q) : st.ob[n]? = some (.dic false q.1 q.2) := by
  unfold dicAt at h
  split at h
  · rename_i e; cases h; exact e
  · cases h
theorem Wd.lstAt {n : Nat} {a : Addr} {ds : List D} (w : Wd K dk F H st) (hn : F.mu[n]? = some a) (h : lstAt st n = some ds) : ∃ vs, H a = some (.lst vs) ∧ Rps K dk F vs ds := by
  obtain ⟨_, q⟩ := w.ob n a _ hn (lstAt_eq h)
  cases q with
  | lst h r => exact ⟨_, h, r⟩
theorem Wd.dicAt {n : Nat} {a : Addr} {q : List Key × List D} (w : Wd K dk F H st) (hn : F.mu[n]? = some a) (h : dicAt st n = some q) : ∃ vs, H a = some (.dK (q.1.zip vs)) ∧ q.1.length = vs.length ∧ Rps K dk F vs q.2 := by
  obtain ⟨_, q⟩ := w.ob n a _ hn (dicAt_eq h)
  cases q with
  | dic h l r => exact ⟨_, h, l, r⟩
theorem Rp.refn {v : V} {n : Nat} (r : Rp K dk F v (.ref n)) : ∃ a, v = .ref a ∧ F.mu[n]? = some a := by
  cases r with
  | ref h => exact ⟨_, rfl, h⟩
def sappM (fo f : ME) : MS := fun env st => (fo env st).bind fun o => (refOf o.1).bind fun n => (lstAt o.2 n).bind fun _ => (f env o.2).bind fun p => (lstAt p.2 n).bind fun ds => if ds.length < sizeLine then some (.nx env, p.2.put n (.lst (ds ++ [p.1]))) else none
theorem is_sapp {to te : TE} {fo f : ME} (ho : Im K to fo) (h : Im K te f) : ImS K (tDrop (tBM K "list" rAppend to (tCons te tNil))) (sappM fo f) := fun dk H0 F0 F σ H env st fl st' g e E hd => by
  obtain ⟨⟨x, s1⟩, h1, e⟩ := bnd e
  obtain ⟨n, h2, e⟩ := bnd e
  obtain ⟨_, h0, e⟩ := bnd e
  obtain ⟨⟨d, s2⟩, h3, e⟩ := bnd e
  obtain ⟨ds, h4, e⟩ := bnd e
  split at e
  · rename_i hz
    cases e
    refine ho dk H0 F0 F σ H env st x s1 g h1 _ fun v F1 H1 x1 g1 r1 => ?_
    have hx : x = .ref n := refOf_eq h2
    subst hx
    obtain ⟨a, rfl, ha⟩ := r1.refn
    obtain ⟨vs0, hv0, _⟩ := g1.wd.lstAt ha h0
    refine ⟨.inl ⟨rfl, vs0, SqL.of hv0⟩, ?_⟩
    refine h dk H0 F0 F1 σ H1 env s1 d s2 g1 h3 _ fun u F2 H2 x2 g2 r2 => ?_
    have ha2 := x2.f.at ha
    obtain ⟨vs, hv, rv⟩ := g2.wd.lstAt ha2 h4
    refine ⟨a, vs, u, rfl, rfl, hv, by rw [rv.length]; exact hz, ?_⟩
    exact hd F2 σ _ (x1.f.trans x2.f) (g2.put ha2 hv (by rintro ⟨_, _, z⟩; cases z) (.lst upd_same (rv.append (Rps.one r2))))
  · cases e
def sputM (fo fk fv : ME) : MS := fun env st => (fv env st).bind fun p => (fo env p.2).bind fun o => (refOf o.1).bind fun n => (fk env o.2).bind fun q => (keyOf q.1).bind fun k => (dicAt q.2 n).bind fun z => if z.2.length < sizeLine then some (.nx env, q.2.put n (.dic false (putKs z.1 k) (putVs z.1 z.2 k p.1))) else none
theorem is_sput {to ty tv : TE} {fo fk fv : ME} (ho : Im K to fo) (hk : ImW K ty fk) (hv : Im K tv fv) : ImS K (sDPut to ty tv) (sputM fo fk fv) := fun dk H0 F0 F σ H env st fl st' g e E hd => by
  obtain ⟨⟨d, s1⟩, h1, e⟩ := bnd e
  obtain ⟨⟨x, s2⟩, h2, e⟩ := bnd e
  obtain ⟨n, h3, e⟩ := bnd e
  obtain ⟨⟨y, s3⟩, h4, e⟩ := bnd e
  obtain ⟨k, h5, e⟩ := bnd e
  obtain ⟨⟨ks, ds⟩, h6, e⟩ := bnd e
  split at e
  · rename_i hz
    cases e
    refine hv dk H0 F0 F σ H env st d s1 g h1 _ fun v F1 H1 x1 g1 r1 => ?_
    refine ho dk H0 F0 F1 σ H1 env s1 x s2 g1 h2 _ fun u F2 H2 x2 g2 r2 => ?_
    have hx : x = .ref n := refOf_eq h3
    subst hx
    obtain ⟨a, rfl, ha⟩ := r2.refn
    refine hk dk H0 F0 F2 σ H2 env s2 y s3 g2 h4 _ fun w F3 H3 x3 g3 r3 => ?_
    have ha3 := x3.f.at ha
    obtain ⟨vs, hvs, hl, rv⟩ := g3.wd.dicAt ha3 h6
    refine ⟨a, _, rfl, .inl ⟨ks.zip vs, k, hvs, keyOf_rw r3.w h5, ?_, rfl⟩, ?_⟩
    · have := rv.length
      rw [List.length_zip, hl, Nat.min_self, this]; exact hz
    · refine hd F3 σ _ (x1.f.trans (x2.f.trans x3.f)) (g3.put ha3 hvs (by rintro ⟨_, _, z⟩; cases z) ?_)
      exact .dic (by rw [upd_same]; exact congrArg (fun z => some (HO.dK z)) (put_zip hl)) (put_len hl) (putVs_rps (r1.mono (x2.f.trans x3.f)) rv)
  · cases e
/-! ### locks -/
theorem Good.lock {a : Addr} {od : Obj} {u : HO} (g : Good K dk H0 F0 F σ H env st) (no : ∀ (i : Nat) (ds : Own), env[i]? = some (.own ds) → σ[i]? ≠ some (some (.ref a))) (w : Wd K dk F (upd H a (.frz od u)) st') :
    Good K dk (upd H0 a (.frz od u)) F F σ (upd H a (.frz od u)) env st' := by
  refine ⟨w, ⟨fun b o e n1 n2 n3 => ?_, Le.refl F, fun _ h _ => h, fun b e z => ?_, fun _ h => .inl h, fun b o e f => ?_⟩, g.len, fun i s e => ?_, g.dis⟩
  · by_cases nb : b = a
    · subst nb; rw [upd_same] at e ⊢; exact e
    · rw [upd_ne nb] at e ⊢
      exact g.ext.h b o e n1 n2 (n3.imp (fun n3 z => n3 (g.ext.f.mem z)) id)
  · by_cases nb : b = a
    · subst nb; rw [upd_same] at z; cases z
    · rw [upd_ne nb] at e z; exact g.ext.m b e z
  · by_cases nb : b = a
    · subst nb; rw [upd_same] at e ⊢; exact e
    · rw [upd_ne nb] at e ⊢; exact g.ext.k b o e f
  · have q := g.sl i s e
    cases s with
    | un => trivial
    | val d => exact q
    | own ds =>
      obtain ⟨p, vs, h1, h2, h3, h4, h5⟩ := q
      have np : p ≠ a := fun z => no i ds e (by rw [← z]; exact join_eq h1)
      exact ⟨p, vs, h1, h2.keep fun o e => by rw [upd_ne np]; exact e, h3, by rw [upd_ne np]; exact h4, h5⟩
theorem Ext.unlock {a : Addr} {od : Obj} {u : HO} (x : Ext dk F0 H0 F H) (ha : H a = some u) (nf : ¬ Fro u) (y : Ext dk F (L2.upd H0 a (.frz od u)) F' H') : Ext dk F0 H0 F' (L2.upd H' a u) := by
  refine ⟨fun b o e n1 n2 n3 => ?_, x.f.trans y.f, fun b h1 h2 => ?_, fun b e z => ?_, fun b h => ?_, fun b o e f => ?_⟩
  · by_cases nb : b = a
    · subst nb
      have e' := x.h b o e n1 n2 n3
      rw [ha] at e'; rw [upd_same]; exact e'
    · rw [upd_ne nb]
      refine y.h b o (by rw [upd_ne nb]; exact e) n1 n2 (n3.imp (fun n3 z => ?_) id)
      rcases x.u b z with q | q
      · exact n3 q
      · rw [q] at e; cases e
  · refine y.n b (x.n b h1 h2) ?_
    by_cases nb : b = a
    · subst nb; rw [upd_same]; exact fun z => nomatch z
    · rw [upd_ne nb]; exact h2
  · by_cases nb : b = a
    · subst nb; rw [upd_same] at z; cases z
    · rw [upd_ne nb] at z; exact y.m b (by rw [upd_ne nb]; exact e) z
  · rcases y.u b h with q | q
    · exact x.u b q
    · refine .inr ?_
      by_cases nb : b = a
      · subst nb; rw [upd_same] at q; cases q
      · rw [upd_ne nb] at q; exact q
  · by_cases nb : b = a
    · subst nb; rw [upd_same] at e; cases e; exact absurd f nf
    · rw [upd_ne nb] at e
      have := y.k b o e f
      rw [upd_ne nb] at this; exact this
theorem Good.unlock {a : Addr} {od : Obj} {u : HO} (g : Good K dk H0 F0 F σ H env st) (ha : H a = some u) (nf : ¬ Fro u) (g' : Good K dk (upd H0 a (.frz od u)) F F' σ' H' env' st') (w : Wd K dk F' (upd H' a u) st'') : Good K dk H0 F0 F' σ' (upd H' a u) env' st'' := by
  refine ⟨w, g.ext.unlock ha nf g'.ext, g'.len, fun i s e => ?_, g'.dis⟩
  have q := g'.sl i s e
  cases s with
  | un => trivial
  | val d => exact q
  | own ds =>
    obtain ⟨p, vs, h1, h2, h3, h4, h5⟩ := q
    have np : p ≠ a := fun z => by rw [z, upd_same] at h4; cases h4
    exact ⟨p, vs, h1, h2.keep fun o e => by rw [upd_ne np]; exact e, h3, by rw [upd_ne np] at h4; exact h4, h5⟩
/-- what is locked stays -/
theorem Good.stays {a : Addr} {od : Obj} {u : HO} (g : Good K dk H0 F0 F σ H env st) (ha : H a = some (.frz od u)) (g' : Good K dk H0 F0 F' σ' H' env' st') : H' a = some (.frz od u) := by
  have n1 : a ≠ dk.1 := fun z => by rw [z, g.wd.d1] at ha; cases ha
  have n2 : a ≠ dk.2 := fun z => by rw [z, g.wd.d2] at ha; cases ha
  exact g'.ext.h _ _ (g.ext.k _ _ ha ⟨_, _, rfl⟩) n1 n2 (.inr ⟨_, _, rfl⟩)
theorem Wd.lockF {a : Addr} {od : Obj} {kvs : List (Key × V)} (w : Wd K dk F H st) (ha : F a = some (.dK kvs)) : Wd K dk F (L2.upd H a (.frz od (.dK kvs))) st := by
  have n1 : a ≠ dk.1 := fun z => by rw [z, w.f1.1] at ha; cases ha
  have n2 : a ≠ dk.2 := fun z => by rw [z, w.f2.1] at ha; cases ha
  refine ⟨fun b u e => ?_, by rw [upd_ne n1.symm]; exact w.d1, by rw [upd_ne n2.symm]; exact w.d2, w.f1, w.f2, w.ne, w.ml, w.nd, fun m b u h1 h2 => ?_⟩
  · by_cases nb : b = a
    · subst nb; rw [ha] at e; cases e; rw [upd_same]; exact .inr ⟨od, kvs, rfl, rfl⟩
    · rw [upd_ne nb]; exact w.sub b u e
  · obtain ⟨q1, q2⟩ := w.ob m b u h1 h2
    have nb : b ≠ a := fun z => by rw [z, ha] at q1; cases q1
    exact ⟨q1, q2.keep (fun _ e => by rw [upd_ne nb]; exact e) (Le.refl F)⟩
theorem Wd.unlockF {a : Addr} {kvs : List (Key × V)} (w : Wd K dk F H st) (ha : F a = some (.dK kvs)) : Wd K dk F (L2.upd H a (.dK kvs)) st := by
  have n1 : a ≠ dk.1 := fun z => by rw [z, w.f1.1] at ha; cases ha
  have n2 : a ≠ dk.2 := fun z => by rw [z, w.f2.1] at ha; cases ha
  refine ⟨fun b u e => ?_, by rw [upd_ne n1.symm]; exact w.d1, by rw [upd_ne n2.symm]; exact w.d2, w.f1, w.f2, w.ne, w.ml, w.nd, fun m b u h1 h2 => ?_⟩
  · by_cases nb : b = a
    · subst nb; rw [ha] at e; cases e; rw [upd_same]; exact .inl rfl
    · rw [upd_ne nb]; exact w.sub b u e
  · obtain ⟨q1, q2⟩ := w.ob m b u h1 h2
    have nb : b ≠ a := fun z => by rw [z, ha] at q1; cases q1
    exact ⟨q1, q2.keep (fun _ e => by rw [upd_ne nb]; exact e) (Le.refl F)⟩
/-! ### loops -/
/-- a loop over a walk that is good as long as all is good -/
theorem for_core {g : TG} {tb : TS} {t : MG} {b : MS} {is : List Nat} {ds : List D} {fl : Fl} {J : It} {E : Ends} (hg : ImG K g t is) (hb : ImS K tb b) (gd : Good K dk H0 F0 F σ H env st)
    (sd : ∀ (F2 : Fz) (σ2 : L2.St) (H2 : Hp) (env2 : Sg) (st2 : S), Le F F2 → Good K dk H0 F0 F2 σ2 H2 env2 st2 → ∀ i : Nat, (∀ d, ds[i]? = some d → J.go i H2 ∧ ∀ x H3, J.yld i H2 x H3 → ∃ F3, Px F2 H2 F3 H3 ∧ Rp K dk F3 x d) ∧ (ds.length ≤ i → J.stop i H2))
    (e : forL t b ds env st = some (fl, st')) (hd : Dn K dk H0 F0 F E st' fl) : ∀ (R : Prop), ((∃ W : Nat → Nat → L2.St → Hp → Prop, (∃ m, W 0 m σ H) ∧ ∀ i m σ H, W i m σ H → (J.stop i H ∧ E.nx σ H) ∨ (J.go i H ∧ ∃ Nx : L2.St → Hp → Prop, (∀ σ' H', Nx σ' H' → ∃ m', m' < m ∧ W (i + 1) m' σ' H') ∧ ∀ x H', J.yld i H x H' → g x σ H' fun σ2 H2 => tb ⟨Nx, E.rt, E.nx, Nx⟩ σ2 H2)) → R) → R := by
  intro R hR
  refine hR ?_
  let P : Nat → L2.St → Hp → Prop := fun i σ H => ∃ F2 env st, Le F F2 ∧ Good K dk H0 F0 F2 σ H env st ∧ forL t b (ds.drop i) env st = some (fl, st')
  refine ⟨fun i m σ H => m = ds.length - i ∧ i ≤ ds.length ∧ P i σ H, ⟨_, rfl, Nat.zero_le _, F, env, st, Le.refl F, gd, e⟩, ?_⟩
  rintro i m σ2 H2 ⟨rfl, hle, F2, env2, s2, le2, g2, e2⟩
  by_cases hlt : i < ds.length
  · have hdi : ds[i]? = some ds[i] := List.getElem?_eq_getElem hlt
    obtain ⟨hgo, hy⟩ := (sd F2 σ2 H2 env2 s2 le2 g2 i).1 _ hdi
    refine .inr ⟨hgo, P (i + 1), fun σ' H' hp => ⟨_, by omega, rfl, hlt, hp⟩, fun x H3 hx => ?_⟩
    obtain ⟨F3, px, rx⟩ := hy x H3 hx
    have g3 := g2.px px
    rw [List.drop_eq_getElem_cons hlt] at e2
    obtain ⟨env3, e3, e2⟩ := bnd e2
    obtain ⟨⟨fl3, s3⟩, e4, e2⟩ := bnd e2
    refine hg dk H0 F0 F3 σ2 H3 env2 s2 x _ env3 g3 rx e3 _ fun σ4 g4 _ => ?_
    refine hb dk H0 F0 F3 σ4 H3 env3 s2 fl3 s3 g4 e4 _ ?_
    cases fl3 with
    | nx e5 => exact fun F5 σ5 H5 l5 g5 => ⟨F5, e5, s3, (le2.trans px.f).trans l5, g5, e2⟩
    | ct e5 => exact fun F5 σ5 H5 l5 g5 => ⟨F5, e5, s3, (le2.trans px.f).trans l5, g5, e2⟩
    | bk e5 =>
      cases e2
      exact fun F5 σ5 H5 l5 g5 => hd F5 σ5 H5 ((le2.trans px.f).trans l5) g5
    | rt r =>
      cases e2
      exact hd
  · have ei : i = ds.length := by omega
    subst ei
    rw [List.drop_length] at e2
    cases e2
    exact .inl ⟨(sd F2 σ2 H2 env2 _ le2 g2 ds.length).2 (Nat.le_refl _), hd F2 σ2 H2 le2 g2⟩
end
end MD

set_option Elab.async false
set_option linter.all false
set_option maxRecDepth 100000
set_option maxHeartbeats 1000000
namespace MD
open PySem L2

/-- the walk goes through these data, while what stood stays -/
def StdyX (K : Fg) (dk : Dk) (F : Fz) (H : Hp) (J : It) (ds : List D) : Prop := ∀ (F1 : Fz) (H1 : Hp) (st : S), Le F F1 → Ext dk F H F1 H1 → Wd K dk F1 H1 st → ∀ i : Nat,
  (∀ d, ds[i]? = some d → J.go i H1 ∧ ∀ x H2, J.yld i H1 x H2 → ∃ F2, Px F1 H1 F2 H2 ∧ Rp K dk F2 x d) ∧ (ds.length ≤ i → J.stop i H1)
def ImIX (K : Fg) (wi : TI) (f : MI) : Prop := ∀ (dk : Dk) (H0 : Hp) (F0 F : Fz) (σ : L2.St) (H : Hp) (env : Sg) (st : S) (ds : List D) (st' : S), Good K dk H0 F0 F σ H env st → f env st = some (ds, st') →
  ∀ R : It → Hp → Prop, (∀ J F' H', Ext dk F H F' H' → Good K dk H0 F0 F' σ H' env st' → StdyX K dk F' H' J ds → R J H') → wi σ H R
section
variable {K : Fg} {dk : Dk} {F F' F0 : Fz} {H H' H0 : Hp} {σ σ' : L2.St} {env env' : Sg} {st st' st'' : S}
theorem if_compX {wi : TI} {g : TG} {tt : TT} {te : TE} {vs : List Nat} {it : MI} {t : MG} {c : MT} {f : ME} {is : List Nat} (hi : ImIX K wi it) (hg : ImG K g t is) (ht : ImT K tt c) (he : Im K te f) (hv : ∀ i ∈ is, i ∈ vs) :
    ImF K (tLc wi g tt te vs) (compM it t c f vs) := fun dk H0 F0 F σ H env st out st' gd e Q q => by
  obtain ⟨⟨ds, s1⟩, e1, e⟩ := bnd e
  replace e : (if ds.length ≤ sizeLine then compL t c f (wipeE env vs) ds s1 else none) = some (out, st') := e
  split at e
  · rename_i hz
    refine hi dk H0 F0 F σ H env st ds s1 gd e1 _ fun J F1 H1 x1 g1 sd Dn hD => ?_
    have hDH : H Dn = none := by
      cases w : H Dn with
      | none => rfl
      | some o => exact absurd hD (x1.m Dn (by rw [w]; exact fun z => nomatch z))
    have nd := g1.nedk hD
    have h0D := g1.fresh0 hD
    have noD := g1.noown hD
    have noW : ∀ (j : Nat) (es : Own), (wipeE env vs)[j]? = some (.own es) → (wipe σ vs)[j]? ≠ some (some (.ref Dn)) := fun j es e => by
      rcases wipeE_get e with z | ⟨z1, z2⟩
      · cases z
      · rw [wipe_off z2]; exact noD j es z1
    let P : Nat → Hp → Prop := fun i H => ∃ F2 st2 acc done rest, Le F1 F2 ∧ Ext dk F1 H1 F2 H ∧ Good K dk H0 F0 F2 (wipe σ vs) H (wipeE env vs) st2 ∧ H Dn = some (.lst acc) ∧ F2.out Dn ∧ acc.length ≤ i ∧ Rps K dk F2 acc done ∧
      compL t c f (wipeE env vs) (ds.drop i) st2 = some (rest, st') ∧ done ++ rest = out
    have px0 : Px F1 H1 F1 (upd H1 Dn (.lst [])) := Px.lay g1.wd.sub hD
    refine ⟨fun i m H => m = ds.length - i ∧ i ≤ ds.length ∧ P i H, ⟨_, rfl, Nat.zero_le _, F1, s1, [], [], out, Le.refl F1, px0.ext, (g1.wiped).px px0, upd_same, g1.wd.out hD, Nat.zero_le _, .nil, e, rfl⟩, ?_⟩
    rintro i m H2 ⟨rfl, hle, F2, s2, acc, done, rest, le2, x2, g2, hacc, f2, hal, racc, e2, eo⟩
    by_cases hlt : i < ds.length
    · have hdi : ds[i]? = some ds[i] := List.getElem?_eq_getElem hlt
      obtain ⟨hgo, hy⟩ := (sd F2 H2 s2 le2 x2 g2.wd i).1 _ hdi
      refine .inr ⟨hgo, P (i + 1), fun H' hp => ⟨_, by omega, rfl, hlt, hp⟩, fun x H3 hx => ?_⟩
      obtain ⟨F3, px, rx⟩ := hy x H3 hx
      have g3 := g2.px px
      rw [List.drop_eq_getElem_cons hlt] at e2
      obtain ⟨env3, e3, e2⟩ := bnd e2
      obtain ⟨⟨b, s4⟩, e4, e2⟩ := bnd e2
      refine hg dk H0 F0 F3 (wipe σ vs) H3 (wipeE env vs) s2 x _ env3 g3 rx e3 _ fun σ4 g4 tg => ?_
      have same : ∀ j : Nat, j ∉ vs → σ4[j]? = (wipe σ vs)[j]? ∧ env3[j]? = (wipeE env vs)[j]? := fun j hj => tg.same j fun z => hj (hv j z)
      have weq : wipe σ4 vs = wipe σ vs := by
        rw [wipe_eq tg.len fun j hj => (same j hj).1, wipe_wipe]
      have nD3 : H2 Dn ≠ none := by rw [hacc]; exact fun z => nomatch z
      have back : ∀ {F5 : Fz} {H5 : Hp} {st5 : S}, Good K dk H0 F0 F5 σ4 H5 env3 st5 → Good K dk H0 F0 F5 (wipe σ vs) H5 (wipeE env vs) st5 := fun {F5 H5 st5} g5 =>
        g5.reslot (by rw [wipe_length, wipeE_length]; exact gd.len) fun j s es => by
          rcases wipeE_get es with z | ⟨z1, z2⟩
          · exact .inl z
          · exact .inr ⟨(same j z2).2.trans es, (same j z2).1.symm⟩
      refine ⟨weq, ?_⟩
      refine ht dk H0 F0 F3 σ4 H3 env3 s2 b s4 g4 e4 _ fun F5 H5 x5 g5 => ?_
      have x25 : Ext dk F2 H2 F5 H5 := px.ext.trans x5
      have a5 : H5 Dn = some (.lst acc) := x25.h _ _ hacc nd.1 nd.2 (.inl f2.2)
      have f5 : F5.out Dn := x25.out f2 nD3
      cases b with
      | false =>
        exact ⟨F5, s4, acc, done, rest, le2.trans x25.f, x2.trans x25, back g5, a5, f5, by omega, racc.mono x25.f, e2, eo⟩
      | true =>
        replace e2 : ((f env3 s4).bind fun q => (compL t c f (wipeE env vs) (ds.drop (i + 1)) q.2).map fun r => (q.1 :: r.1, r.2)) = some (rest, st') := e2
        obtain ⟨⟨y, s6⟩, e6, e2⟩ := bnd e2
        obtain ⟨⟨rest', s7⟩, e7, e2⟩ := mpd e2
        cases e2
        refine he dk H0 F0 F5 σ4 H5 env3 s4 y s6 g5 e6 _ fun v F6 H6 x6 g6 r6 => ?_
        have x26 := x25.trans x6
        have a6 : H6 Dn = some (.lst acc) := x26.h _ _ hacc nd.1 nd.2 (.inl f2.2)
        have f6 : F6.out Dn := x26.out f2 nD3
        refine ⟨acc, a6, by omega, F6, s6, acc ++ [v], done ++ [y], rest', le2.trans x26.f, ?_, (back g6).mutT a6 f6 h0D nd.1 nd.2 noW, upd_same, f6, by simp; omega, (racc.mono x26.f).append (Rps.one r6), e7, by rw [← eo]; simp⟩
        exact (x2.trans x26).upd hD
    · have ei : i = ds.length := by omega
      subst ei
      rw [List.drop_length] at e2
      cases e2
      refine .inl ⟨(sd F2 H2 _ le2 x2 g2.wd ds.length).2 (Nat.le_refl _), ?_⟩
      rw [List.append_nil] at eo
      subst eo
      have g9 : Good K dk H0 F0 F2 σ H2 env st' := by
        have gx := g1.step x2 g2.wd
        exact gx
      exact q Dn acc F2 H2 (x1.trans x2) g9 hDH f2 hacc racc
  · cases e
/-! ### {k: v for ..} -/
def dcL (t : MG) (c : MT) (fk fv : ME) (env : Sg) : List D → List Key × List D → S → Option ((List Key × List D) × S)
  | [], a, st => some (a, st)
  | d :: ds, a, st => (t d env).bind fun e => (c e st).bind fun p => if p.1 then (fk e p.2).bind fun x => (keyOf x.1).bind fun k => (fv e x.2).bind fun y => dcL t c fk fv env ds (putKs a.1 k, putVs a.1 a.2 k y.1) y.2 else dcL t c fk fv env ds a p.2
def dcM (it : MI) (t : MG) (c : MT) (fk fv : ME) (vs : List Nat) : MK := fun env st => (it env st).bind fun p => if p.1.length ≤ sizeLine then dcL t c fk fv (wipeE env vs) p.1 ([], []) p.2 else none
theorem putKs_len {ks : List Key} {k : Key} : (putKs ks k).length ≤ ks.length + 1 := by
  unfold putKs
  split
  · omega
  · simp
theorem ik_dc {wi : TI} {g : TG} {tt : TT} {tk tv : TE} {vs : List Nat} {it : MI} {t : MG} {c : MT} {fk fv : ME} {is : List Nat} (hi : ImI K wi it) (hg : ImG K g t is) (ht : ImT K tt c) (hk : Im K tk fk) (he : Im K tv fv) (hv : ∀ i ∈ is, i ∈ vs) :
    ImK K (tDc wi g tt tk tv vs) (dcM it t c fk fv vs) := fun dk H0 F0 F σ H env st out st' gd e Q q => by
  obtain ⟨⟨ds, s1⟩, e1, e⟩ := bnd e
  replace e : (if ds.length ≤ sizeLine then dcL t c fk fv (wipeE env vs) ds ([], []) s1 else none) = some (out, st') := e
  split at e
  · rename_i hz
    refine hi dk H0 F0 F σ H env st ds s1 gd e1 _ fun J F1 H1 x1 g1 sd Dn hD => ?_
    have hDH : H Dn = none := x1.back hD
    have nd := g1.nedk hD
    have h0D := g1.fresh0 hD
    have noD := g1.noown hD
    have noW : ∀ (j : Nat) (es : Own), (wipeE env vs)[j]? = some (.own es) → (wipe σ vs)[j]? ≠ some (some (.ref Dn)) := fun j es e => by
      rcases wipeE_get e with z | ⟨z1, z2⟩
      · cases z
      · rw [wipe_off z2]; exact noD j es z1
    let P : Nat → Hp → Prop := fun i H => ∃ F2 st2 acc ks ks', Le F1 F2 ∧ Ext dk F1 H1 F2 H ∧ Good K dk H0 F0 F2 (wipe σ vs) H (wipeE env vs) st2 ∧ H Dn = some (.dK (ks.zip acc)) ∧ ks.length = acc.length ∧ F2.out Dn ∧ acc.length ≤ i ∧ Rps K dk F2 acc ks' ∧
      dcL t c fk fv (wipeE env vs) (ds.drop i) (ks, ks') st2 = some (out, st')
    have px0 : Px F1 H1 F1 (upd H1 Dn (.dK [])) := Px.lay g1.wd.sub hD
    refine ⟨fun i m H => m = ds.length - i ∧ i ≤ ds.length ∧ P i H, ⟨_, rfl, Nat.zero_le _, F1, s1, [], [], [], Le.refl F1, px0.ext, (g1.wiped).px px0, upd_same, rfl, g1.wd.out hD, Nat.zero_le _, .nil, e⟩, ?_⟩
    rintro i m H2 ⟨rfl, hle, F2, s2, acc, ks, ks', le2, x2, g2, hacc, hkl, f2, hal, racc, e2⟩
    by_cases hlt : i < ds.length
    · have hdi : ds[i]? = some ds[i] := List.getElem?_eq_getElem hlt
      obtain ⟨hgo, hy⟩ := (sd F2 H2 s2 le2 g2.wd i).1 _ hdi
      refine .inr ⟨hgo, P (i + 1), fun H' hp => ⟨_, by omega, rfl, hlt, hp⟩, fun x H3 hx => ?_⟩
      obtain ⟨F3, px, rx⟩ := hy x H3 hx
      have g3 := g2.px px
      rw [List.drop_eq_getElem_cons hlt] at e2
      obtain ⟨env3, e3, e2⟩ := bnd e2
      obtain ⟨⟨b, s4⟩, e4, e2⟩ := bnd e2
      refine hg dk H0 F0 F3 (wipe σ vs) H3 (wipeE env vs) s2 x _ env3 g3 rx e3 _ fun σ4 g4 tg => ?_
      have same : ∀ j : Nat, j ∉ vs → σ4[j]? = (wipe σ vs)[j]? ∧ env3[j]? = (wipeE env vs)[j]? := fun j hj => tg.same j fun z => hj (hv j z)
      have weq : wipe σ4 vs = wipe σ vs := by
        rw [wipe_eq tg.len fun j hj => (same j hj).1, wipe_wipe]
      have nD3 : H2 Dn ≠ none := nn hacc
      have back : ∀ {F5 : Fz} {H5 : Hp} {st5 : S}, Good K dk H0 F0 F5 σ4 H5 env3 st5 → Good K dk H0 F0 F5 (wipe σ vs) H5 (wipeE env vs) st5 := fun {F5 H5 st5} g5 =>
        g5.reslot (by rw [wipe_length, wipeE_length]; exact gd.len) fun j s es => by
          rcases wipeE_get es with z | ⟨z1, z2⟩
          · exact .inl z
          · exact .inr ⟨(same j z2).2.trans es, (same j z2).1.symm⟩
      refine ⟨weq, ?_⟩
      refine ht dk H0 F0 F3 σ4 H3 env3 s2 b s4 g4 e4 _ fun F5 H5 x5 g5 => ?_
      have x25 : Ext dk F2 H2 F5 H5 := px.ext.trans x5
      have a5 : H5 Dn = some (.dK (ks.zip acc)) := x25.h _ _ hacc nd.1 nd.2 (.inl f2.2)
      have f5 : F5.out Dn := x25.out f2 nD3
      cases b with
      | false =>
        exact ⟨F5, s4, acc, ks, ks', le2.trans x25.f, x2.trans x25, back g5, a5, hkl, f5, by omega, racc.mono x25.f, e2⟩
      | true =>
        replace e2 : ((fk env3 s4).bind fun x => (keyOf x.1).bind fun k => (fv env3 x.2).bind fun y => dcL t c fk fv (wipeE env vs) (ds.drop (i + 1)) (putKs ks k, putVs ks ks' k y.1) y.2) = some (out, st') := e2
        obtain ⟨⟨y, s6⟩, e6, e2⟩ := bnd e2
        obtain ⟨k, ek, e2⟩ := bnd e2
        obtain ⟨⟨z, s7⟩, e7, e2⟩ := bnd e2
        refine hk dk H0 F0 F5 σ4 H5 env3 s4 y s6 g5 e6 _ fun v F6 H6 x6 g6 r6 => ?_
        refine he dk H0 F0 F6 σ4 H6 env3 s6 z s7 g6 e7 _ fun u F7 H7 x7 g7 r7 => ?_
        have x27 := (x25.trans x6).trans x7
        have a7 : H7 Dn = some (.dK (ks.zip acc)) := x27.h _ _ hacc nd.1 nd.2 (.inl f2.2)
        have f7 : F7.out Dn := x27.out f2 nD3
        have hzl : (ks.zip acc).length = acc.length := by rw [List.length_zip, hkl, Nat.min_self]
        refine ⟨ks.zip acc, k, keyOf_rw (H := H6) (.rp r6) ek, a7, by rw [hzl]; omega, F7, s7, putVs ks acc k u, putKs ks k, putVs ks ks' k z, le2.trans x27.f, (x2.trans x27).upd hD, (back g7).mutT a7 f7 h0D nd.1 nd.2 noW, by rw [upd_same]; exact congrArg (fun z => some (HO.dK z)) (put_zip hkl), put_len hkl, f7, ?_, putVs_rps r7 (racc.mono x27.f), e2⟩
        rw [← put_len hkl]
        have := putKs_len (ks := ks) (k := k)
        omega
    · have ei : i = ds.length := by omega
      subst ei
      rw [List.drop_length] at e2
      cases e2
      refine .inl ⟨(sd F2 H2 _ le2 g2.wd ds.length).2 (Nat.le_refl _), ?_⟩
      have g9 : Good K dk H0 F0 F2 σ H2 env st' := g1.step x2 g2.wd
      exact q Dn acc F2 H2 (x1.trans x2) g9 hDH f2 hacc hkl racc
  · cases e
/-! ### walks over the keys of a dict -/
/-- an expression that only looks: a name, a field -/
def Pth (K : Fg) (te : TE) (f : ME) : Prop := ∀ (dk : Dk) (H0 : Hp) (F0 F : Fz) (σ : L2.St) (H : Hp) (env : Sg) (st : S) (d : D) (st' : S), Good K dk H0 F0 F σ H env st → f env st = some (d, st') →
  st' = st ∧ ∃ v, Rp K dk F v d ∧ (∀ Q : VK, Q v H → te σ H Q) ∧ ∀ (a : Addr) (od : Obj) (kvs : List (Key × V)), H a = some (.dK kvs) → ∀ Q : VK, Q v (upd H a (.frz od (.dK kvs))) → te σ (upd H a (.frz od (.dK kvs))) Q
theorem pth_var (i : Nat) : Pth K (tVar i) (rd i) := fun dk H0 F0 F σ H env st d st' g e => by
  unfold rd at e
  split at e
  · rename_i d' he
    cases e
    obtain ⟨v, h1, h2⟩ := g.sl i _ he
    exact ⟨rfl, v, h2, fun Q q => ⟨v, join_eq h1, q⟩, fun a od kvs _ Q q => ⟨v, join_eq h1, q⟩⟩
  · cases e
theorem itk_ok {a : Addr} {od : Obj} {ks : List Key} {vs : List V} (hl : ks.length = vs.length) (w : Wd K dk F H st) (ha : H a = some (.frz od (.dK (ks.zip vs)))) (i : Nat) :
    (∀ d, (ks.map keyD)[i]? = some d → (Itk a od (ks.zip vs)).go i H ∧ ∀ x H3, (Itk a od (ks.zip vs)).yld i H x H3 → ∃ F3, Px F H F3 H3 ∧ Rp K dk F3 x d) ∧ ((ks.map keyD).length ≤ i → (Itk a od (ks.zip vs)).stop i H) := by
  have hz : (ks.zip vs).length = ks.length := by rw [List.length_zip, hl, Nat.min_self]
  refine ⟨fun d hd => ?_, fun h => ⟨ha, by rw [hz]; simpa using h⟩⟩
  rw [List.getElem?_map] at hd
  obtain ⟨k, hk, rfl⟩ := mpd hd
  have hj : i < ks.length := by
    by_cases hl : i < ks.length
    · exact hl
    · rw [List.getElem?_eq_none (by omega)] at hk; cases hk
  refine ⟨⟨ha, by rw [hz]; exact hj⟩, fun y H2 hy => ?_⟩
  obtain ⟨e1, k', v', hkv, e2⟩ := hy
  subst e1 e2
  have : k' = k := by
    have hh := congrArg (Option.map Prod.fst) hkv
    rw [← List.getElem?_map, List.map_fst_zip (by omega), hk] at hh
    exact (Option.some.inj hh).symm
  subst this
  exact ⟨F, Px.refl w.sub, keyD_rp k'⟩
theorem for_keys {te : TE} {g : TG} {tb : TS} {t : MG} {b : MS} {is : List Nat} {a : Addr} {od : Obj} {ks : List Key} {vs : List V} {fl : Fl} {E : Ends} (hg : ImG K g t is) (hb : ImS K tb b) (gd : Good K dk H0 F0 F σ H env st)
    (ha : H a = some (.frz od (.dK (ks.zip vs)))) (hl : ks.length = vs.length) (hte : ∀ Q : VK, Q (.ref a) H → te σ H Q) (e : forL t b (ks.map keyD) env st = some (fl, st')) (hd : Dn K dk H0 F0 F E st' fl) : tFor (iKeys te) g tb E σ H := by
  refine hte _ ⟨a, od, rfl, .inl ⟨_, ha, ?_⟩⟩
  exact for_core hg hb gd (fun F2 σ2 H2 env2 st2 le g2 i => itk_ok hl g2.wd (gd.stays ha g2) i) e hd _ id
def tForK (te : TE) (g : TG) (tb : TS) : TS := fun E σ H => tLock (tFor (iKeys te) g tb) E σ H ∨ tFor (iKeys te) g tb E σ H
def unl (st : S) (n : Nat) : S := match st.ob[n]? with
  | some (.dic _ ks ds) => st.put n (.dic false ks ds)
  | _ => st
def lck (st : S) (n : Nat) : S := match st.ob[n]? with
  | some (.dic _ ks ds) => st.put n (.dic true ks ds)
  | _ => st
def forK (f : ME) (t : MG) (b : MS) : MS := fun env st => (f env st).bind fun p => match p.1 with
  | .dic ks _ => forL t b (ks.map keyD) env st
  | .ref n => match st.ob[n]? with
    | some (.dic false ks _) => (forL t b (ks.map keyD) env (lck st n)).map fun r => (r.1, unl r.2 n)
    | some (.dic true ks _) => forL t b (ks.map keyD) env st
    | _ => none
  | _ => none
theorem nfk {kvs : List (Key × V)} : ¬ Fro (.dK kvs) := by rintro ⟨_, _, z⟩; cases z
theorem Wd.lckS {n : Nat} {a : Addr} {od : Obj} {ks : List Key} {vs : List V} {ds : List D} (w : Wd K dk F H st) (hn : F.mu[n]? = some a) (ho : st.ob[n]? = some (.dic false ks ds)) (hl : ks.length = vs.length) (r : Rps K dk F vs ds) :
    Wd K dk F (L2.upd H a (.frz od (.dK (ks.zip vs)))) (lck st n) := by
  unfold lck
  rw [ho]
  exact w.put hn (.lck upd_same hl r)
theorem Wd.unlS {n : Nat} {a : Addr} {od : Obj} {kvs : List (Key × V)} (w : Wd K dk F H st) (hn : F.mu[n]? = some a) (ha : H a = some (.frz od (.dK kvs))) : Wd K dk F (L2.upd H a (.dK kvs)) (unl st n) := by
  have hlt : n < st.ob.length := by rw [← w.ml]; exact mu_lt hn
  obtain ⟨q1, q2⟩ := w.ob n a _ hn (List.getElem?_eq_getElem hlt)
  unfold unl
  rw [List.getElem?_eq_getElem hlt]
  generalize st.ob[n] = o at q2
  cases q2 with
  | lst h r => rw [ha] at h; cases h
  | dic h l r => rw [ha] at h; cases h
  | lck h l r =>
    rw [ha] at h
    cases h
    exact w.put hn (.dic upd_same l r)
  | ins c h l r => rw [ha] at h; cases h
  | nkd h _ _ _ _ _ _ => rw [ha] at h; cases h
theorem Dn.unlock {a : Addr} {od : Obj} {u : HO} {fl : Fl} {E : Ends} (g : Good K dk H0 F0 F σ H env st) (ha : H a = some u) (nf : ¬ Fro u) (hs : ∀ F' H', Wd K dk F' H' st' → Le F F' → H' a = some (.frz od u) → Wd K dk F' (L2.upd H' a u) st'')
    (n1 : a ≠ dk.1) (n2 : a ≠ dk.2) (hd : Dn K dk H0 F0 F E st'' fl) :
    Dn K dk (L2.upd H0 a (.frz od u)) F F ⟨fun σ' H' => H' a = some (.frz od u) ∧ E.nx σ' (L2.upd H' a u), fun v H' => H' a = some (.frz od u) ∧ E.rt v (L2.upd H' a u), fun σ' H' => H' a = some (.frz od u) ∧ E.bk σ' (L2.upd H' a u), fun σ' H' => H' a = some (.frz od u) ∧ E.ct σ' (L2.upd H' a u)⟩ st' fl := by
  have key : ∀ {F' : Fz} {H' : Hp}, Ext dk F (L2.upd H0 a (.frz od u)) F' H' → H' a = some (.frz od u) := fun x => x.h _ _ upd_same n1 n2 (.inr ⟨_, _, rfl⟩)
  cases fl with
  | nx env' => exact fun F' σ' H' le g' => ⟨key g'.ext, hd F' σ' _ le (g.unlock ha nf g' (hs F' H' g'.wd le (key g'.ext)))⟩
  | bk env' => exact fun F' σ' H' le g' => ⟨key g'.ext, hd F' σ' _ le (g.unlock ha nf g' (hs F' H' g'.wd le (key g'.ext)))⟩
  | ct env' => exact fun F' σ' H' le g' => ⟨key g'.ext, hd F' σ' _ le (g.unlock ha nf g' (hs F' H' g'.wd le (key g'.ext)))⟩
  | rt d => exact fun v F' H' x w r => ⟨key x, hd v F' _ (g.ext.unlock ha nf x) (hs F' H' w x.f (key x)) r⟩
theorem is_forK {te : TE} {f : ME} {g : TG} {tb : TS} {t : MG} {b : MS} {is : List Nat} (hp : Pth K te f) (hg : ImG K g t is) (hb : ImS K tb b) : ImS K (tForK te g tb) (forK f t b) := fun dk H0 F0 F σ H env st fl st' gd e E hd => by
  obtain ⟨⟨d, s1⟩, e1, e⟩ := bnd e
  obtain ⟨es, v, r, q1, q2⟩ := hp dk H0 F0 F σ H env st d s1 gd e1
  cases d with
  | dic ks ds =>
    dsimp only at e
    cases r with
    | @dic a _ vs _ ha hl r =>
      have n1 : a ≠ dk.1 := fun z => by rw [z, gd.wd.f1.1] at ha; cases ha
      have n2 : a ≠ dk.2 := fun z => by rw [z, gd.wd.f2.1] at ha; cases ha
      have no : ∀ (i : Nat) (ds : Own), env[i]? = some (.own ds) → σ[i]? ≠ some (some (.ref a)) := fun i ds hi hs => by
        obtain ⟨p, _, h1, _, h3, _⟩ := gd.sl i _ hi
        rw [hs] at h1
        cases h1
        have h31 := h3.1
        rw [ha] at h31; cases h31
      rcases gd.wd.sub a _ ha with hH | ⟨od, kvs, ek, hH⟩
      · refine .inl ⟨a, _, hH, trivial, fun od => ?_⟩
        have gl := gd.lock (od := od) no (gd.wd.lockF ha)
        refine for_keys hg hb gl upd_same hl (q2 a od _ hH) e (Dn.unlock gd hH nfk (fun F' H' w le _ => w.unlockF (le.h _ _ ha)) n1 n2 hd)
      · exact .inr (for_keys hg hb gd hH hl q1 e hd)
  | ref n =>
    cases r with
    | @ref a _ hn =>
      have hm := List.mem_of_getElem? hn
      obtain ⟨n1, n2⟩ := gd.wd.ndk hm
      have no : ∀ (i : Nat) (ds : Own), env[i]? = some (.own ds) → σ[i]? ≠ some (some (.ref a)) := fun i ds hi hs => by
        obtain ⟨p, _, h1, _, h3, _⟩ := gd.sl i _ hi
        rw [hs] at h1
        cases h1
        exact h3.2 hm
      dsimp only at e
      split at e
      · rename_i ks ds ho
        obtain ⟨⟨fl2, s2⟩, e2, e⟩ := mpd e
        cases e
        obtain ⟨_, ob⟩ := gd.wd.ob n a _ hn ho
        cases ob with
        | @dic _ vs _ hH hl r =>
          refine .inl ⟨a, _, hH, trivial, fun od => ?_⟩
          have gl := gd.lock (od := od) no (gd.wd.lckS hn ho hl r)
          refine for_keys hg hb gl upd_same hl (q2 a od _ hH) e2 (Dn.unlock gd hH nfk (fun F' H' w le hf => w.unlS (le.at hn) hf) n1 n2 hd)
      · rename_i ks ds ho
        obtain ⟨_, ob⟩ := gd.wd.ob n a _ hn ho
        cases ob with
        | lck hH hl r => exact .inr (for_keys hg hb gd hH hl q1 e hd)
      · cases e
  | _ => cases e
/-! comprehensions over the keys of a frozen dict -/
def keysI (f : ME) : MI := fun env st => (f env st).bind fun p => (isDicD p.1).map fun q => (q.1.map keyD, p.2)
def tLcK (te : TE) (g : TG) (tt : TT) (tv : TE) (vs : List Nat) : TE := fun σ H Q => tLockE (tLc (iKeys te) g tt tv vs) σ H Q ∨ tLc (iKeys te) g tt tv vs σ H Q
/-- the walk over a locked dict -/
def wK (te : TE) : TI := iKeys te
theorem if_compK {te : TE} {f : ME} {g : TG} {tt : TT} {tv : TE} {vs : List Nat} {t : MG} {c : MT} {fv : ME} {is : List Nat} (hp : Pth K te f) (hg : ImG K g t is) (ht : ImT K tt c) (he : Im K tv fv) (hv : ∀ i ∈ is, i ∈ vs) :
    ImF K (tLcK te g tt tv vs) (compM (keysI f) t c fv vs) := fun dk H0 F0 F σ H env st out st' gd e Q q => by
  obtain ⟨⟨ds, s1⟩, e1, e'⟩ := bnd e
  obtain ⟨⟨d, s2⟩, e2, e3⟩ := bnd e1
  obtain ⟨⟨ks, es⟩, e4, e5⟩ := mpd e3
  cases e5
  obtain ⟨hs, v, r, q1, q2⟩ := hp dk H0 F0 F σ H env st d _ gd e2
  have hs' : s2 = st := hs
  subst hs'
  have hd' : d = .dic ks es := isDicD_eq e4
  subst hd'
  -- the comprehension at a heap where the dict is locked
  have core : ∀ {a : Addr} {od : Obj} {us : List V} {H0' H1 : Hp} {F0' : Fz} (Q' : VK), Good K dk H0' F0' F σ H1 env s2 → H1 a = some (.frz od (.dK (ks.zip us))) → ks.length = us.length → (∀ Q : VK, Q (.ref a) H1 → te σ H1 Q) →
      (∀ p vs F' H', Ext dk F H1 F' H' → Good K dk H0' F0' F' σ H' env st' → H1 p = none → F'.out p → H' p = some (.lst vs) → Rps K dk F' vs out → Q' (.ref p) H') → tLc (iKeys te) g tt tv vs σ H1 Q' := by
    intro a od us H0' H1 F0' Q' g1 ha hl hte hq
    have n1 : a ≠ dk.1 := fun z => by rw [z, g1.wd.d1] at ha; cases ha
    have n2 : a ≠ dk.2 := fun z => by rw [z, g1.wd.d2] at ha; cases ha
    let wi : TI := fun σ' H' R => σ' = σ → H' = H1 → iKeys te σ' H' R
    have hx : tLc wi g tt tv vs σ H1 Q' := if_compX (wi := fun σ' H' R => σ' = σ → H' = H1 → iKeys te σ' H' R) (it := fun _ s => some (ks.map keyD, s)) (fun dk2 H02 F02 F2 σ2 H2 env2 st2 ds2 st2' gd2 ee2 R qq => by
        intro z1 z2
        cases ee2
        subst z1 z2
        exact hte _ ⟨a, od, rfl, .inl ⟨_, ha, qq _ F2 _ (Ext.refl _ _) gd2 fun F3 H3 st3 le x w i => by
          have n1' : a ≠ dk2.1 := fun z => by rw [z, gd2.wd.d1] at ha; cases ha
          have n2' : a ≠ dk2.2 := fun z => by rw [z, gd2.wd.d2] at ha; cases ha
          exact itk_ok hl w (x.h _ _ ha n1' n2' (.inr ⟨_, _, rfl⟩)) i⟩⟩) hg ht he hv dk H0' F0' F σ H1 env s2 out st' g1 e' Q' hq
    exact hx rfl rfl
  cases r with
  | @dic a _ us _ ha hl r =>
    rcases gd.wd.sub a _ ha with hH | ⟨od, kvs, ek, hH⟩
    · have no : ∀ (i : Nat) (ds : Own), env[i]? = some (.own ds) → σ[i]? ≠ some (some (.ref a)) := fun i ds hi hs => by
        obtain ⟨p, _, h1, _, h3, _⟩ := gd.sl i _ hi
        rw [hs] at h1
        cases h1
        have h31 := h3.1
        rw [ha] at h31; cases h31
      have n1 : a ≠ dk.1 := fun z => by rw [z, gd.wd.f1.1] at ha; cases ha
      have n2 : a ≠ dk.2 := fun z => by rw [z, gd.wd.f2.1] at ha; cases ha
      refine .inl ⟨a, _, hH, trivial, fun od => ?_⟩
      have gl := gd.lock (od := od) no (gd.wd.lockF ha)
      refine core _ gl upd_same hl (q2 a od _ hH) fun p ws F' H' x g' hp' fp' hl' r' => ?_
      have hk : H' a = some (.frz od (.dK (ks.zip us))) := x.h _ _ upd_same n1 n2 (.inr ⟨_, _, rfl⟩)
      have np : p ≠ a := fun z => by rw [z, upd_same] at hp'; cases hp'
      have hpH : H p = none := by rw [upd_ne np] at hp'; exact hp'
      refine ⟨hk, q p ws F' _ ?_ (gd.unlock hH nfk g' (g'.wd.unlockF (x.f.h _ _ ha))) hpH fp' (by rw [upd_ne np]; exact hl') r'⟩
      refine ⟨fun b o e m1 m2 m3 => ?_, x.f, fun b h1 h2 => ?_, fun b h z => ?_, fun b h => ?_, fun b o e fo => ?_⟩
      · by_cases nb : b = a
        · subst nb; rw [upd_same, ← e, hH]
        · rw [upd_ne nb]; exact x.h b o (by rw [upd_ne nb]; exact e) m1 m2 m3
      · refine x.n b h1 ?_
        by_cases nb : b = a
        · subst nb; exact nn upd_same
        · rw [upd_ne nb]; exact h2
      · by_cases nb : b = a
        · subst nb; rw [upd_same] at z; cases z
        · rw [upd_ne nb] at z; exact x.m b (by rw [upd_ne nb]; exact h) z
      · rcases x.u b h with z | z
        · exact .inl z
        · by_cases nb : b = a
          · subst nb; rw [upd_same] at z; cases z
          · rw [upd_ne nb] at z; exact .inr z
      · by_cases nb : b = a
        · subst nb; rw [upd_same] at e; cases e; exact absurd fo nfk
        · rw [upd_ne nb] at e
          have := x.k b o e fo
          rw [upd_ne nb] at this; exact this
    · exact .inr (core _ gd hH hl q1 q)
end
end MD

set_option Elab.async false
set_option linter.all false
set_option maxRecDepth 100000
set_option maxHeartbeats 4000000
namespace MD
open PySem PySem.Spec PyProof.Rows L2

/-! ### tuple * int, where the tuple itself or no item comes out -/
theorem tuple_mulS (l : Addr) (items : Array Value) (n : Nat) (dd : Option Addr) (sl : Array (Option Value)) (x : Int) (u : Tok) (c0 : (decide (x < -(2 ^ 63)) || decide (x ≥ 2 ^ 63)) = false) (c1 : (items.isEmpty || x == 1) = true) :
    Meets (Builtin.«tuple.__mul__» ⟨[.ref l, .int x u], []⟩) (fun _ R s => s.heap.get? l = some { cls := .type "tuple", dict := dd, data := .seq items n, slots := sl } ∧ R (.ok (.ret (Value.ref l))) s) :=
  .of_wp fun prog w A R s h => by
    obtain ⟨hp, g, d, tk, os⟩ := s
    obtain ⟨hl, h⟩ := h
    have f1 := AutoSeq1.idx_int
    wp_walk using wpAny_loadPart' hl
    repeat (first
      | (refine wpAny_ite_false (decide_eq_false (by rw [c0]; exact Bool.false_ne_true)) ?_; wp_walk using wpAny_loadPart' hl)
      | (refine wpAny_ite_true (decide_eq_true c1) ?_; wp_walk using wpAny_loadPart' hl))
    exact ⟨_, rfl, h⟩
theorem tuple_mulE (l : Addr) (items : Array Value) (n : Nat) (dd : Option Addr) (sl : Array (Option Value)) (x : Int) (u : Tok) (c0 : (decide (x < -(2 ^ 63)) || decide (x ≥ 2 ^ 63)) = false) (c1 : (items.isEmpty || x == 1) = false) (c2 : (decide (x ≤ 0) || items.isEmpty) = true) :
    Meets (Builtin.«tuple.__mul__» ⟨[.ref l, .int x u], []⟩) (fun _ R s => s.heap.get? l = some { cls := .type "tuple", dict := dd, data := .seq items n, slots := sl } ∧
      R (.ok (.ret (Value.ref s.heap.objs.size))) { s with heap := s.heap.push { cls := Value.type "tuple", data := Data.seq #[] }, toks := s.toks }) :=
  .of_wp fun prog w A R s h => by
    obtain ⟨hp, g, d, tk, os⟩ := s
    obtain ⟨hl, h⟩ := h
    have f1 := AutoSeq1.idx_int
    wp_walk using wpAny_loadPart' hl
    repeat (first
      | (refine wpAny_ite_false (decide_eq_false (by rw [c0]; exact Bool.false_ne_true)) ?_; wp_walk using wpAny_loadPart' hl)
      | (refine wpAny_ite_false (decide_eq_false (by rw [c1]; exact Bool.false_ne_true)) ?_; wp_walk using wpAny_loadPart' hl)
      | (refine wpAny_ite_true (decide_eq_true c2) ?_; wp_walk using wpAny_loadPart' hl))
    exact ⟨_, rfl, h⟩
def rRepS (K : Fg) : R2 := fun x y H Q => ∃ l k xs, x = .ref l ∧ y = .int k ∧ SqT K H l xs ∧ -1000 ≤ k ∧ k ≤ 1000 ∧ (((xs = [] ∨ k = 1) ∧ Q (.ref l) H) ∨ (xs ≠ [] ∧ k ≤ 0 ∧ ∀ p, H p = none → Q (.ref p) (upd H p (.tup []))))
theorem op_repS {X : Cx} : OpR X (binaryOp .Mult) (rRepS X.K) := by
  intro pins s σ H x y v u Q I rx ry h
  obtain ⟨l, k, xs, rfl, rfl, hT, h1, h2, q⟩ := h
  cases rx
  obtain ⟨t, rfl⟩ := ry
  obtain ⟨its, r, ⟨⟨cls, dd, data, sl⟩, ho, hc, n, hd⟩, hs⟩ := I.tuple hT
  simp only at hc hd
  subst hc hd
  have hle : its.length = xs.length := r.length.symm
  have c0 : (decide (k < -(2 ^ 63)) || decide (k ≥ 2 ^ 63)) = false := by
    rw [decide_eq_false (by omega), decide_eq_false (by omega)] <;> rfl
  rcases q with ⟨hc, q⟩ | ⟨hne, hk, q⟩
  · have c1 : (its.toArray.isEmpty || k == 1) = true := by
      rcases hc with hc | hc
      · have : its = [] := List.eq_nil_of_length_eq_zero (by rw [hle, hc]; rfl)
        subst this; rfl
      · subst hc; simp
    refine wpAny_binaryOp_repeat_ref (T := "tuple") (U := "int") (by decide) ⟨_, ho, rfl⟩ (fun s' => typeIs_int s' k t) noFill_tuple_mul F.fills_int_mul F.slot_int_rmul repeat_tuple F.slot_int_index.lookup
      (call_meets F.slot_int_rmul (typeIs_int s k t) F.entry_int_rmul (F.args_int_rmul_2 _ _) (int_rmul_tuple k t l its.toArray n dd sl)
        ⟨ho, rfl, ⟨_, ho, rfl⟩, call_meets F.slot_tuple_mul ⟨_, ho, rfl⟩ F.entry_tuple_mul (F.args_tuple_mul_2 _ _) (tuple_mulS l its.toArray n dd sl k t c0 c1) ⟨ho, ?_⟩⟩)
    exact ⟨.ref l, H, I, rfl, q⟩
  · have hn : its ≠ [] := fun e => hne (by
      rw [e] at hle
      exact List.eq_nil_of_length_eq_zero hle.symm)
    have hi : its.toArray.isEmpty = false := by
      cases its with
      | nil => exact absurd rfl hn
      | cons a b => rfl
    have c1 : (its.toArray.isEmpty || k == 1) = false := by
      rw [hi, Bool.false_or]
      exact beq_eq_false_iff_ne.mpr (by omega)
    have c2 : (decide (k ≤ 0) || its.toArray.isEmpty) = true := by rw [decide_eq_true hk]; rfl
    refine wpAny_binaryOp_repeat_ref (T := "tuple") (U := "int") (by decide) ⟨_, ho, rfl⟩ (fun s' => typeIs_int s' k t) noFill_tuple_mul F.fills_int_mul F.slot_int_rmul repeat_tuple F.slot_int_index.lookup
      (call_meets F.slot_int_rmul (typeIs_int s k t) F.entry_int_rmul (F.args_int_rmul_2 _ _) (int_rmul_tuple k t l its.toArray n dd sl)
        ⟨ho, rfl, ⟨_, ho, rfl⟩, call_meets F.slot_tuple_mul ⟨_, ho, rfl⟩ F.entry_tuple_mul (F.args_tuple_mul_2 _ _) (tuple_mulE l its.toArray n dd sl k t c0 c1 c2) ⟨ho, ?_⟩⟩)
    refine ⟨.ref s.heap.objs.size, _, I.laid (t' := s.toks) (o := .tup []) (fun b ob q => Heap.get?_push_of_some _ q) (Nat.le_refl _) ?_, rfl, q _ (I.hok.fresh (Nat.le_refl _))⟩
    exact ⟨by show 0 ≤ sizeLine; exact Nat.zero_le _, [], .nil, IsTup.new _ _⟩
section
variable {K : Fg} {dk : Dk} {F F' F0 : Fz} {H H' H0 : Hp} {σ σ' : L2.St} {env env' : Sg} {st st' st'' : S}
def rMulA (K : Fg) : R2 := fun x y H Q => rI CMul (fun i j => .int (i * j)) x y H Q ∨ rRepT K x y H Q ∨ rRepS K x y H Q ∨ rRep x y H Q
theorem op_mulA {X : Cx} : OpR X (binaryOp .Mult) (rMulA X.K) := OpR.or op_mul (OpR.or op_repT (OpR.or op_repS op_rep))
def mulA : D → D → Option D
  | .tup ds, .int k => if ds.length ≤ 1000 ∧ -1000 ≤ k ∧ k ≤ 1000 then some (.tup (List.replicate k.toNat ds).flatten) else none
  | .lst ds, .int k => if ds.length ≤ 1000 ∧ -1000 ≤ k ∧ k ≤ 1000 then some (.lst (List.replicate k.toNat ds).flatten) else none
  | d, e => mulM d e
theorem Rps.rep {vs : List V} {ds : List D} (r : Rps K dk F vs ds) : ∀ (n : Nat), Rps K dk F (List.replicate n vs).flatten (List.replicate n ds).flatten
  | 0 => .nil
  | n + 1 => by
    rw [List.replicate_succ, List.replicate_succ, List.flatten_cons, List.flatten_cons]
    exact r.append (Rps.rep r n)
theorem flat_nil {α : Type} (n : Nat) : (List.replicate n ([] : List α)).flatten = [] := by
  induction n with
  | zero => rfl
  | succ n ih => rw [List.replicate_succ, List.flatten_cons, ih]; rfl
theorem ro_mulA : RO K (rMulA K) mulA := by
  intro dk F H st x y d e z w rx ry hz Q q
  unfold mulA at hz
  split at hz
  · rename_i ds k
    split at hz
    · rename_i hc
      cases hz
      obtain ⟨p, vs, rfl, hp, r⟩ := rx.tup w.sub
      cases ry.int
      by_cases h1 : ds = [] ∨ k = 1
      · refine .inr (.inr (.inl ⟨p, k, vs, rfl, rfl, hp, hc.2.1, hc.2.2, .inl ⟨?_, ?_⟩⟩))
        · rcases h1 with h1 | h1
          · subst h1; cases r; exact .inl rfl
          · exact .inr h1
        · have e : (List.replicate k.toNat ds).flatten = ds := by
            rcases h1 with h1 | h1
            · subst h1; exact flat_nil _
            · subst h1; simp
          rw [e] at q
          exact q _ F H (Px.refl w.sub) rx.tp
      · have hn : vs ≠ [] := fun z => h1 (.inl (by subst z; cases r; rfl))
        by_cases h2 : k ≤ 0
        · refine .inr (.inr (.inl ⟨p, k, vs, rfl, rfl, hp, hc.2.1, hc.2.2, .inr ⟨hn, h2, fun a ha => ?_⟩⟩))
          have px : Px F H (F.up a (.tup [])) (upd H a (.tup [])) := Px.new w.sub ha
          have e : k.toNat = 0 := by omega
          rw [e] at q
          exact q _ _ _ px (.tup (SqT.of Fz.up_same) .nil)
        · have h3 : k ≠ 1 := fun z => h1 (.inr z)
          refine .inr (.inl ⟨p, k, vs, rfl, rfl, hp, hn, by omega, hc.2.2, by rw [r.length]; exact hc.1, fun a ha => ?_⟩)
          have px : Px F H (F.up a (.tup (List.replicate k.toNat vs).flatten)) (upd H a (.tup (List.replicate k.toNat vs).flatten)) := Px.new w.sub ha
          exact q _ _ _ px (.tup (SqT.of Fz.up_same) ((r.rep k.toNat).mono px.f))
    · cases hz
  · rename_i ds k
    split at hz
    · rename_i hc
      cases hz
      obtain ⟨p, vs, rfl, hp, r⟩ := rx.l w.sub
      cases ry.int
      refine .inr (.inr (.inr ⟨p, k, vs, rfl, rfl, hp, by omega, by omega, ?_, fun a ha => ?_⟩))
      · rw [r.length, sizeLine_eq]
        have a1 : ds.length * k.toNat ≤ 1000 * 1000 := Nat.mul_le_mul hc.1 (by omega)
        omega
      · have px : Px F H (F.up a (.lst (List.replicate k.toNat vs).flatten)) (upd H a (.lst (List.replicate k.toNat vs).flatten)) := Px.new w.sub ha
        exact q _ _ _ px (.lst Fz.up_same ((r.rep k.toNat).mono px.f))
    · cases hz
  · exact .inl (ro_mul dk F H st x y _ _ z w rx ry hz Q q)
/-! ### list(..) -/
def rListA (K : Fg) : List V → Hp → VK → Prop := fun xs H Q => (∃ p ys, xs = [.ref p] ∧ (SqL K H p ys ∨ SqT K H p ys) ∧ ∀ l, H l = none → Q (.ref l) (upd H l (.lst ys))) ∨
  ∃ (a : Addr) (kvs : List (Key × V)), xs = [.ref a] ∧ Rd H a (.dK kvs) ∧ ∀ p, H p = none → Q (.ref p) (upd H p (.lst (kvs.map fun kv => kV kv.1)))
theorem call_listA {X : Cx} (hc : X.calm = true) : CallR X (.type "list") (rListA X.K) := CallR.or call_list_of (call_listD hc)
def listD : List D → Option (List D)
  | [.lst ds] => some ds
  | [.tup ds] => some ds
  | [.dic ks _] => some (ks.map keyD)
  | _ => none
def listM (a : MA) : MA := fun env st => (a env st).bind fun p => (listD (p.1.map (dr p.2))).map fun z => (z, p.2)
theorem keys_rps : ∀ {ks : List Key} {vs : List V}, ks.length = vs.length → Rps K dk F ((ks.zip vs).map fun kv => kV kv.1) (ks.map keyD)
  | [], [], _ => .nil
  | k :: ks, v :: vs, h => .cons (keyD_rp k) (keys_rps (by simpa using h))
theorem if_list {ta : TA} {a : MA} (ha : ImAW K ta a) : ImF K (tCB (rListA K) ta) (listM a) := fun dk H0 F0 F σ H env st d st' g e Q q => by
  obtain ⟨⟨xs, s1⟩, h1, e⟩ := bnd e
  obtain ⟨z, h2, e⟩ := mpd e
  cases e
  refine ha dk H0 F0 F σ H env st xs s1 g h1 _ fun vs F1 H1 x1 g1 r1 => ?_
  have r2 := r1.dr g1.wd
  have fin : ∀ (us : List V) (p : Addr), H1 p = none → Rps K dk F1 us d → Q (.ref p) (upd H1 p (.lst us)) := fun us p hp r => by
    have px : Px F1 H1 F1 (upd H1 p (.lst us)) := Px.lay g1.wd.sub hp
    exact q p us F1 _ (x1.trans px.ext) (g1.px px) (x1.back hp) (g1.wd.out hp) upd_same r
  replace h2 : listD (xs.map (dr s1)) = some d := h2
  generalize xs.map (dr s1) = ys at h2 r2
  unfold listD at h2
  split at h2
  · cases h2
    obtain ⟨v, rfl, r⟩ := r2.one
    obtain ⟨p, us, rfl, hl, r⟩ := r.l g1.wd.sub
    exact .inl ⟨p, us, rfl, .inl (SqL.of hl), fun l hl => fin us l hl r⟩
  · cases h2
    obtain ⟨v, rfl, r⟩ := r2.one
    obtain ⟨p, us, rfl, hl, r⟩ := r.tup g1.wd.sub
    exact .inl ⟨p, us, rfl, .inr hl, fun l hl => fin us l hl r⟩
  · cases h2
    obtain ⟨v, rfl, r⟩ := r2.one
    obtain ⟨p, us, rfl, hr, hl, r⟩ := r.d g1.wd.sub
    exact .inr ⟨p, _, rfl, hr, fun l h => fin _ l h (keys_rps hl)⟩
  · cases h2
/-! ### isinstance(e, T), T a built-in class -/
def tTy (T : String) : TE := fun _ H Q => Q (.ty T) H
theorem pe_tyName {X : Cx} {x : Str} {T : String} {pos : Pos} (hg : Gl X x) (hm : X.mg x = none) (hv : bootBuiltins x = some (.type T)) (hn : x ≠ "__name__" := by decide) (hdb : (x == ("__debug__" : Str)) = false := by decide) : PE X (.Name x pos) (tTy T) :=
  ⟨fun pins s σ H Q I h => ld_blt I hg hm hv ⟨.ty T, H, I, rfl, h⟩ hn hdb⟩
def tyD : D → Option String
  | .non => some "NoneType"
  | .bl _ => some "bool"
  | .int _ => some "int"
  | .str _ => some "str"
  | .lst _ => some "list"
  | .tup _ => some "tuple"
  | .dic _ _ => some "dict"
  | _ => none
def isiM (T : String) (f : ME) : ME := fun env st => (f env st).bind fun p => (tyD (dr p.2 p.1)).bind fun t => (kitB t T).map fun b => (.bl b, p.2)
theorem sqT_ty {a : Addr} {vs : List V} (h : SqT K H a vs) : TyX K H (.ref a) (.type "tuple") := by
  rcases h with h | h
  · rcases h with h | ⟨o, h⟩
    · exact .base (.tup h)
    · exact .fTuple h
  · obtain ⟨o, its, n, h1, h2, _⟩ := h
    exact .kTuple h1 h2
theorem tyX_of {v : V} {d : D} {t : String} (s : Sb F H) (r : Rw K dk F H v d) (h : tyD d = some t) : TyX K H v (.type t) := by
  cases d with
  | non => cases h; rw [r.non]; exact .base .non
  | bl b => cases h; rw [r.bl]; exact .base (.bl b)
  | int i => cases h; rw [r.int]; exact .base (.int i)
  | str x => cases h; rw [r.str]; exact .base (.str x)
  | lst ds =>
    cases h
    obtain ⟨p, vs, rfl, h1, _⟩ := r.l s
    exact .base (.lst h1)
  | tup ds =>
    cases h
    obtain ⟨p, vs, rfl, h1, _⟩ := r.tup s
    exact sqT_ty h1
  | dic ks ds =>
    cases h
    obtain ⟨p, vs, rfl, h1, _⟩ := r.d s
    rcases h1 with h1 | ⟨o, h1⟩
    · exact .base (.dK h1)
    · exact .fDict h1
  | _ => cases h
theorem im_isi {te : TE} {f : ME} (T : String) (h : ImW K te f) : Im K (tCB (rIsi K) (tCons te (tCons (tTy T) tNil))) (isiM T f) := fun dk H0 F0 F σ H env st d st' g e Q q => by
  obtain ⟨⟨x, s1⟩, e1, e⟩ := bnd e
  obtain ⟨t, e2, e⟩ := bnd e
  obtain ⟨b, e3, e⟩ := mpd e
  cases e
  refine h dk H0 F0 F σ H env st x _ g e1 _ fun v F1 H1 x1 g1 r1 => ?_
  exact ⟨v, .ty T, .type t, .type T, b, rfl, .ty T, tyX_of g1.wd.sub (r1.dr g1.wd) e2, kit_ty e3, q (.bl b) F1 H1 x1 g1 (.bl b)⟩
/-! ### x = xs.pop(), x = xs.pop(i), of a name's own list: as an expression it changes the name -/
def popL (i : Nat) (t : MG) : MS := fun env st => match env[i]? with
  | some (.own (.lst, ds)) => (ds[ds.length - 1]?).bind fun d => (t d (env.set i (.own (.lst, ds.dropLast)))).map fun e => (.nx e, st)
  | _ => none
theorem Rps.dropLast {vs : List V} {ds : List D} (r : Rps K dk F vs ds) : Rps K dk F vs.dropLast ds.dropLast := by
  rw [List.dropLast_eq_take, List.dropLast_eq_take, r.length]
  exact r.take _
theorem is_popL {g : TG} {t : MG} {is : List Nat} (i : Nat) (hg : ImG K g t is) : ImS K (tAsg (tBM0 K "list" rPop (tVar i)) g) (popL i t) := fun dk H0 F0 F σ H env st fl st' gd e E hd => by
  unfold popL at e
  split at e
  · rename_i ds he
    obtain ⟨d, e1, e⟩ := bnd e
    obtain ⟨en, e2, e⟩ := mpd e
    cases e
    obtain ⟨p, vs, h1, h2, h3, h4, h5, h6, h7⟩ := gd.sl i _ he
    obtain ⟨v, k1, k2⟩ := h7.get e1
    refine ⟨.ref p, join_eq h1, .inl ⟨rfl, vs, SqL.of h2⟩, p, vs, v, rfl, rfl, h2, by rw [h7.length]; exact k1, ?_⟩
    have g2 : Good K dk H0 F0 F σ (upd H p (.lst vs.dropLast)) (env.set i (.own (.lst, ds.dropLast))) st := gd.mut (ds' := (.lst, ds.dropLast)) he (join_eq h1) upd_same h7.dropLast
    exact hg dk H0 F0 F σ _ _ st v d en g2 k2 e2 _ fun σ' g3 _ => hd F σ' _ (Le.refl F) g3
  · cases e
/-! e.pop(), e.pop(i), of a list of the store -/
def spopM (fo : ME) : ME := fun env st => (fo env st).bind fun o => (refOf o.1).bind fun n => (lstAt o.2 n).bind fun ds => (ds[ds.length - 1]?).map fun d => (d, o.2.put n (.lst ds.dropLast))
theorem im_spop {to : TE} {fo : ME} (ho : Im K to fo) : Im K (tBM0 K "list" rPop to) (spopM fo) := fun dk H0 F0 F σ H env st d st' g e Q q => by
  obtain ⟨⟨x, s1⟩, h1, e⟩ := bnd e
  obtain ⟨n, h2, e⟩ := bnd e
  obtain ⟨ds, h3, e⟩ := bnd e
  obtain ⟨d', h4, e⟩ := mpd e
  cases e
  refine ho dk H0 F0 F σ H env st x s1 g h1 _ fun v F1 H1 x1 g1 r1 => ?_
  have hx : x = .ref n := refOf_eq h2
  subst hx
  obtain ⟨a, rfl, ha⟩ := r1.refn
  obtain ⟨vs, hv, rv⟩ := g1.wd.lstAt ha h3
  obtain ⟨u, k1, k2⟩ := rv.get h4
  refine ⟨.inl ⟨rfl, vs, SqL.of hv⟩, a, vs, u, rfl, rfl, hv, by rw [rv.length]; exact k1, ?_⟩
  have nf : ¬ Fro (.lst vs) := by rintro ⟨_, _, z⟩; cases z
  have nf' : ¬ Fro (.lst vs.dropLast) := by rintro ⟨_, _, z⟩; cases z
  exact q u F1 _ (x1.put ha hv nf nf') (g1.put ha hv nf (.lst upd_same rv.dropLast) nf') k2
theorem Rps.erase : ∀ {vs : List V} {ds : List D} (n : Nat), Rps K dk F vs ds → Rps K dk F (vs.eraseIdx n) (ds.eraseIdx n)
  | _, _, _, .nil => .nil
  | _, _, 0, .cons _ r => r
  | _, _, n + 1, .cons a r => .cons a (Rps.erase n r)
def spopAt (fo fi : ME) : ME := fun env st => (fo env st).bind fun o => (refOf o.1).bind fun n => (lstAt o.2 n).bind fun _ => (fi env o.2).bind fun p => (intOf p.1).bind fun i => (lstAt p.2 n).bind fun ds => if 0 ≤ i ∧ i < ds.length ∧ ds.length ≤ sizeLine then (ds[i.toNat]?).map fun d => (d, p.2.put n (.lst (ds.eraseIdx i.toNat))) else none
theorem im_spopAt {to ti : TE} {fo fi : ME} (ho : Im K to fo) (hi : ImW K ti fi) : Im K (tBM K "list" rPopAt to (tCons ti tNil)) (spopAt fo fi) := fun dk H0 F0 F σ H env st d st' g e Q q => by
  obtain ⟨⟨x, s1⟩, h1, e⟩ := bnd e
  obtain ⟨n, h2, e⟩ := bnd e
  obtain ⟨_, h0, e⟩ := bnd e
  obtain ⟨⟨y, s2⟩, h3, e⟩ := bnd e
  obtain ⟨i, h4, e⟩ := bnd e
  obtain ⟨ds, h5, e⟩ := bnd e
  split at e
  · rename_i hz
    obtain ⟨d', h6, e⟩ := mpd e
    cases e
    refine ho dk H0 F0 F σ H env st x s1 g h1 _ fun v F1 H1 x1 g1 r1 => ?_
    have hx : x = .ref n := refOf_eq h2
    subst hx
    obtain ⟨a, rfl, ha⟩ := r1.refn
    obtain ⟨vs0, hv0, _⟩ := g1.wd.lstAt ha h0
    refine ⟨.inl ⟨rfl, vs0, SqL.of hv0⟩, ?_⟩
    refine hi dk H0 F0 F1 σ H1 env s1 y s2 g1 h3 _ fun u F2 H2 x2 g2 r2 => ?_
    have hy : y = .int i := by
      cases y <;> first | (cases h4; rfl) | cases h4
    subst hy
    have ha2 := x2.f.at ha
    obtain ⟨vs, hv, rv⟩ := g2.wd.lstAt ha2 h5
    obtain ⟨w, k1, k2⟩ := rv.get h6
    have hl := rv.length
    have hs : ds.length ≤ 16777216 := Nat.le_trans hz.2.2 (by rw [sizeLine_eq]; omega)
    refine ⟨a, vs, i, i.toNat, w, rfl, by rw [r2.w.int], hv, by omega, by omega, ?_, k1, ?_⟩
    · unfold seqIndex?
      rw [hl]
      have e1 : ¬ i < 0 := by omega
      have e2 : (decide (0 ≤ i) && decide (i < (ds.length : Int))) = true := by simp [hz.1, hz.2.1]
      simp [e1, hz.1, hz.2.1]
    · have nf : ¬ Fro (.lst vs) := by rintro ⟨_, _, z⟩; cases z
      have nf' : ¬ Fro (.lst (vs.eraseIdx i.toNat)) := by rintro ⟨_, _, z⟩; cases z
      exact q w F2 _ ((x1.trans x2).put ha2 hv nf nf') (g2.put ha2 hv nf (.lst upd_same (rv.erase i.toNat)) nf') k2
  · cases e
end
end MD

set_option Elab.async false
set_option linter.all false
set_option maxRecDepth 100000
set_option maxHeartbeats 1000000
namespace MD
open PySem L2
/-- where a thing is so -/
noncomputable def cif {α : Type} (p : Prop) (o : Option α) : Option α := @ite _ p (Classical.propDecidable p) o none
theorem cif_eq {α : Type} (p : Prop) [d : Decidable p] (o : Option α) : (if p then o else none) = cif p o := by
  unfold cif
  by_cases h : p
  · rw [if_pos h, if_pos h]
  · rw [if_neg h, if_neg h]
theorem cif_of {α : Type} {p : Prop} {o : Option α} (h : p) : cif p o = o := if_pos h
theorem of_cif {α : Type} {p : Prop} {o : Option α} {a : α} (h : cif p o = some a) : p ∧ o = some a := by
  unfold cif at h
  by_cases hp : p
  · rw [if_pos hp] at h; exact ⟨hp, h⟩
  · rw [if_neg hp] at h; cases h
section
variable {K : Fg} {dk : Dk} {F F' F0 : Fz} {H H' H0 : Hp} {σ σ' : L2.St} {env env' : Sg} {st st' st'' : S}
/-! ### for x in e, e a list of the store that stays meanwhile -/
noncomputable def forLc (n : Nat) (ds0 : List D) (t : MG) (b : MS) : List D → MS
  | [], env, st => cif (lstAt st n = some ds0) (some (.nx env, st))
  | d :: ds, env, st => cif (lstAt st n = some ds0) ((t d env).bind fun env1 => (b env1 st).bind fun p => match p.1 with
    | .nx e => forLc n ds0 t b ds e p.2
    | .ct e => forLc n ds0 t b ds e p.2
    | .bk e => some (.nx e, p.2)
    | .rt r => some (.rt r, p.2))
noncomputable def forR (f : ME) (t : MG) (b : MS) : MS := fun env st => (f env st).bind fun p => match p.1 with
  | .ref n => (lstAt p.2 n).bind fun ds => forLc n ds t b ds env p.2
  | d => (seqOf d).bind fun ds => forL t b ds env p.2
theorem is_forR {te : TE} {f : ME} {g : TG} {tb : TS} {t : MG} {b : MS} {is : List Nat} (h : Im K te f) (hg : ImG K g t is) (hb : ImS K tb b) : ImS K (tFor (iSeq K te) g tb) (forR f t b) := fun dk H0 F0 F σ H env st fl st' gd e E hd => by
  obtain ⟨⟨d, s1⟩, e1, e⟩ := bnd e
  by_cases hr : ∃ n, d = .ref n
  · obtain ⟨n, rfl⟩ := hr
    obtain ⟨ds, e2, e⟩ := bnd (show ((lstAt s1 n).bind fun ds => forLc n ds t b ds env s1) = some (fl, st') from e)
    refine h dk H0 F0 F σ H env st _ s1 gd e1 _ fun v F1 H1 x1 g1 r1 => ?_
    obtain ⟨a, rfl, ha⟩ := r1.refn
    obtain ⟨vs, hv, rv⟩ := g1.wd.lstAt ha e2
    refine .inl ⟨a, rfl, ⟨vs, SqL.of hv⟩, ?_⟩
    have hd1 := hd.mono x1.f
    let P : Nat → L2.St → Hp → Prop := fun i σ H => ∃ F2 env st, Le F1 F2 ∧ Good K dk H0 F0 F2 σ H env st ∧ forLc n ds t b (ds.drop i) env st = some (fl, st')
    refine ⟨fun i m σ H => m = ds.length - i ∧ i ≤ ds.length ∧ P i σ H, ⟨_, rfl, Nat.zero_le _, F1, env, s1, Le.refl F1, g1, e⟩, ?_⟩
    rintro i m σ2 H2 ⟨rfl, hle, F2, env2, s2, le2, g2, e3⟩
    by_cases hlt : i < ds.length
    · have hdi : ds[i]? = some ds[i] := List.getElem?_eq_getElem hlt
      rw [List.drop_eq_getElem_cons hlt] at e3
      obtain ⟨ck, e3⟩ := of_cif e3
      obtain ⟨us, hu, ru⟩ := g2.wd.lstAt (le2.at ha) ck
      obtain ⟨w, k1, k2⟩ := ru.get hdi
      refine .inr ⟨⟨us, w, SqL.of hu, k1⟩, P (i + 1), fun σ' H' hp => ⟨_, by omega, rfl, hlt, hp⟩, fun x H3 hx => ?_⟩
      obtain ⟨ee, e4⟩ := hx
      subst ee
      have ev := e4 us (SqL.of hu)
      rw [k1] at ev
      cases ev
      obtain ⟨env3, e5, e3⟩ := bnd e3
      obtain ⟨⟨fl3, s3⟩, e6, e3⟩ := bnd e3
      refine hg dk H0 F0 F2 σ2 _ env2 s2 w _ env3 g2 k2 e5 _ fun σ4 g4 _ => ?_
      refine hb dk H0 F0 F2 σ4 _ env3 s2 fl3 s3 g4 e6 _ ?_
      cases fl3 with
      | nx e7 => exact fun F5 σ5 H5 l5 g5 => ⟨F5, e7, s3, le2.trans l5, g5, e3⟩
      | ct e7 => exact fun F5 σ5 H5 l5 g5 => ⟨F5, e7, s3, le2.trans l5, g5, e3⟩
      | bk e7 =>
        cases e3
        exact fun F5 σ5 H5 l5 g5 => hd1 F5 σ5 H5 (le2.trans l5) g5
      | rt r =>
        cases e3
        exact hd1
    · have ei : i = ds.length := by omega
      subst ei
      rw [List.drop_length] at e3
      obtain ⟨ck, e3⟩ := of_cif e3
      cases e3
      obtain ⟨us, hu, ru⟩ := g2.wd.lstAt (le2.at ha) ck
      exact .inl ⟨⟨us, SqL.of hu, by rw [ru.length]; exact Nat.le_refl _⟩, hd1 F2 σ2 H2 le2 g2⟩
  · refine is_for (ii_seq h) hg hb dk H0 F0 F σ H env st fl st' gd ?_ E hd
    have ee : ((seqOf d).bind fun ds => forL t b ds env s1) = some (fl, st') := by
      cases d with
      | ref n => exact absurd ⟨n, rfl⟩ hr
      | _ => exact e
    obtain ⟨ds, e2, e3⟩ := bnd ee
    show ((seqI f env st).bind fun p => forL t b p.1 env p.2) = _
    have : seqI f env st = some (ds, s1) := by
      unfold seqI
      rw [e1]
      show (seqOf d).map _ = _
      rw [e2]; rfl
    rw [this]
    exact e3
end
end MD

set_option Elab.async false
set_option linter.all false
set_option maxRecDepth 100000
set_option maxHeartbeats 1000000
namespace MD
open PySem L2
/-! ### an expression whose value goes to a name: data, or a new thing of its own -/
abbrev MX := Sg → S → Option (Sl × S)
/-- what an argument gives, as it stands at F, H -/
def XOk (K : Fg) (dk : Dk) (F : Fz) (H H0 : Hp) (v : V) : Sl → Prop
  | .un => False
  | .val d => Rp K dk F v d
  | .own w => ∃ p vs, v = .ref p ∧ w.1.At H p vs ∧ F.out p ∧ H0 p = none ∧ p ≠ dk.1 ∧ p ≠ dk.2 ∧ Rps K dk F vs w.2
def ImX (K : Fg) (te : TE) (f : MX) : Prop := ∀ (dk : Dk) (H0 : Hp) (F0 F : Fz) (σ : L2.St) (H : Hp) (env : Sg) (st : S) (s : Sl) (st' : S), Good K dk H0 F0 F σ H env st → f env st = some (s, st') →
  ∀ Q : VK, (∀ v F' H', Ext dk F H F' H' → Good K dk H0 F0 F' σ H' env st' → XOk K dk F' H' H v s → Q v H') → te σ H Q
def xV (f : ME) : MX := fun env st => (f env st).map fun p => (.val p.1, p.2)
def xL (f : MA) : MX := fun env st => (f env st).map fun p => (.own (.lst, p.1), p.2)
def xK (f : MK) : MX := fun env st => (f env st).map fun p => (.own (.dic p.1.1, p.1.2), p.2)
section
variable {K : Fg} {dk : Dk} {F F' F0 : Fz} {H H' H0 : Hp} {σ σ' : L2.St} {env env' : Sg} {st st' st'' : S}
theorem Im.x {te : TE} {f : ME} (h : Im K te f) : ImX K te (xV f) := fun dk H0 F0 F σ H env st s st' g e Q q => by
  obtain ⟨⟨d, s1⟩, e1, e⟩ := mpd e
  cases e
  exact h dk H0 F0 F σ H env st d s1 g e1 Q fun v F1 H1 x1 g1 r1 => q v F1 H1 x1 g1 r1
theorem ImF.x {te : TE} {f : MA} (h : ImF K te f) : ImX K te (xL f) := fun dk H0 F0 F σ H env st s st' g e Q q => by
  obtain ⟨⟨ds, s1⟩, e1, e⟩ := mpd e
  cases e
  refine h dk H0 F0 F σ H env st ds s1 g e1 Q fun p vs F1 H1 x1 g1 hp fp hl r => ?_
  have nd := g.nedk hp
  exact q _ F1 H1 x1 g1 ⟨p, vs, rfl, hl, fp, hp, nd.1, nd.2, r⟩
theorem ImK.x {te : TE} {f : MK} (h : ImK K te f) : ImX K te (xK f) := fun dk H0 F0 F σ H env st s st' g e Q q => by
  obtain ⟨⟨⟨ks, ds⟩, s1⟩, e1, e⟩ := mpd e
  cases e
  refine h dk H0 F0 F σ H env st _ s1 g e1 Q fun p vs F1 H1 x1 g1 hp fp hl hl2 r => ?_
  have nd := g.nedk hp
  exact q _ F1 H1 x1 g1 ⟨p, vs, rfl, ⟨hl, hl2⟩, fp, hp, nd.1, nd.2, r⟩
theorem XOk.ext {v : V} {s : Sl} (h : XOk K dk F H H0 v s) (x : Ext dk F H F' H') : XOk K dk F' H' H0 v s := by
  cases s with
  | un => exact h
  | val d => exact Rp.mono x.f h
  | own w =>
    obtain ⟨p, vs, h1, h2, h3, h4, h5, h6, h7⟩ := h
    exact ⟨p, vs, h1, h2.keep fun o e => x.h _ _ e h5 h6 (.inl h3.2), x.out h3 (by obtain ⟨o, ho⟩ := h2.some; exact nn ho), h4, h5, h6, h7.mono x.f⟩
/-- a slot gets it -/
theorem Good.setX {i : Nat} {v : V} {s : Sl} {Hb : Hp} (g : Good K dk H0 F0 F σ H env st) (h : XOk K dk F H Hb v s) (hb : ∀ p, Hb p = none → H0 p = none) (no : ∀ p, Hb p = none → ∀ (j : Nat) (es : Own), env[j]? = some (.own es) → σ[j]? ≠ some (some (.ref p))) :
    Good K dk H0 F0 F (σ.set i (some v)) H (env.set i s) st := by
  cases s with
  | un => exact h.elim
  | val d => exact g.set h
  | own w =>
    obtain ⟨p, vs, rfl, h2, h3, h4, h5, h6, h7⟩ := h
    exact g.setO h2 h3 (hb p h4) h5 h6 (no p h4) h7
def par2 (i j : Nat) (fa fb : MX) : MS := fun env st => (fa env st).bind fun p => (fb env p.2).map fun q => (.nx ((env.set i p.1).set j q.1), q.2)
theorem is_par2 {ta tb : TE} {fa fb : MX} (i j : Nat) (ha : ImX K ta fa) (hb : ImX K tb fb) : ImS K (tPar i j (tCons ta (tCons tb tNil))) (par2 i j fa fb) := fun dk H0 F0 F σ H env st fl st' g e E hd => by
  obtain ⟨⟨s1, t1⟩, e1, e⟩ := bnd e
  obtain ⟨⟨s2, t2⟩, e2, e⟩ := mpd e
  cases e
  refine ha dk H0 F0 F σ H env st s1 t1 g e1 _ fun v F1 H1 x1 g1 k1 => ?_
  refine hb dk H0 F0 F1 σ H1 env t1 s2 t2 g1 e2 _ fun u F2 H2 x2 g2 k2 => ?_
  refine ⟨v, u, rfl, hd F2 _ H2 (x1.f.trans x2.f) ?_⟩
  have g3 : Good K dk H0 F0 F2 (σ.set i (some v)) H2 (env.set i s1) t2 := g2.setX (k1.ext x2) (fun p hp => g.fresh0 hp) fun p hp => g.noown hp
  refine g3.setX k2 (fun p hp => g1.fresh0 hp) fun p hp jj es hj z => ?_
  by_cases hi : i = jj
  · subst hi
    have hl : i < env.length := by
      by_cases hl : i < env.length
      · exact hl
      · rw [List.getElem?_eq_none (by rw [List.length_set]; omega)] at hj; cases hj
    rw [List.getElem?_set_self hl] at hj
    rw [List.getElem?_set_self (by rw [g.len]; exact hl)] at z
    cases hj
    cases z
    obtain ⟨p', vs, ep, h2, _⟩ := k1
    cases ep
    obtain ⟨o, ho⟩ := h2.some
    rw [hp] at ho; cases ho
  · rw [List.getElem?_set_ne hi] at hj z
    exact g1.noown hp jj es hj z
end
end MD

set_option Elab.async false
set_option linter.all false
set_option maxRecDepth 100000
set_option maxHeartbeats 1000000
namespace MD
open PySem PyProof.Rows L2
theorem units1 {n : Nat} (h : n + 64 < cLine) : n + 1 < cLine := by omega
theorem ps_or2 {X : Cx} {st : Stmt} {t : TE} {i : Nat} (h : PS X st (tLock (tAsg t (gName i)))) (h' : PS X st (tAsg t (gName i))) : PS X st (tAsg (fun σ H Q => tLockE t σ H Q ∨ t σ H Q) (gName i)) := ps_or h h'
/-- a def that is not yet known to keep anything -/
theorem fn0 {P : Program} {w : World} {K : Fg} {mg : Str → Option Value} {base : Heap} {k n : Nat} {f : Addr} {fd : FuncData} {ps : List Str} (h : n = ps.length) : FnG P w K mg base k f fd ps (spD K n fun _ _ => none) :=
  ⟨fun vs H Q E q => q.1.trans h, fun A outer s H args us vs Q E _ _ _ _ _ q => by
    obtain ⟨_, _, _, _, _, _, _, _, _, z, _⟩ := q
    cases z⟩
section
variable {K : Fg} {dk : Dk} {F F' F0 : Fz} {H H' H0 : Hp} {σ σ' : L2.St} {env env' : Sg} {st st' st'' : S}
def min2M : List D → Option D
  | [.int m, .int n] => some (.int (if n < m then n else m))
  | _ => none
def max2M : List D → Option D
  | [.int m, .int n] => some (.int (if n > m then n else m))
  | _ => none
theorem rc_min2 : RC K (fun xs H Q => ∃ m n, xs = [V.int m, V.int n] ∧ Q (.int (if n < m then n else m)) H) min2M := by
  intro dk F H st vs ds z w rx hz Q q
  unfold min2M at hz
  split at hz
  · cases hz
    obtain ⟨v, u, rfl, r1, r2⟩ := rx.two
    cases r1.int
    cases r2.int
    exact ⟨_, _, rfl, q _ F H (Px.refl w.sub) (.int _)⟩
  · cases hz
theorem rc_max2 : RC K (fun xs H Q => ∃ m n, xs = [V.int m, V.int n] ∧ Q (.int (if n > m then n else m)) H) max2M := by
  intro dk F H st vs ds z w rx hz Q q
  unfold max2M at hz
  split at hz
  · cases hz
    obtain ⟨v, u, rfl, r1, r2⟩ := rx.two
    cases r1.int
    cases r2.int
    exact ⟨_, _, rfl, q _ F H (Px.refl w.sub) (.int _)⟩
  · cases hz
/-! a new list by * -/
def lstMul : D → D → Option (List D)
  | .lst ds, .int k => if ds.length ≤ 1000 ∧ -1000 ≤ k ∧ k ≤ 1000 then some (List.replicate k.toNat ds).flatten else none
  | _, _ => none
theorem rof_mul : ROF K rRep lstMul := by
  intro dk F H st x y d e z w rx ry hz Q q
  unfold lstMul at hz
  split at hz
  · rename_i ds k
    split at hz
    · rename_i hc
      cases hz
      obtain ⟨p, vs, rfl, hp, r⟩ := rx.l w.sub
      cases ry.int
      refine ⟨p, k, vs, rfl, rfl, hp, by omega, by omega, ?_, fun a ha => q a _ ha (r.rep k.toNat)⟩
      rw [r.length, sizeLine_eq]
      have a1 : ds.length * k.toNat ≤ 1000 * 1000 := Nat.mul_le_mul hc.1 (by omega)
      omega
    · cases hz
  · cases hz
@[simp] theorem v_opF {g : D → D → Option (List D)} {fa fb : ME} {env : Sg} {st : S} : opF g fa fb env st = (fa env st).bind fun p => (fb env p.2).bind fun q => (g (dr q.2 p.1) (dr q.2 q.1)).map fun z => (z, q.2) := (rfl)
/-! xs[i] = e, of a name's own list -/
def lsetM (i : Nat) (fk fv : ME) : MS := fun env st => match env[i]? with
  | some (.own (.lst, ds)) => (fv env st).bind fun p => (fk env p.2).bind fun q => (intOf q.1).bind fun k => (ixN ds.length k).map fun j => (.nx (env.set i (.own (.lst, ds.set j p.1))), q.2)
  | _ => none
@[simp] theorem v_lsetM {i : Nat} {fk fv : ME} {env : Sg} {st : S} : lsetM i fk fv env st = (match env[i]? with
  | some (.own (.lst, ds)) => (fv env st).bind fun p => (fk env p.2).bind fun q => (intOf q.1).bind fun k => (ixN ds.length k).map fun j => (.nx (env.set i (.own (.lst, ds.set j p.1))), q.2)
  | _ => none) := (rfl)
theorem is_lset {ty tv : TE} {fk fv : ME} (i : Nat) (hk : ImW K ty fk) (hv : Im K tv fv) : ImS K (tAsg tv (gSub (tVar i) ty rSetL)) (lsetM i fk fv) := fun dk H0 F0 F σ H env st fl st' g e E hd => by
  unfold lsetM at e
  split at e
  · rename_i ds he
    obtain ⟨⟨d, s1⟩, e1, e⟩ := bnd e
    obtain ⟨⟨y, s2⟩, e2, e⟩ := bnd e
    obtain ⟨k, e3, e⟩ := bnd e
    obtain ⟨j, e4, e⟩ := mpd e
    cases e
    obtain ⟨p, vs, h1, h2, h3, h4, h5, h6, h7⟩ := g.sl i _ he
    refine hv dk H0 F0 F σ H env st d s1 g e1 _ fun v F1 H1 x1 g1 r1 => ?_
    refine ⟨.ref p, join_eq h1, hk dk H0 F0 F1 σ H1 env s1 y s2 g1 e2 _ fun u F2 H2 x2 g2 r2 => ?_⟩
    have x12 := x1.trans x2
    have hy : y = .int k := by
      cases y <;> first | (cases e3; rfl) | cases e3
    subst hy
    refine ⟨p, vs, k, j, rfl, r2.w.int, x12.h _ _ h2 h5 h6 (.inl h3.2), by rw [h7.length]; exact e4, ?_⟩
    exact hd F2 σ _ x12.f (g2.mut (ds' := (.lst, ds.set j d)) he (join_eq h1) upd_same (Rps.set (r1.mono x2.f) j (h7.mono x12.f)))
  · cases e
@[simp] theorem v_par2 {i j : Nat} {fa fb : MX} {env : Sg} {st : S} : par2 i j fa fb env st = (fa env st).bind fun p => (fb env p.2).map fun q => (.nx ((env.set i p.1).set j q.1), q.2) := (rfl)
@[simp] theorem v_xV {f : ME} {env : Sg} {st : S} : xV f env st = (f env st).map fun p => (Sl.val p.1, p.2) := (rfl)
@[simp] theorem v_xL {f : MA} {env : Sg} {st : S} : xL f env st = (f env st).map fun p => (Sl.own (.lst, p.1), p.2) := (rfl)
@[simp] theorem v_xK {f : MK} {env : Sg} {st : S} : xK f env st = (f env st).map fun p => (Sl.own (.dic p.1.1, p.1.2), p.2) := (rfl)
/-! dict(list of pairs) -/
def prsD : List D → Option (List (Key × D))
  | [] => some []
  | .tup [k, d] :: r => (keyOf k).bind fun k => (prsD r).map ((k, d) :: ·)
  | _ => none
def prsK (f : ME) : MK := fun env st => (f env st).bind fun p => match p.1 with
  | .lst ds => (prsD ds).map fun l => (mrgL [] [] l, p.2)
  | _ => none
theorem prs_ok (s : Sb F H) : ∀ {vs : List V} {ds : List D} {l : List (Key × D)}, Rps K dk F vs ds → prsD ds = some l → ∃ (ps : List Addr) (kvs : List (Key × V)), vs = ps.map V.ref ∧ Paired (fun p kv => SqT K H p [kV kv.1, kv.2]) ps kvs ∧ Rpk K dk F kvs l
  | _, [], l, .nil, h => by cases h; exact ⟨[], [], rfl, .nil, .nil⟩
  | v :: vs, d :: ds, l, .cons a b, h => by
    unfold prsD at h
    split at h
    · rename_i hh; cases hh
    · rename_i k e r hh
      cases hh
      obtain ⟨k', h1, h⟩ := bnd h
      obtain ⟨l', h2, h⟩ := mpd h
      subst h
      cases a with
      | tup hq rr =>
        cases rr with
        | cons q1 q2 => cases q2 with
          | cons q2 q3 =>
            cases q3
            obtain ⟨ps, kvs, e1, e2, e3⟩ := prs_ok s b h2
            refine ⟨_ :: ps, (k', _) :: kvs, by rw [e1]; rfl, .cons ?_ e2, .cons q2 e3⟩
            have := keyOf_rw (H := H) (.rp q1) h1
            rw [← this]
            exact s.sqT hq
    · cases h
theorem ik_prs {te : TE} {f : ME} (h : Im K te f) : ImK K (tCB (fun xs H Q => ∃ (a : Addr) (ps : List Addr) (kvs : List (Key × V)), xs = [.ref a] ∧ SqL K H a (ps.map V.ref) ∧ Paired (fun p kv => SqT K H p [kV kv.1, kv.2]) ps kvs ∧
    ∀ p, H p = none → Q (.ref p) (upd H p (.dK (mergeK [] kvs)))) (tCons te tNil)) (prsK f) := fun dk H0 F0 F σ H env st kd st' g e Q q => by
  obtain ⟨⟨x, s1⟩, h1, e⟩ := bnd e
  refine h dk H0 F0 F σ H env st x s1 g h1 _ fun v F1 H1 x1 g1 r1 => ?_
  cases x with
  | lst ds =>
    obtain ⟨l, h2, e⟩ := mpd (show (prsD ds).map (fun l => (mrgL [] [] l, s1)) = some (kd, st') from e)
    cases e
    cases r1 with
    | lst ha r =>
      obtain ⟨ps, kvs, e1, e2, e3⟩ := prs_ok g1.wd.sub r h2
      subst e1
      refine ⟨_, ps, kvs, rfl, SqL.of (g1.wd.sub.lst ha), e2, fun p hp => ?_⟩
      have px : Px F1 H1 F1 (upd H1 p (.dK (mergeK [] kvs))) := Px.lay g1.wd.sub hp
      obtain ⟨z1, z2⟩ := mrg_zip kvs [] [] rfl
      obtain ⟨y1, y2⟩ := mrg_rps (K := K) (dk := dk) (F := F1) [] e3 Rps.nil
      exact q p (mrgL [] [] kvs).2 F1 _ (x1.trans px.ext) (g1.px px) (x1.back hp) (g1.wd.out hp) (by rw [upd_same, ← y1]; exact congrArg (fun z => some (HO.dK z)) z1) (by rw [← y1]; exact z2) y2
  | _ => cases e
end
end MD

set_option Elab.async false
set_option linter.all false
set_option maxRecDepth 100000
set_option maxHeartbeats 1000000
namespace MD
open PySem L2
/-! ### a < b of data -/
def rLtD (K : Fg) : R2 := fun x y H Q => ∃ d e, Dp K H x d ∧ Dp K H y e ∧ PySem.W.alike d e = true ∧ d ≠ .none ∧ d.depth ≤ 60 ∧ Q (.bl (PySem.W.dataLt d e)) H
theorem op_ltD {X : Cx} (hu : X.A.units + 64 < cLine) : OpR X (compareOp .Lt) (rLtD X.K) := by
  intro pins s σ H x y v u Q I rx ry h
  obtain ⟨d, e, hd, he, hal, hn, hdp, q⟩ := h
  obtain ⟨as, r1⟩ := Dp.reads I _ _ _ hd rx
  obtain ⟨bs, r2⟩ := Dp.reads I _ _ _ he ry
  exact PySem.W.rcLt_alike d e X.A s v u as bs r1 r2 hal hn (by omega) X.prog X.w _ _ ⟨.bl _, H, I, rfl, q⟩
def rLtA (K : Fg) : R2 := fun x y H Q => rI0 (fun i j => .bl (decide (i < j))) x y H Q ∨ rLtD K x y H Q
theorem op_ltA {X : Cx} (hu : X.A.units + 64 < cLine) : OpR X (compareOp .Lt) (rLtA X.K) := OpR.or op_lt (op_ltD hu)
def ltA : D → D → Option D
  | .int i, .int j => some (.bl (decide (i < j)))
  | .tup a, .tup b => if (D.tup a).pl && (D.tup b).pl && PySem.W.alike (D.tup a).py (D.tup b).py && decide ((D.tup a).py.depth ≤ 60) then some (.bl (PySem.W.dataLt (D.tup a).py (D.tup b).py)) else none
  | _, _ => none
section
variable {K : Fg} {dk : Dk} {F F' F0 : Fz} {H H' H0 : Hp}
theorem ro_ltA : RO K (rLtA K) ltA := by
  intro dk F H st x y d e z w rx ry hz Q q
  unfold ltA at hz
  split at hz
  · exact .inl (ro_lt dk F H st x y _ _ z w rx ry hz Q q)
  · split at hz
    · rename_i ho
      cases hz
      simp only [Bool.and_eq_true, decide_eq_true_eq] at ho
      refine .inr ⟨_, _, rx.dp w.sub ho.1.1.1, ry.dp w.sub ho.1.1.2, ho.1.2, ?_, ho.2, q _ F H (Px.refl w.sub) (.bl _)⟩
      intro z
      rw [D.py] at z
      cases z
    · cases hz
  · cases hz
end
/-! (number, text) < (number, text) -/
@[simp] theorem v_ltI {i j : Int} : ltA (.int i) (.int j) = some (.bl (decide (i < j))) := (rfl)
theorem lt_pair (i j : Int) (x y : Str) : ltA (.tup [.int i, .str x]) (.tup [.int j, .str y]) = some (.bl (decide (i < j ∨ (i = j ∧ x.cps.toList < y.cps.toList)))) := by
  have e : PySem.W.dataLt (D.tup [.int i, .str x]).py (D.tup [.int j, .str y]).py = decide (i < j ∨ (i = j ∧ x.cps.toList < y.cps.toList)) := by
    show PyProof.Rows.lexLt PyProof.Rows.itemOrd [.inl 1, .inl i, .inl 1, .inr x.cps.toList, .inl 0] [.inl 1, .inl j, .inl 1, .inr y.cps.toList, .inl 0] = _
    rw [PyProof.Rows.lex_self]
    by_cases hij : i = j
    · subst hij
      rw [PyProof.Rows.lex_self, PyProof.Rows.lex_self]
      by_cases hxy : x.cps.toList = y.cps.toList
      · rw [hxy, PyProof.Rows.lex_self, PyProof.Rows.lex_irrefl]
        have h1 : ¬ y.cps.toList < y.cps.toList := List.lt_irrefl _
        simp [h1]
      · rw [PyProof.Rows.lex_diff (fun z => hxy (Sum.inr.inj z))]
        show decide (x.cps.toList < y.cps.toList) = _
        simp
    · rw [PyProof.Rows.lex_diff (fun z => hij (Sum.inl.inj z))]
      show decide (i < j) = _
      simp [hij]
  show (if (D.tup [.int i, .str x]).pl && (D.tup [.int j, .str y]).pl && PySem.W.alike (D.tup [.int i, .str x]).py (D.tup [.int j, .str y]).py && decide ((D.tup [.int i, .str x]).py.depth ≤ 60) then some (D.bl (PySem.W.dataLt (D.tup [.int i, .str x]).py (D.tup [.int j, .str y]).py)) else none) = _
  rw [e, if_pos]
  have h2 : (D.tup [.int i, .str x]).py.depth ≤ 60 := by simp [D.py, pyAll, PyData.depth, PyData.depthAll]
  rw [decide_eq_true h2]
  simp [D.pl, plAll, D.py, pyAll, PySem.W.alike, PySem.W.alikeAll]
end MD

set_option Elab.async false
set_option linter.all false
namespace MD
open PySem PySem.Spec PyProof.Rows L2
variable {K : Fg} {dk : Dk} {F : Fz}
/-! ### list(range(..)) -/
theorem rps_rg (a b : Int) : Rps K dk F (rgV a b) (rngD a (b - a).toNat) := by
  unfold rgV rngD
  generalize List.range (b - a).toNat = xs
  induction xs with
  | nil => exact .nil
  | cons x xs ih => exact .cons (.int _) ih
theorem fin_rg {H0 : Hp} {F0 : Fz} {σ : L2.St} {H : Hp} {env : Sg} {st : S} {a b : Int} (g : Good K dk H0 F0 F σ H env st) {Q : VK}
    (q : ∀ p vs F' H', Ext dk F H F' H' → Good K dk H0 F0 F' σ H' env st → H p = none → F'.out p → H' p = some (.lst vs) → Rps K dk F' vs (rngD a (b - a).toNat) → Q (.ref p) H') :
    ∀ p, H p = none → Q (.ref p) (upd H p (.lst (rgV a b))) := fun p hp => by
  have px : Px F H F (upd H p (.lst (rgV a b))) := Px.lay g.wd.sub hp
  exact q p _ F _ px.ext (g.px px) hp (g.wd.out hp) upd_same (rps_rg a b)
def lrg1M (a : ME) : MA := fun env st => (a env st).bind fun p => match p.1 with
  | .int j => if 0 ≤ j ∧ j ≤ 1000000 then some (rngD 0 (j - 0).toNat, p.2) else none
  | _ => none
def lrg2M (a b : ME) : MA := fun env st => (a env st).bind fun p => (b env p.2).bind fun r => match p.1, r.1 with
  | .int i, .int j => if 0 ≤ i ∧ i ≤ 1000000 ∧ 0 ≤ j ∧ j ≤ 1000000 then some (rngD i (j - i).toNat, r.2) else none
  | _, _ => none
theorem if_lrg1 {ta : TE} {a : ME} (ha : Im K ta a) : ImF K (tLstRg (tRg1 ta)) (lrg1M a) := fun dk H0 F0 F σ H env st d st' g e Q q => by
  obtain ⟨⟨x, s1⟩, h1, e⟩ := bnd e
  refine ha dk H0 F0 F σ H env st x s1 g h1 _ fun v F1 H1 x1 g1 r1 => ?_
  dsimp only at e
  split at e
  · split at e
    · rename_i j hj
      cases e
      cases r1
      exact ⟨j, rfl, RgOk.of_le (by omega) (by omega) (by omega) (by omega), fin_rg g1 fun p vs F' H' x2 g2 hp => q p vs F' H' (x1.trans x2) g2 (x1.back hp)⟩
    · cases e
  · cases e
theorem if_lrg2 {ta tb : TE} {a b : ME} (ha : Im K ta a) (hb : Im K tb b) : ImF K (tLstRg (tRg2 ta tb)) (lrg2M a b) := fun dk H0 F0 F σ H env st d st' g e Q q => by
  obtain ⟨⟨x, s1⟩, h1, e⟩ := bnd e
  obtain ⟨⟨y, s2⟩, h2, e'⟩ := bnd e
  clear e
  refine ha dk H0 F0 F σ H env st x s1 g h1 _ fun v F1 H1 x1 g1 r1 => ?_
  refine hb dk H0 F0 F1 σ H1 env s1 y s2 g1 h2 _ fun u F2 H2 x2 g2 r2 => ?_
  dsimp only at e'
  split at e'
  · split at e'
    · rename_i i j hj
      cases e'
      cases r1
      cases r2
      exact ⟨i, j, rfl, rfl, RgOk.of_le (by omega) (by omega) (by omega) (by omega), fin_rg g2 fun p vs F' H' x3 g3 hp => q p vs F' H' ((x1.trans x2).trans x3) g3 ((x1.trans x2).back hp)⟩
    · cases e'
  · cases e'
end MD

set_option Elab.async false
set_option linter.all false
namespace MD
open PySem PySem.Spec PyProof.Rows L2
/-! ### tests of k in d, k not in d -/
theorem pt_or {X : Cx} {e : Expr} {t t' : TE} (h : PT X e (tTest t)) (h' : PT X e (tTest t')) : PT X e (tTest fun σ H Q => t σ H Q ∨ t' σ H Q) :=
  ⟨fun pins s σ H Q I q => q.elim (h.run pins s σ H Q I) (h'.run pins s σ H Q I)⟩
theorem pt_in {X : Cx} {a b : Expr} {pos : Pos} {ta tb : TE} (hu : X.A.units + 1 < cLine) (ha : PE X a ta) (hb : PE X b tb) (hm : behindInMarks .In b = false := by rfl) : PT X (.Compare a [.In] [b] pos) (tTest (tIn X.K ta tb)) :=
  pt_or (pt_cmp (pc_din hu ha hb) hm) (pt_cmpR op_inA ha hb hm)
theorem pt_notIn {X : Cx} {a b : Expr} {pos : Pos} {ta tb : TE} (hu : X.A.units + 1 < cLine) (ha : PE X a ta) (hb : PE X b tb) (hm : behindInMarks .NotIn b = false := by rfl) : PT X (.Compare a [.NotIn] [b] pos) (tTest (tNotIn X.K ta tb)) :=
  pt_or (pt_cmp (pc_dnotin hu ha hb) hm) (pt_cmpR op_notInA ha hb hm)
/-! ### name = {..}, a comprehension, the name a local -/
section
variable {X : Cx}
theorem sw_trueD {kx vx : Expr} {gs : List Comprehension} {scope : Scope} {pos py : Pos} {y : Str} {l : Nat} {env : Env} (hk : env.scope.kind = .function) (hy : env.scope.names.lookup y = some .local) (hl : (py.line == pos.line) = true)
    (ha : (scope.names.any fun (n, k) => n == y && (k == .local || k == .cell)) = false) : swapsWith (.DictComp kx vx gs scope pos) (some (.Name y py)) l env = pure true := by
  have ky : env.kindOf y = some .local := hy
  have hb : env.blockKind = .function := by unfold Env.blockKind; rw [hk]; rfl
  unfold swapsWith
  simp only [hb, ky, ha, Expr.pos, hl]
  rfl
theorem ps_setDc {i : Nat} {y : Str} {py : Pos} {kx vx tg iter : Expr} {ifs : List Expr} {scope : Scope} {own : List (Str × Nat)} {pos spos : Pos} {wi : TI} {g : TG} {tt : TT} {tk tv : TE} (hc : X.calm = true) (hN : X.N.Nodup) (hy : X.N[i]? = some y) (hyl : X.env.scope.names.lookup y = some .local)
    (hsw : swapsWith (.DictComp kx vx [⟨tg, iter, ifs, 0⟩] scope pos) (some (.Name y py)) spos.line X.env = pure true) (hi : PI X tg iter wi) (ok : BlkOk X.N X.env.scope scope own)
    (hg : ∀ (s : Shared) (H : Hp) (C : Addr) (cl : List (Str × Addr)) (fp : List Addr), PG (X.blk s H scope (compEnvC scope cl C X.env) fp) tg g) (ht : ∀ (s : Shared) (H : Hp) (C : Addr) (cl : List (Str × Addr)) (fp : List Addr), PTs (X.blk s H scope (compEnvC scope cl C X.env) fp) ifs tt)
    (hk : ∀ (s : Shared) (H : Hp) (C : Addr) (cl : List (Str × Addr)) (fp : List Addr), PE (X.blk s H scope (compEnvC scope cl C X.env) fp) kx tk)
    (he : ∀ (s : Shared) (H : Hp) (C : Addr) (cl : List (Str × Addr)) (fp : List Addr), PE (X.blk s H scope (compEnvC scope cl C X.env) fp) vx tv) (hs : ∀ x, foldedSetIterable iter X.env x = pure x := by intro _; rfl) :
    PS X (.Assign [.Name y py] (.DictComp kx vx [⟨tg, iter, ifs, 0⟩] scope pos) spos) (tAsg (tDc wi g tt tk tv (own.map (·.2))) (gName i)) := by
  refine ⟨fun pins s σ H D I h => ?_⟩
  rw [exec_Assign_Name_used _ _ _ _ hsw]
  refine wpAny_bind (wpAny_standAt (wpAny_bind ?_))
  show wpAny _ X.A (do let _ ← comprehension (.DictComp kx vx [⟨tg, iter, ifs, 0⟩] scope pos) scope X.env (firstIterPos [⟨tg, iter, ifs, 0⟩] pos) newDict false (eval iter X.env) (some (assign (.Name y py) X.env))) _ _ s
  have h : tDc wi g tt tk tv (own.map (·.2)) σ H (fun x H1 => gName i x σ H1 D.nx) := h
  refine wpAny_bind (thn (dc_core (Qf := fun _ s' => SP X pins D .next s') hc hN I hi ok hg ht hk he hs h fun L C s' m H' I' q hn f => ?_) fun _ s' hq => wpAny_pure (wpAny_pure hq))
  show wpAny _ _ (assign (.Name y py) X.env (.ref L)) _ _ _
  refine wpAny_assign_Name (store_ok2 (v := V.ref L) I' hN hy (.inl hyl) rfl (fun s2 I2 ⟨a, sb, ha⟩ => ?_) (.inr hyl))
  obtain ⟨f0, f1, f2, f3, f4, f5⟩ := f
  have haC : C ≠ a := by
    rcases ha with z | z
    · rw [z]; exact f1
    · exact fun e => f4 y a z e.symm
  refine ⟨m, hn.sameBut sb haC, fun h3 sb3 => ?_⟩
  exact ⟨_, H', I2.turned (t' := s2.toks) (fun b o hb e => (sb3.2 b hb).trans e) f0 f1 f3 f4 f5, q⟩
end
end MD

set_option Elab.async false
set_option linter.all false
set_option maxRecDepth 100000
set_option maxHeartbeats 1000000
namespace MD
open PySem PySem.Spec PyProof.Rows L2

/-! ### == with an empty list or tuple, whatever the other holds -/
def emE : D → D → Option Bool
  | .lst ds, .lst [] => some ds.isEmpty
  | .tup ds, .tup [] => some ds.isEmpty
  | _, _ => none
def eqN (d e : D) : Option D := (eqM d e).orElse fun _ => (emE d e).map D.bl
def neN (d e : D) : Option D := (neM d e).orElse fun _ => (emE d e).map fun b => D.bl (!b)
def Emp (K : Fg) (x y : V) (H : Hp) (b : Bool) : Prop :=
  ∃ a c xs, x = .ref a ∧ y = .ref c ∧ b = List.isEmpty xs ∧ ((SqL K H a xs ∧ SqL K H c []) ∨ (SqT K H a xs ∧ SqT K H c []))
def rEqE (K : Fg) : R2 := fun x y H Q => ∃ b, Emp K x y H b ∧ Q (.bl b) H
def rNeE (K : Fg) : R2 := fun x y H Q => ∃ b, Emp K x y H b ∧ Q (.bl (!b)) H
theorem vals_nil {its : List Value} (r : Vals [] its) : its = [] := by cases r; rfl
theorem emp_at {X : Cx} {pins : List (Addr × Obj)} {σ : List (Option V)} {H : Hp} {s : Shared} (I : Inv X pins σ H s) (hu : X.A.units + 64 < cLine) {x y : V} {v u : Value} {b : Bool} (h : Emp X.K x y H b) (rx : RelV x v) (ry : RelV y u) :
    SeqAt.RcAt X.A s v u b ∧ SeqAt.RcNeAt X.A s v u (!b) := by
  obtain ⟨a, c, xs, rfl, rfl, rfl, hh⟩ := h
  cases rx
  cases ry
  have hu1 : X.A.units < cLine := by omega
  rcases hh with ⟨h1, h2⟩ | ⟨h1, h2⟩
  · obtain ⟨its, r1, ⟨o, n, ho, hc, _, hd⟩, _⟩ := I.list h1
    obtain ⟨its2, r2, ⟨o2, n2, ho2, hc2, _, hd2⟩, _⟩ := I.list h2
    cases vals_nil r2
    have l1 : s.heap.IsList a its.toArray := ⟨o, ho, hc, n, hd⟩
    have l2 : s.heap.IsList c #[] := ⟨o2, ho2, hc2, n2, hd2⟩
    have hl := r1.length
    cases xs with
    | nil =>
      cases vals_nil r1
      exact ⟨SeqAt.RcAt.lists (e := fun _ => true) l1 l2 rfl hu1 (fun j h1 _ => absurd h1 (by simp)), SeqAt.RcNeAt.lists (e := fun _ => true) l1 l2 rfl hu1 (fun j h1 _ => absurd h1 (by simp))⟩
    | cons x xs =>
      have hz : (its.toArray.size != (#[] : Array Value).size) = true := by
        simp at hl ⊢
        intro z
        rw [z] at hl
        simp at hl
      exact ⟨SeqAt.RcAt.lists_lengths l1 l2 hz hu1, SeqAt.RcNeAt.lists_lengths l1 l2 hz hu1⟩
  · obtain ⟨its, r1, ⟨o, ho, hc, n, hd⟩, _⟩ := I.tuple h1
    obtain ⟨its2, r2, ⟨o2, ho2, hc2, n2, hd2⟩, _⟩ := I.tuple h2
    cases vals_nil r2
    have l1 : s.heap.IsTuple a its.toArray := ⟨o, ho, hc, n, hd⟩
    have l2 : s.heap.IsTuple c #[] := ⟨o2, ho2, hc2, n2, hd2⟩
    have hl := r1.length
    have q1 := SeqAt.RcAt.tuples (e := fun _ => true) l1 l2 hu1 (fun j _ h2 => absurd h2 (by simp))
    have q2 := SeqAt.RcNeAt.tuples (e := fun _ => true) l1 l2 hu1 (fun j _ h2 => absurd h2 (by simp))
    have hb : ((List.range (min its.toArray.size (#[] : Array Value).size)).all (fun _ => true) && its.toArray.size == (#[] : Array Value).size) = xs.isEmpty := by
      cases xs with
      | nil => cases vals_nil r1; rfl
      | cons x xs =>
        have : its ≠ [] := fun z => by rw [z] at hl; simp at hl
        cases its with
        | nil => exact absurd rfl this
        | cons _ _ => simp
    rw [hb] at q1 q2
    exact ⟨q1, q2⟩
theorem op_eqE {X : Cx} (hu : X.A.units + 64 < cLine) : OpR X (compareOp .Eq) (rEqE X.K) := by
  intro pins s σ H x y v u Q I rx ry h
  obtain ⟨b, hb, q⟩ := h
  exact (emp_at I hu hb rx ry).1 X.prog X.w _ _ ⟨.bl b, H, I, rfl, q⟩
theorem op_neE {X : Cx} (hu : X.A.units + 64 < cLine) : OpR X (compareOp .NotEq) (rNeE X.K) := by
  intro pins s σ H x y v u Q I rx ry h
  obtain ⟨b, hb, q⟩ := h
  exact (emp_at I hu hb rx ry).2 X.prog X.w _ _ ⟨.bl (!b), H, I, rfl, q⟩
section
variable {K : Fg}
theorem emE_ok {dk : Dk} {F : Fz} {H : Hp} (s : Sb F H) {x y : V} {d e : D} {b : Bool} (rx : Rw K dk F H x d) (ry : Rw K dk F H y e) (h : emE d e = some b) : Emp K x y H b := by
  unfold emE at h
  split at h
  · cases h
    obtain ⟨p, vs, rfl, h1, r1⟩ := rx.l s
    obtain ⟨q, us, rfl, h2, r2⟩ := ry.l s
    cases r2
    refine ⟨p, q, vs, rfl, rfl, ?_, .inl ⟨SqL.of h1, SqL.of h2⟩⟩
    cases r1 <;> rfl
  · cases h
    obtain ⟨p, vs, rfl, h1, r1⟩ := rx.tup s
    obtain ⟨q, us, rfl, h2, r2⟩ := ry.tup s
    cases r2
    refine ⟨p, q, vs, rfl, rfl, ?_, .inr ⟨h1, h2⟩⟩
    cases r1 <;> rfl
  · cases h
theorem ro_eqE : RO K (rEqE K) (fun d e => (emE d e).map D.bl) := by
  intro dk F H st x y d e z w rx ry hz Q q
  obtain ⟨b, hb, rfl⟩ := mpd hz
  exact ⟨b, emE_ok w.sub rx ry hb, q (.bl b) F H (Px.refl w.sub) (.bl b)⟩
theorem ro_neE : RO K (rNeE K) (fun d e => (emE d e).map fun b => D.bl (!b)) := by
  intro dk F H st x y d e z w rx ry hz Q q
  obtain ⟨b, hb, rfl⟩ := mpd hz
  exact ⟨b, emE_ok w.sub rx ry hb, q (.bl (!b)) F H (Px.refl w.sub) (.bl (!b))⟩
def rEqN (K : Fg) : R2 := fun x y H Q => rEqA K x y H Q ∨ rEqE K x y H Q
def rNeN (K : Fg) : R2 := fun x y H Q => rNeA K x y H Q ∨ rNeE K x y H Q
theorem ro_eqN : RO K (rEqN K) eqN := ro_eq.or ro_eqE
theorem ro_neN : RO K (rNeN K) neN := ro_ne.or ro_neE
end
theorem op_eqN {X : Cx} (hu : X.A.units + 64 < cLine) : OpR X (compareOp .Eq) (rEqN X.K) := OpR.or (op_eqA hu) (op_eqE hu)
theorem op_neN {X : Cx} (hu : X.A.units + 64 < cLine) : OpR X (compareOp .NotEq) (rNeN X.K) := OpR.or (op_neA hu) (op_neE hu)

/-! ### repr of data in which empty dicts lie -/
mutual
inductive Rds (h : Heap) : Value → PyData → Prop
  | none : Rds h .none .none
  | bool (b : Bool) : Rds h (.bool b) (.bool b)
  | int (i : Int) (t : Tok) : Rds h (.int i t) (.int i)
  | str (x : Str) (t : Tok) : Rds h (.str x t) (.str x)
  | list {a : Addr} {o : Obj} {vs : List Value} {n : Nat} {xs : List PyData} : h.get? a = some o → o.cls = .type "list" → o.data = .seq vs.toArray n → RdsAll h vs xs → Rds h (.ref a) (.list xs)
  | tuple {a : Addr} {o : Obj} {vs : List Value} {n : Nat} {xs : List PyData} : h.get? a = some o → o.cls = .type "tuple" → o.data = .seq vs.toArray n → RdsAll h vs xs → Rds h (.ref a) (.tuple xs)
  | dict0 {a : Addr} {o : Obj} {n : Nat} : h.get? a = some o → o.cls = .type "dict" → o.data = .dict #[] n → (a == sysModules) = false → Rds h (.ref a) (.dict [])
inductive RdsAll (h : Heap) : List Value → List PyData → Prop
  | nil : RdsAll h [] []
  | cons {v : Value} {vs : List Value} {d : PyData} {ds : List PyData} : Rds h v d → RdsAll h vs ds → RdsAll h (v :: vs) (d :: ds)
end
mutual
theorem Rds.reads {h : Heap} : ∀ {v : Value} {d : PyData}, Rds h v d → ∃ as, Reads h v d as
  | _, _, .none => ⟨_, .none⟩
  | _, _, .bool b => ⟨_, .bool b⟩
  | _, _, .int i t => ⟨_, .int i t⟩
  | _, _, .str x t => ⟨_, .str x t⟩
  | _, _, .list h1 h2 h3 h4 => by
    obtain ⟨as, r⟩ := h4.reads
    exact ⟨_, .list h1 h2 h3 (by simpa using r)⟩
  | _, _, .tuple h1 h2 h3 h4 => by
    obtain ⟨as, r⟩ := h4.reads
    exact ⟨_, .tuple h1 h2 h3 (by simpa using r)⟩
  | _, _, .dict0 h1 h2 h3 _ => ⟨_, .dict (kvs := []) h1 h2 h3 .nil .nil⟩
theorem RdsAll.reads {h : Heap} : ∀ {vs : List Value} {ds : List PyData}, RdsAll h vs ds → ∃ as, ReadsAll h vs ds as
  | _, _, .nil => ⟨_, .nil⟩
  | _, _, .cons r rs => by
    obtain ⟨as, q⟩ := r.reads
    obtain ⟨bs, qs⟩ := rs.reads
    exact ⟨_, .cons q qs⟩
end
section
variable {prog : Program} {w : World} {h₀ : Heap}
mutual
theorem reprK_of {h₀ : Heap} : ∀ {v : Value} {d : PyData}, Rds h₀ v d → d.showable = true → d.shown.length ≤ sizeLine → ∃ bs, ReadAtMost h₀ d.depth bs ∧ ReprK prog w bs h₀ d.depth v d.shown
  | _, _, .none, _, _ => ⟨[], (fun _ h => nomatch h), by simp only [PyData.shown]; exact .of_is ReprIs.none _ _ _⟩
  | _, _, .bool b, _, _ => ⟨[], (fun _ h => nomatch h), by simp only [PyData.shown]; exact .of_is (ReprIs.bool b) _ _ _⟩
  | _, _, .int i t, hs, _ => ⟨[], (fun _ h => nomatch h), by simp only [PyData.shown]; exact .of_is (ReprIs.int t (by simpa [PyData.showable] using hs)) _ _ _⟩
  | _, _, .str x t, _, hz => ⟨[], (fun _ h => nomatch h), by simp only [PyData.shown]; exact .of_is (ReprIs.str x t (by simpa only [PyData.shown] using hz)) _ _ _⟩
  | _, _, .list (a := a) (vs := vs) (xs := xs) h1 h2 h3 h4, hs, hz => by
    have hz' : (listText (PyData.shownAll xs)).length ≤ sizeLine := by simpa only [PyData.shown] using hz
    obtain ⟨bs, hb, hk⟩ := reprAllK_of h4 (by simpa [PyData.showable] using hs) (fun t ht => Nat.le_trans (listText_mem_le ht) hz')
    obtain ⟨as, r⟩ := (Rds.list h1 h2 h3 h4).reads
    have hna : a ∉ bs := not_mem_of_deeper r (by simp only [PyData.depth]; omega) hb
    refine ⟨a :: bs, ReadAtMost.cons r (by simp only [PyData.depth]; omega) hb, ?_⟩
    simp only [PyData.depth, PyData.shown]
    cases h4 with
    | nil =>
      simp only [PyData.shownAll, listText_nil]
      exact ReprK.listEmpty h1 h2 h3
    | cons q qs => exact ReprK.list h1 h2 h3 hna (by simpa using hk.length_eq) (fun i y e => hk.item i y (by simpa using e))
  | _, _, .tuple (a := a) (xs := xs) h1 h2 h3 h4, hs, hz => by
    have hz' : (tupleText (PyData.shownAll xs)).length ≤ sizeLine := by simpa only [PyData.shown] using hz
    obtain ⟨bs, hb, hk⟩ := reprAllK_of h4 (by simpa [PyData.showable] using hs) (fun t ht => Nat.le_trans (tupleText_mem_le ht) hz')
    obtain ⟨as, r⟩ := (Rds.tuple h1 h2 h3 h4).reads
    have hna : a ∉ bs := not_mem_of_deeper r (by simp only [PyData.depth]; omega) hb
    refine ⟨a :: bs, ReadAtMost.cons r (by simp only [PyData.depth]; omega) hb, ?_⟩
    simp only [PyData.depth, PyData.shown]
    exact ReprK.tuple h1 h2 h3 hna (by simpa using hk)
  | _, _, .dict0 (a := a) h1 h2 h3 hsys, _, _ => by
    obtain ⟨as, r⟩ := (Rds.dict0 h1 h2 h3 hsys).reads
    refine ⟨a :: [], ReadAtMost.cons (n := 0) r (Nat.zero_le _) (fun _ h => nomatch h), ?_⟩
    have := ReprK.dict (prog := prog) (w := w) (as := []) (d := 0) (ps := []) h1 h2 h3 hsys (fun h => nomatch h) .nil
    simpa [PyData.depth, PyData.depthKv, PyData.shown, PyData.shownKv] using this
theorem reprAllK_of {h₀ : Heap} : ∀ {vs : List Value} {ds : List PyData}, RdsAll h₀ vs ds → PyData.showableAll ds = true → (∀ t ∈ PyData.shownAll ds, t.length ≤ sizeLine) →
    ∃ bs, ReadAtMost h₀ (PyData.depthAll ds) bs ∧ ReprAllK prog w bs h₀ (PyData.depthAll ds) vs (PyData.shownAll ds)
  | _, _, .nil, _, _ => ⟨[], (fun _ h => nomatch h), by simp only [PyData.shownAll]; exact .nil⟩
  | _, _, .cons (d := d) (ds := ds) r rs, hs, hz => by
    have hs' : d.showable = true ∧ PyData.showableAll ds = true := by simpa [PyData.showableAll] using hs
    obtain ⟨b1, hb1, k1⟩ := reprK_of r hs'.1 (hz _ (by simp only [PyData.shownAll]; exact List.mem_cons_self ..))
    obtain ⟨b2, hb2, k2⟩ := reprAllK_of rs hs'.2 (fun t ht => hz t (by simp only [PyData.shownAll]; exact List.mem_cons_of_mem _ ht))
    refine ⟨b1 ++ b2, ?_, ?_⟩
    · simp only [PyData.depthAll]
      exact (hb1.mono (Nat.le_max_left _ _)).append (hb2.mono (Nat.le_max_right _ _))
    · simp only [PyData.depthAll, PyData.shownAll]
      exact .cons ((k1.more fun b hb => List.mem_append_left _ hb).level_le (Nat.le_max_left _ _)) (k2.more_le (fun b hb => List.mem_append_right _ hb) (Nat.le_max_right _ _))
end
theorem showsBy_of {a : Addr} {d : PyData} (r : Rds h₀ (.ref a) d) (hs : d.showable = true) (hz : d.shown.length ≤ sizeLine) : ∃ T idr, ShowsBy prog w h₀ a d T idr := by
  cases r with
  | @list _ o vs n xs h1 h2 h3 h4 =>
    have hz' : (listText (PyData.shownAll xs)).length ≤ sizeLine := by simpa only [PyData.shown] using hz
    obtain ⟨bs, hb, hk⟩ := reprAllK_of (prog := prog) (w := w) h4 (by simpa [PyData.showable] using hs) (fun t ht => Nat.le_trans (listText_mem_le ht) hz')
    obtain ⟨as, r⟩ := (Rds.list h1 h2 h3 h4).reads
    have hna : a ∉ bs := not_mem_of_deeper r (by simp only [PyData.depth]; omega) hb
    refine ⟨"list", "list.__repr__", F.slot_list_repr.toG, F.slot_list_str, F.slot_list_format, fun s hk0 => ⟨o, hk0 _ _ h1, h2⟩, fun A E s Q hg hu hk0 hQ => ?_⟩
    simp only [PyData.depth] at hu
    simp only [PyData.shown] at hQ
    cases h4 with
    | nil =>
      simp only [PyData.shownAll, listText_nil] at hQ
      exact call_list_repr_empty ⟨o, hk0 _ _ h1, h2⟩ (hk0 _ _ h1) h3 (hQ s.heap _ _ fun _ _ e => e)
    | cons q qs => exact call_list_reprK h1 h2 h3 hna (by simpa using hk.length_eq) (fun i y e => hk.item i y (by simpa using e)) hg (fun b _ => Clear.nil b) hu hk0 hQ hz'
  | @tuple _ o vs n xs h1 h2 h3 h4 =>
    have hz' : (tupleText (PyData.shownAll xs)).length ≤ sizeLine := by simpa only [PyData.shown] using hz
    obtain ⟨bs, hb, hk⟩ := reprAllK_of (prog := prog) (w := w) h4 (by simpa [PyData.showable] using hs) (fun t ht => Nat.le_trans (tupleText_mem_le ht) hz')
    obtain ⟨as, r⟩ := (Rds.tuple h1 h2 h3 h4).reads
    have hna : a ∉ bs := not_mem_of_deeper r (by simp only [PyData.depth]; omega) hb
    refine ⟨"tuple", "tuple.__repr__", F.slot_tuple_repr, F.slot_tuple_str, F.slot_tuple_format, fun s hk0 => ⟨o, hk0 _ _ h1, h2⟩, fun A E s Q hg hu hk0 hQ => ?_⟩
    simp only [PyData.depth] at hu
    simp only [PyData.shown] at hQ
    exact call_tuple_reprK h1 h2 h3 hna (by simpa using hk) hg (fun b _ => Clear.nil b) hu hk0 hQ hz'
  | @dict0 _ o n h1 h2 h3 hsys =>
    refine ⟨"dict", "dict.__repr__", F.slot_dict_repr, F.slot_dict_str, F.slot_dict_format, fun s hk0 => ⟨o, hk0 _ _ h1, h2⟩, fun A E s Q hg hu hk0 hQ => ?_⟩
    simp only [PyData.depth, PyData.depthKv] at hu
    simp only [PyData.shown, PyData.shownKv] at hQ
    have hz' : (dictText []).length ≤ sizeLine := by simpa only [PyData.shown, PyData.shownKv] using hz
    exact call_dict_reprK (as := []) (d := 0) (ps := []) h1 h2 h3 hsys (fun h => nomatch h) .nil hg (fun b _ => Clear.nil b) hu hk0 hQ hz'
theorem repr_of_rds {a : Addr} {d : PyData} {A : Around} {E : Value → Shared → Prop} {s : Shared} {Q : Value → Shared → Prop} (r : Rds s.heap (.ref a) d) (hs : d.showable = true) (hg : A.guards = some []) (hu : A.units + (d.depth + 1) < cLine)
    (hQ : ∀ h' u tk, (∀ b o, s.heap.get? b = some o → h'.get? b = some o) → Q (.str d.shown u) { s with heap := h', toks := tk })
    (hz : d.shown.length ≤ sizeLine) : wpAny (model prog w) A (call (.builtin "repr") [.ref a]) Q E s := by
  obtain ⟨T, idr, S⟩ := showsBy_of (prog := prog) (w := w) r hs hz
  exact call_repr_slot (by omega) (S.typeIs s fun _ _ e => e) S.slotRepr (S.call A.in1 E s _ hg (by show A.units + 1 + d.depth < cLine; omega) (fun _ _ e => e) fun h' u tk hk => ⟨_, _, rfl, hQ h' u tk hk⟩)
end
/-! data of values, empty dicts among them -/
mutual
inductive Dq (K : Fg) (H : Hp) : V → PyData → Prop
  | non : Dq K H .non .none
  | bl (b : Bool) : Dq K H (.bl b) (.bool b)
  | int (i : Int) : Dq K H (.int i) (.int i)
  | str (x : Str) : Dq K H (.str x) (.str x)
  | lst {a : Addr} {xs : List V} {ds : List PyData} : SqL K H a xs → DqAll K H xs ds → Dq K H (.ref a) (.list ds)
  | tup {a : Addr} {xs : List V} {ds : List PyData} : SqT K H a xs → DqAll K H xs ds → Dq K H (.ref a) (.tuple ds)
  | dic {a : Addr} : Rd H a (.dK []) → Dq K H (.ref a) (.dict [])
inductive DqAll (K : Fg) (H : Hp) : List V → List PyData → Prop
  | nil : DqAll K H [] []
  | cons {v : V} {vs : List V} {d : PyData} {ds : List PyData} : Dq K H v d → DqAll K H vs ds → DqAll K H (v :: vs) (d :: ds)
end
section
variable {X : Cx} {pins : List (Addr × Obj)} {σ : List (Option V)} {H : Hp} {s : Shared}
mutual
theorem Dq.rds (I : Inv X pins σ H s) : ∀ {v : V} {d : PyData} {u : Value}, Dq X.K H v d → RelV v u → Rds s.heap u d
  | _, _, _, .non, r => by cases r; exact .none
  | _, _, _, .bl b, r => by cases r; exact .bool b
  | _, _, _, .int i, r => by obtain ⟨t, rfl⟩ := r; exact .int i t
  | _, _, _, .str x, r => by obtain ⟨t, rfl⟩ := r; exact .str x t
  | _, _, _, .lst h1 h2, r => by
    cases r
    obtain ⟨its, rv, ⟨o, n, ho, hc, _, hd⟩, _⟩ := I.list h1
    exact .list ho hc hd (DqAll.rds I h2 rv)
  | _, _, _, .tup h1 h2, r => by
    cases r
    obtain ⟨its, rv, ⟨o, ho, hc, n, hd⟩, _⟩ := I.tuple h1
    exact .tuple ho hc hd (DqAll.rds I h2 rv)
  | _, _, _, .dic h, r => by
    cases r
    obtain ⟨_, hs, vs, kv, o, es, ep, ho, hx, hd, _, hp, _⟩ := dk_rd I.hok h
    cases kv
    have he : es = #[] := by
      have := hp.length
      apply Array.eq_empty_of_size_eq_zero
      simpa using this
    subst he
    exact .dict0 ho hx.1 hd hs
theorem DqAll.rds (I : Inv X pins σ H s) : ∀ {vs : List V} {ds : List PyData} {us : List Value}, DqAll X.K H vs ds → Vals vs us → RdsAll s.heap us ds
  | _, _, _, .nil, r => by cases r; exact .nil
  | _, _, _, .cons h1 h2, r => by
    cases r with
    | cons r1 r2 => exact .cons (Dq.rds I h1 r1) (DqAll.rds I h2 r2)
end
end
def rReprQ (K : Fg) : List V → Hp → VK → Prop := fun xs H Q => ∃ x d, xs = [x] ∧ Dq K H x d ∧ d.showable = true ∧ d.depth ≤ 60 ∧ d.shown.length ≤ sizeLine ∧ Q (.str d.shown) H
theorem call_reprQ {X : Cx} (hg : X.A.guards = some []) (hu : X.A.units + 64 < cLine) : CallR X (.builtin "repr") (rReprQ X.K) := by
  intro pins s σ H xs us Q I rs h
  obtain ⟨x, d, rfl, hd, hs, hdp, hz, q⟩ := h
  obtain ⟨u, rfl, rx⟩ := vals1 rs
  have hr := Dq.rds I hd rx
  cases id hd with
  | non => cases rx; exact PySem.P.repr_of_none ⟨.str _, H, I.tok _, ⟨_, rfl⟩, q⟩
  | bl b => cases rx; exact PySem.P.repr_of_bool ⟨.str _, H, I.tok _, ⟨_, rfl⟩, q⟩
  | int i =>
    obtain ⟨t, rfl⟩ := rx
    exact PySem.P.repr_of_int (by simpa [PyData.showable] using hs) ⟨.str _, H, I.tok _, ⟨_, rfl⟩, q⟩
  | str y =>
    obtain ⟨t, rfl⟩ := rx
    exact PySem.P.repr_of_str ⟨.str _, H, I.tok _, ⟨_, rfl⟩, q⟩ hz
  | lst h1 h2 =>
    cases rx
    exact repr_of_rds hr hs hg (by omega) (fun h' u tk hk => ⟨.str _, H, I.kept hk, ⟨_, rfl⟩, q⟩) hz
  | tup h1 h2 =>
    cases rx
    exact repr_of_rds hr hs hg (by omega) (fun h' u tk hk => ⟨.str _, H, I.kept hk, ⟨_, rfl⟩, q⟩) hz
  | dic h1 =>
    cases rx
    exact repr_of_rds hr hs hg (by omega) (fun h' u tk hk => ⟨.str _, H, I.kept hk, ⟨_, rfl⟩, q⟩) hz
mutual
def D.qy : D → PyData
  | .non => .none
  | .bl b => .bool b
  | .int i => .int i
  | .str s => .str s
  | .lst xs => .list (qyAll xs)
  | .tup xs => .tuple (qyAll xs)
  | .deck => .none
  | .dic _ _ => .dict []
  | .ref _ => .none
def qyAll : List D → List PyData
  | [] => []
  | x :: xs => D.qy x :: qyAll xs
end
mutual
def D.ql : D → Bool
  | .lst xs => qlAll xs
  | .tup xs => qlAll xs
  | .deck => false
  | .dic ks ds => ks.isEmpty && ds.isEmpty
  | .ref _ => false
  | .non => true
  | .bl _ => true
  | .int _ => true
  | .str _ => true
def qlAll : List D → Bool
  | [] => true
  | x :: xs => D.ql x && qlAll xs
end
section
variable {K : Fg} {dk : Dk} {F : Fz} {H : Hp}
mutual
theorem Rp.dq (le : Sb F H) : ∀ {v : V} {d : D}, Rp K dk F v d → d.ql = true → Dq K H v d.qy
  | _, _, .non, _ => .non
  | _, _, .bl b, _ => .bl b
  | _, _, .int i, _ => .int i
  | _, _, .str x, _ => .str x
  | _, _, .lst h r, p => .lst (SqL.of (le.lst h)) (Rps.dq le r (by simpa [D.ql] using p))
  | _, _, .tup h r, p => .tup (le.sqT h) (Rps.dq le r (by simpa [D.ql] using p))
  | _, _, .deck, p => by simp [D.ql] at p
  | _, _, .dic (ks := ks) h hl r, p => by
    have p' : ks = [] := by
      simp [D.ql] at p
      exact p.1
    subst p'
    exact .dic (le.dK h)
  | _, _, .ref _, p => by simp [D.ql] at p
theorem Rps.dq (le : Sb F H) : ∀ {vs : List V} {ds : List D}, Rps K dk F vs ds → qlAll ds = true → DqAll K H vs (qyAll ds)
  | _, _, .nil, _ => .nil
  | _, _, .cons a b, p => by
    simp only [qlAll, Bool.and_eq_true] at p
    exact .cons (Rp.dq le a p.1) (Rps.dq le b p.2)
end
theorem Rw.dq (le : Sb F H) {v : V} {d : D} (r : Rw K dk F H v d) (p : d.ql = true) : Dq K H v d.qy := by
  cases r with
  | rp r => exact r.dq le p
  | lst h r => exact .lst (SqL.of h) (r.dq le (by simpa [D.ql] using p))
  | dic h hl r =>
    rename_i ks _ _
    have p' : ks = [] := by
      simp [D.ql] at p
      exact p.1
    subst p'
    exact .dic h
end
def reprQ : List D → Option D
  | [d] => if d.ql && d.qy.showable && decide (d.qy.depth ≤ 60) && decide (d.qy.shown.length ≤ sizeLine) then some (.str d.qy.shown) else none
  | _ => none
theorem rc_reprQ {K : Fg} : RC K (rReprQ K) reprQ := by
  intro dk F H st vs ds z w rx hz Q q
  unfold reprQ at hz
  split at hz
  · split at hz
    · rename_i ho
      cases hz
      simp only [Bool.and_eq_true, decide_eq_true_eq] at ho
      obtain ⟨v, rfl, r⟩ := rx.one
      exact ⟨v, _, rfl, r.dq w.sub ho.1.1.1, ho.1.1.2, ho.1.2, ho.2, q _ F H (Px.refl w.sub) (.str _)⟩
    · cases hz
  · cases hz
end MD

set_option Elab.async false
set_option linter.all false
set_option maxRecDepth 100000
set_option maxHeartbeats 1000000
namespace MD
open PySem PySem.Spec PyProof.Rows L2

/-! ### dicts whose keys are nested tuples of numbers, bools and None -/
mutual
inductive Nk (K : Fg) (H : Hp) : NestedKey → V → Prop
  | non : Nk K H .none .non
  | bl (b : Bool) : Nk K H (.num (if b = true then 1 else 0)) (.bl b)
  | int (i : Int) : Nk K H (.num i) (.int i)
  | tup {a : Addr} {vs : List V} {ks : List NestedKey} : SqT K H a vs → Nks K H ks vs → Nk K H (.tup ks) (.ref a)
inductive Nks (K : Fg) (H : Hp) : List NestedKey → List V → Prop
  | nil : Nks K H [] []
  | cons {k : NestedKey} {v : V} {ks : List NestedKey} {vs : List V} : Nk K H k v → Nks K H ks vs → Nks K H (k :: ks) (v :: vs)
end
section
variable {X : Cx} {pins : List (Addr × Obj)} {σ : List (Option V)} {H : Hp} {s : Shared}
mutual
theorem Nk.is (I : Inv X pins σ H s) : ∀ {k : NestedKey} {v : V} {u : Value}, Nk X.K H k v → RelV v u → NestedIs s.heap k u
  | _, _, _, .non, r => by cases r; exact .none
  | _, _, _, .bl b, r => by cases r; exact .bool rfl
  | _, _, _, .int i, r => by obtain ⟨t, rfl⟩ := r; exact .int i t
  | _, _, _, .tup h1 h2, r => by
    cases r
    obtain ⟨its, rv, ⟨o, ho, hc, n, hd⟩, _⟩ := I.tuple h1
    exact .tup ho hc hd (by simpa using Nks.are I h2 rv)
theorem Nks.are (I : Inv X pins σ H s) : ∀ {ks : List NestedKey} {vs : List V} {us : List Value}, Nks X.K H ks vs → Vals vs us → NestedAll s.heap ks us
  | _, _, _, .nil, r => by cases r; exact .nil
  | _, _, _, .cons h1 h2, r => by
    cases r with
    | cons r1 r2 => exact .cons (Nk.is I h1 r1) (Nks.are I h2 r2)
end
end
section
variable {K : Fg} {H : Hp}
mutual
theorem Nk.hash : ∀ {k : NestedKey} {v : V}, Nk K H k v → ∀ w w' : World, k.hash w = k.hash w'
  | _, _, .non, _, _ => rfl
  | _, _, .bl _, _, _ => rfl
  | _, _, .int _, _, _ => rfl
  | _, _, .tup _ h2, w, w' => by
    show reduceHash (Builtin.Tuple.tupleHashOf (NestedKey.hashes w _)) = reduceHash (Builtin.Tuple.tupleHashOf (NestedKey.hashes w' _))
    rw [Nks.hashes h2 w w']
theorem Nks.hashes : ∀ {ks : List NestedKey} {vs : List V}, Nks K H ks vs → ∀ w w' : World, NestedKey.hashes w ks = NestedKey.hashes w' ks
  | _, _, .nil, _, _ => rfl
  | _, _, .cons h1 h2, w, w' => by
    show NestedKey.hash w _ :: NestedKey.hashes w _ = NestedKey.hash w' _ :: NestedKey.hashes w' _
    rw [Nk.hash h1 w w', Nks.hashes h2 w w']
end
variable {dk : Dk} {F : Fz}
mutual
theorem Rp.nk (le : Sb F H) : ∀ {v : V} {d : D} {k : NestedKey}, Rp K dk F v d → nkOf d = some k → Nk K H k v
  | _, _, _, .non, e => by cases e; exact .non
  | _, _, _, .bl b, e => by cases e; exact .bl b
  | _, _, _, .int i, e => by cases e; exact .int i
  | _, _, _, .str _, e => by cases e
  | _, _, _, .lst _ _, e => by cases e
  | _, _, _, .tup h r, e => by
    obtain ⟨ks, e1, e2⟩ := mpd (show (nksOf _).map NestedKey.tup = some _ from e)
    cases e2
    exact .tup (le.sqT h) (Rps.nks le r e1)
  | _, _, _, .deck, e => by cases e
  | _, _, _, .dic _ _ _, e => by cases e
  | _, _, _, .ref _, e => by cases e
theorem Rps.nks (le : Sb F H) : ∀ {vs : List V} {ds : List D} {ks : List NestedKey}, Rps K dk F vs ds → nksOf ds = some ks → Nks K H ks vs
  | _, _, _, .nil, e => by cases e; exact .nil
  | _, _, _, .cons a b, e => by
    obtain ⟨k, e1, e⟩ := bnd (show ((nkOf _).bind fun k => (nksOf _).map (k :: ·)) = some _ from e)
    obtain ⟨ks, e2, e3⟩ := mpd e
    cases e3
    exact .cons (Rp.nk le a e1) (Rps.nks le b e2)
end
end
abbrev Zs := List (NestedKey × Addr × Value)
structure NkD (K : Fg) (H : Hp) (c : Addr) (zs : Zs) : Prop where
  h : H c = some (.ext (NkAt c zs))
  k : ∀ z ∈ zs, Nk K H z.1 (.ref z.2.1) ∧ z.1.depth ≤ 8
  n : (zs.map fun z => z.1).Nodup
section
variable {X : Cx} {pins : List (Addr × Obj)} {σ : List (Option V)} {H : Hp} {s : Shared}
theorem NkD.dict {c : Addr} {zs : Zs} (d : NkD X.K H c zs) (I : Inv X pins σ H s) : s.heap.DictOfH (nestedKind X.prog X.w) c zs ∧ (c == sysModules) = false ∧ zs.length ≤ sizeLine := by
  obtain ⟨⟨h1, h2, o, es, ep, ho, hx, hd, he⟩, _, _⟩ := I.hok c _ d.h
  exact ⟨⟨o, es, ep, ho, hx, hd, he X.w, fun z hz => ⟨Nk.is I (d.k z hz).1 rfl, (d.k z hz).2⟩, d.n⟩, h1, h2⟩
theorem nk_ok {P : Program} {w : World} {H' : Hp} {h' : Heap} {c : Addr} {zs : Zs} (hc : (c == sysModules) = false) (hl : zs.length ≤ sizeLine) (hw : ∀ z ∈ zs, ∀ w' : World, z.1.hash w' = z.1.hash w) (hd : h'.DictOfH (nestedKind P w) c zs) :
    ObjOk P w H' h' c (.ext (NkAt c zs)) := by
  obtain ⟨o, es, ep, ho, hx, hd, he, _, _⟩ := hd
  have hN : NkAt c zs h' := ⟨hc, hl, o, es, ep, ho, hx, hd, fun w' => by
    rw [he]
    refine List.map_congr_left fun z hz => ?_
    show (⟨z.1.hash w, .ref z.2.1, z.2.2⟩ : DictEntry) = ⟨z.1.hash w', .ref z.2.1, z.2.2⟩
    rw [hw z hz w']⟩
  refine ⟨hN, ⟨o, ho⟩, fun h1 h2 q e => ?_⟩
  obtain ⟨q1, q2, o', es', ep', q3, q4, q5, q6⟩ := q
  exact ⟨q1, q2, o', es', ep', e _ q3, q4, q5, q6⟩
end
/-! ### k in d, k not in d -/
def rNkIn (K : Fg) (neg : Bool) : R2 := fun x y H Q => ∃ b c k zs, x = .ref b ∧ y = .ref c ∧ Nk K H k (.ref b) ∧ k.depth ≤ 8 ∧ NkD K H c zs ∧ Q (.bl (if neg = true then !(atKey zs k).isSome else (atKey zs k).isSome)) H
theorem room_nk {X : Cx} (hu : X.A.units + 64 < cLine) : (nestedKind X.prog X.w).room X.A.in1 := by
  show X.A.units + 1 + 8 < cLine
  omega
theorem op_nkIn {X : Cx} (hu : X.A.units + 64 < cLine) : OpR X (compareOp .In) (rNkIn X.K false) := by
  intro pins s σ H x y v u Q I rx ry h
  obtain ⟨b, c, k, zs, rfl, rfl, hk, hd, dd, q⟩ := h
  cases rx
  cases ry
  obtain ⟨d1, d2, d3⟩ := dd.dict I
  exact wpAny_in_heap (room_nk hu) ⟨Nk.is I hk rfl, hd⟩ d2 d1 ⟨.bl _, H, I.tok _, rfl, q⟩
theorem op_nkNotIn {X : Cx} (hu : X.A.units + 64 < cLine) : OpR X (compareOp .NotIn) (rNkIn X.K true) := by
  intro pins s σ H x y v u Q I rx ry h
  obtain ⟨b, c, k, zs, rfl, rfl, hk, hd, dd, q⟩ := h
  cases rx
  cases ry
  obtain ⟨d1, d2, d3⟩ := dd.dict I
  refine notIn_keyed (knd := nestedKind X.prog X.w) (kvs := pairsH zs) (room_nk hu) ⟨Nk.is I hk rfl, hd⟩ d2 ⟨zs, d1, rfl⟩ ?_
  rw [valueAt_pairsH, Option.isSome_map]
  exact ⟨.bl _, H, I.tok _, rfl, q⟩
/-! ### d[k] -/
def rNkGet (K : Fg) : R2 := fun x y H Q => ∃ b c k zs p, x = .ref c ∧ y = .ref b ∧ Nk K H k (.ref b) ∧ k.depth ≤ 8 ∧ NkD K H c zs ∧ atKey zs k = some p ∧ ∀ v, RelV v p.2 → Q v H
/-! ### d[k] = v -/
def sNPut (K : Fg) (td ty tv : TE) : TS := fun D σ H => tv σ H fun v H1 => td σ H1 fun x H2 => ty σ H2 fun y H3 =>
  ∃ b c k zs, x = .ref c ∧ y = .ref b ∧ Nk K H3 k (.ref b) ∧ k.depth ≤ 8 ∧ NkD K H3 c zs ∧ zs.length < sizeLine ∧ ∀ u, RelV v u → D.nx σ (upd H3 c (.ext (NkAt c (storedH zs k b u))))
theorem stored_len (zs : Zs) (k : NestedKey) (b : Addr) (u : Value) : (storedH zs k b u).length ≤ zs.length + 1 := by
  unfold storedH
  split <;> simp
theorem stored_mem {zs : Zs} {k : NestedKey} {b : Addr} {u : Value} {z : NestedKey × Addr × Value} (h : z ∈ storedH zs k b u) : (∃ y ∈ zs, z.1 = y.1 ∧ z.2.1 = y.2.1) ∨ (z.1 = k ∧ z.2.1 = b) := by
  unfold storedH at h
  split at h
  · obtain ⟨y, hy, rfl⟩ := List.mem_map.mp h
    refine .inl ⟨y, hy, ?_⟩
    unfold putAt
    split <;> exact ⟨rfl, rfl⟩
  · rcases List.mem_append.mp h with h | h
    · exact .inl ⟨z, h, rfl, rfl⟩
    · rw [List.mem_singleton.mp h]; exact .inr ⟨rfl, rfl⟩
theorem stored_nodup {zs : Zs} (h : (zs.map fun z => z.1).Nodup) (k : NestedKey) (b : Addr) (u : Value) : ((storedH zs k b u).map fun z => z.1).Nodup := by
  unfold storedH
  split
  · rw [keys_map_putAt]; exact h
  · rename_i hn
    rw [List.map_append, List.nodup_append]
    refine ⟨h, by simp, fun a ha c hc e => hn ?_⟩
    have hc' : c = k := by simpa using hc
    obtain ⟨y, hy, hy1⟩ := List.mem_map.mp ha
    unfold atKey
    rw [Option.isSome_map, List.find?_isSome]
    exact ⟨y, hy, decide_eq_true (by rw [hy1, e, hc'])⟩
section
variable {X : Cx} {o i e value : Expr} {pos pos' tpos : Pos} {td ty tv : TE}
theorem ps_nput (hu : X.A.units + 64 < cLine) (ho : PE X o td) (hi : PE X i ty) (hv : PE X value tv) (hs : swapsWith value (some (.Subscript o i pos')) pos.line X.env = pure false) :
    PS X (.Assign [.Subscript o i pos'] value pos) (sNPut X.K td ty tv) := by
  refine ⟨fun pins s σ H D I h => ?_⟩
  refine wpAny_Assign_Subscript (thn (hv.run pins s σ H _ I h) fun r s1 ⟨v, H1, I1, rv, q1⟩ => thn (ho.run pins s1 σ H1 _ I1 q1) fun u s2 ⟨x, H2, I2, rx, q2⟩ => thn (hi.run pins s2 σ H2 _ I2 q2) fun iv s3 ⟨y, H3, I3, ry, b, c, k, zs, ex, ey, hk, hd, dd, hl, q3⟩ => ?_) hs
  subst ex ey
  obtain rfl : u = Value.ref c := rx
  obtain rfl : iv = Value.ref b := ry
  obtain ⟨d1, d2, d3⟩ := dd.dict I3
  refine wpAny_setItem_heap (hsz := d3) (room_nk hu) ⟨Nk.is I3 hk rfl, hd⟩ d1 fun h' dd' hsb => ⟨σ, _, ?_, q3 _ rv⟩
  have he : ∃ q, h'.get? c = some q := let ⟨q, _, _, hq, _⟩ := dd'; ⟨q, hq⟩
  refine d_write I3 (by rw [dd.h]; exact True.intro) hsb he (nk_ok d2 (by have := stored_len zs k b r; omega) (fun z hz w' => ?_) dd')
  rcases stored_mem hz with ⟨y, hy, e1, _⟩ | ⟨e1, _⟩
  · rw [e1]; exact Nk.hash (dd.k y hy).1 _ _
  · rw [e1]; exact Nk.hash hk _ _
/-! ### {k: v} -/
def tDispN (K : Fg) (tk tv : TE) : TE := fun σ H Q => ∀ p, H p = none → tk σ (upd H p (.ext (NkAt p []))) fun x H1 => tv σ H1 fun y H2 =>
  H2 p = some (.ext (NkAt p [])) ∧ ∃ b k, x = .ref b ∧ Nk K H2 k (.ref b) ∧ k.depth ≤ 8 ∧ ∀ u, RelV y u → Q (.ref p) (upd H2 p (.ext (NkAt p [(k, b, u)])))
theorem pe_dispN {ke ve : Expr} {tk tv : TE} (hu : X.A.units + 64 < cLine) (hk : PE X ke tk) (hv : PE X ve tv) : PE X (.Dict [some ke] [ve] pos) (tDispN X.K tk tv) := by
  refine ⟨fun pins s σ H Q I q => ?_⟩
  have hn := I.hok.fresh (Nat.le_refl s.heap.objs.size)
  have hb := I.big
  have hsys : (s.heap.objs.size == sysModules) = false := (dk_empty (P := X.prog) (w := X.w) (H := H) s.heap I.big).2.1
  have I1 := I.laid (a := s.heap.objs.size) (o := .ext (NkAt s.heap.objs.size [])) (h' := s.heap.push { cls := .type "dict", data := .dict #[] }) (t' := s.toks) (fun _ _ q => Heap.get?_push_of_some _ q) (Nat.le_refl _)
    (nk_ok hsys (Nat.zero_le _) (fun _ h => nomatch h) (Heap.DictOfH.new (knd := nestedKind X.prog X.w) s.heap))
  refine wpAny_Dict_any rfl rfl (by simp) (by simp) (thn ((pps_cons hk hv pps_nil).run pins _ σ _ (fun ps H2 => match ps with
    | [(x, y)] => H2 s.heap.objs.size = some (.ext (NkAt s.heap.objs.size [])) ∧ ∃ b k, x = .ref b ∧ Nk X.K H2 k (.ref b) ∧ k.depth ≤ 8 ∧ ∀ u, RelV y u → Q (.ref s.heap.objs.size) (upd H2 s.heap.objs.size (.ext (NkAt s.heap.objs.size [(k, b, u)])))
    | _ => False) I1 (q _ hn)) fun ws s2 ⟨ps, H2, I2, rel, q2⟩ => ?_)
  match ps, ws, rel, q2 with
  | [], _, _, q2 => exact q2.elim
  | _ :: _ :: _, _, _, q2 => exact q2.elim
  | [(x, y)], _, .cons (b := (u, r)) ⟨rx, ry⟩ .nil, q2 =>
    obtain ⟨e, b, k, ex, nk, kd, q3⟩ := q2
    subst ex
    obtain rfl : u = Value.ref b := rx
    have dd : NkD X.K H2 s.heap.objs.size [] := ⟨e, (fun _ h => nomatch h), List.nodup_nil⟩
    obtain ⟨d1, d2, d3⟩ := dd.dict I2
    show wpAny _ _ (forIn [(Value.ref b, r)] PUnit.unit _) _ _ _
    rw [List.forIn_cons]
    have hr : (nestedKind X.prog X.w).room X.A := by show X.A.units + 8 < cLine; omega
    refine wpAny_bind (wpAny_bind (wpAny_dictSet_heap (hsz := d3) hr ⟨Nk.is I2 nk rfl, kd⟩ d1 fun h' dd' hsb => wpAny_pure ?_))
    refine wpAny_pure ⟨.ref s.heap.objs.size, _, ?_, rfl, q3 r ry⟩
    have he : ∃ q, h'.get? s.heap.objs.size = some q := let ⟨q, _, _, hq, _⟩ := dd'; ⟨q, hq⟩
    refine d_write I2 (by rw [e]; exact True.intro) hsb he (nk_ok (w := X.w) d2 (by rw [sizeLine_eq]; simp) (fun z hz w' => ?_) dd')
    rw [List.mem_singleton.mp hz]
    exact Nk.hash nk _ _
end
/-! ### the mirrors -/
def hasN (ks : List D) (k : NestedKey) : Bool := ks.any fun d => decide (nkOf d = some k)
def nkdAt (st : S) (n : Nat) : Option (List D × List D) := match st.ob[n]? with
  | some (.nkd ks ds) => some (ks, ds)
  | _ => none
def nkT : D → Option NestedKey
  | .tup ds => nkOf (.tup ds)
  | _ => none
theorem nkT_of {d : D} {k : NestedKey} (h : nkT d = some k) : nkOf d = some k := by
  cases d with
  | tup ds => exact h
  | _ => cases h
section
variable {K : Fg} {dk : Dk} {F : Fz} {H : Hp} {st : S}
theorem nkdAt_eq {n : Nat} {q : List D × List D} (h : nkdAt st n = some q) : st.ob[n]? = some (.nkd q.1 q.2) := by
  unfold nkdAt at h
  split at h
  · rename_i e; cases h; exact e
  · cases h
theorem Rp.nkT {v : V} {d : D} {k : NestedKey} (r : Rp K dk F v d) (le : Sb F H) (h : MD.nkT d = some k) : ∃ b, v = .ref b ∧ Nk K H k (.ref b) := by
  unfold MD.nkT at h
  split at h
  · have := Rp.nk le r h
    cases r with
    | tup _ _ => exact ⟨_, rfl, this⟩
  · cases h
theorem nk_keys (le : Sb F H) : ∀ {zs : Zs} {ks : List D}, Rps K dk F (zs.map fun z => V.ref z.2.1) ks → ks.map nkOf = zs.map (fun z => some z.1) → ∀ z ∈ zs, Nk K H z.1 (.ref z.2.1)
  | [], _, _, _, z, hz => nomatch hz
  | y :: zs, _, .cons a b, e, z, hz => by
    rw [List.map_cons, List.map_cons] at e
    injection e with e1 e2
    rcases List.mem_cons.mp hz with q | q
    · rw [q]; exact Rp.nk le a e1
    · exact nk_keys le b e2 z q
theorem Wd.nkdAt {n : Nat} {a : Addr} {q : List D × List D} (w : Wd K dk F H st) (hn : F.mu[n]? = some a) (h : MD.nkdAt st n = some q) :
    ∃ (zs : Zs) (vs : List V), NkD K H a zs ∧ Rps K dk F (zs.map fun z => V.ref z.2.1) q.1 ∧ q.1.map nkOf = zs.map (fun z => some z.1) ∧ Vals vs (zs.map fun z => z.2.2) ∧ Rps K dk F vs q.2 := by
  obtain ⟨_, o⟩ := w.ob n a _ hn (nkdAt_eq h)
  cases o with
  | nkd h1 h2 h3 h4 h5 h6 h7 => exact ⟨_, _, ⟨h1, fun z hz => ⟨nk_keys w.sub h2 h3 z hz, h7 z hz⟩, h6⟩, h2, h3, h4, h5⟩
theorem has_atKey : ∀ {zs : Zs} {ks : List D} (k : NestedKey), ks.map nkOf = zs.map (fun z => some z.1) → (atKey zs k).isSome = hasN ks k
  | [], [], k, _ => rfl
  | [], _ :: _, k, e => by cases e
  | _ :: _, [], k, e => by cases e
  | z :: zs, d :: ks, k, e => by
    rw [List.map_cons, List.map_cons] at e
    injection e with e1 e2
    have ih := has_atKey k e2
    unfold atKey hasN at *
    rw [List.find?_cons, List.any_cons, e1]
    by_cases h : z.1 = k
    · simp [h]
    · have h' : ¬ (some z.1 = some k) := fun q => h (Option.some.inj q)
      simp only [h, h', decide_false, Bool.false_or]
      exact ih
end
section
variable {K : Fg}
def ninM (neg : Bool) (fa fd : ME) : ME := fun env st => (fa env st).bind fun p => (fd env p.2).bind fun q => (refOf q.1).bind fun n => (nkdAt q.2 n).bind fun z => (nkT p.1).bind fun k => if k.depth ≤ 8 then some (.bl (if neg = true then !hasN z.1 k else hasN z.1 k), q.2) else none
theorem im_nin {neg : Bool} {ta td : TE} {fa fd : ME} (ha : Im K ta fa) (hd : Im K td fd) : Im K (tOp (rNkIn K neg) ta td) (ninM neg fa fd) := fun dk H0 F0 F σ H env st d st' g e Q q => by
  obtain ⟨⟨x, s1⟩, e1, e⟩ := bnd e
  obtain ⟨⟨y, s2⟩, e2, e⟩ := bnd e
  obtain ⟨n, e3, e⟩ := bnd e
  obtain ⟨z, e4, e⟩ := bnd e
  obtain ⟨k, e5, e⟩ := bnd e
  split at e
  · rename_i hk
    cases e
    refine ha dk H0 F0 F σ H env st x s1 g e1 _ fun v F1 H1 x1 g1 r1 => ?_
    refine hd dk H0 F0 F1 σ H1 env s1 y s2 g1 e2 _ fun u F2 H2 x2 g2 r2 => ?_
    have hy : y = .ref n := refOf_eq e3
    subst hy
    obtain ⟨a, rfl, han⟩ := r2.refn
    obtain ⟨zs, vs, dd, h2, h3, h4, h5⟩ := g2.wd.nkdAt han e4
    obtain ⟨b, rfl, nk⟩ := (r1.mono x2.f).nkT g2.wd.sub e5
    refine ⟨b, a, k, zs, rfl, rfl, nk, hk, dd, ?_⟩
    rw [has_atKey k h3]
    exact q (.bl _) F2 H2 (x1.trans x2) g2 (.bl _)
  · cases e
/-! d[k] = v -/
def putNK (ks : List D) (d : D) (k : NestedKey) : List D := if hasN ks k = true then ks else ks ++ [d]
def putNV (ks ds : List D) (k : NestedKey) (d : D) : List D := if hasN ks k = true then List.zipWith (fun x y => if nkOf x = some k then d else y) ks ds else ds ++ [d]
variable {dk : Dk} {F : Fz} {H : Hp}
theorem put_vals {k : NestedKey} {u : Value} {v : V} {d : D} (rv : RelV v u) (rd : Rp K dk F v d) : ∀ {zs : Zs} {ks ds : List D} {vs : List V}, ks.map nkOf = zs.map (fun z => some z.1) → Vals vs (zs.map fun z => z.2.2) → Rps K dk F vs ds →
    ∃ vs', Vals vs' ((zs.map (putAt k u)).map fun z => z.2.2) ∧ Rps K dk F vs' (List.zipWith (fun x y => if nkOf x = some k then d else y) ks ds)
  | [], [], _, _, _, r, rr => by
    cases r
    cases rr
    exact ⟨[], .nil, .nil⟩
  | [], _ :: _, _, _, e, _, _ => by cases e
  | _ :: _, [], _, _, e, _, _ => by cases e
  | z :: zs, x :: ks, _, v0 :: _, e, .cons a b, .cons c f => by
    rw [List.map_cons, List.map_cons] at e
    injection e with e1 e2
    obtain ⟨vs', h1, h2⟩ := put_vals rv rd e2 b f
    rw [List.map_cons, List.map_cons, List.zipWith_cons_cons]
    by_cases h : z.1 = k
    · refine ⟨v :: vs', .cons ?_ h1, .cons ?_ h2⟩
      · unfold putAt; rw [if_pos h]; exact rv
      · rw [e1, if_pos (by rw [h])]; exact rd
    · refine ⟨v0 :: vs', .cons ?_ h1, .cons ?_ h2⟩
      · unfold putAt; rw [if_neg h]; exact a
      · rw [e1, if_neg (fun q => h (Option.some.inj q))]; exact c
theorem put_refs (zs : Zs) (k : NestedKey) (u : Value) : ((zs.map (putAt k u)).map fun z => V.ref z.2.1) = zs.map fun z => V.ref z.2.1 := by
  rw [List.map_map]
  refine List.map_congr_left fun z _ => ?_
  show V.ref (putAt k u z).2.1 = _
  unfold putAt
  split <;> rfl
theorem put_obAt {a : Addr} {zs : Zs} {vs : List V} {ks ds : List D} {k : NestedKey} {b : Addr} {u : Value} {v : V} {d kd : D} (dd : NkD K H a zs) (h2 : Rps K dk F (zs.map fun z => V.ref z.2.1) ks) (h3 : ks.map nkOf = zs.map (fun z => some z.1)) (h4 : Vals vs (zs.map fun z => z.2.2)) (h5 : Rps K dk F vs ds)
    (hk : k.depth ≤ 8) (rk : Rp K dk F (.ref b) kd) (ek : nkOf kd = some k) (rv : RelV v u) (rd : Rp K dk F v d) :
    ObAt K dk F (upd H a (.ext (NkAt a (storedH zs k b u)))) a (.nkd (putNK ks kd k) (putNV ks ds k d)) := by
  have hh := has_atKey k h3
  have hn := stored_nodup dd.n k b u
  have hdp : ∀ z ∈ storedH zs k b u, z.1.depth ≤ 8 := fun z hz => by
    rcases stored_mem hz with ⟨y, hy, e1, _⟩ | ⟨e1, _⟩
    · rw [e1]; exact (dd.k y hy).2
    · rw [e1]; exact hk
  unfold putNK putNV
  cases hs : hasN ks k with
  | true =>
    have e : storedH zs k b u = zs.map (putAt k u) := by
      unfold storedH
      rw [if_pos (by rw [hh, hs])]
    rw [e] at hn hdp ⊢
    rw [if_pos rfl, if_pos rfl]
    obtain ⟨vs', h6, h7⟩ := put_vals (k := k) rv rd h3 h4 h5
    refine .nkd upd_same (by rw [put_refs]; exact h2) ?_ h6 h7 hn hdp
    rw [h3, List.map_map]
    refine List.map_congr_left fun z _ => ?_
    show some z.1 = some (putAt k u z).1
    unfold putAt
    split <;> rfl
  | false =>
    have e : storedH zs k b u = zs ++ [(k, b, u)] := by
      unfold storedH
      rw [if_neg (by rw [hh, hs]; simp)]
    rw [e] at hn hdp ⊢
    rw [if_neg (by simp), if_neg (by simp)]
    refine .nkd upd_same (by rw [List.map_append]; exact h2.append (Rps.one rk)) (by rw [List.map_append, List.map_append, h3]; simp [ek]) (by rw [List.map_append]; exact h4.append (.cons rv .nil)) (h5.append (Rps.one rd)) hn hdp
def nputM (fo fk fv : ME) : MS := fun env st => (fv env st).bind fun p => (fo env p.2).bind fun o => (refOf o.1).bind fun n => (fk env o.2).bind fun q => (nkT q.1).bind fun k => (nkdAt q.2 n).bind fun z =>
  if k.depth ≤ 8 ∧ z.1.length < sizeLine then some (.nx env, q.2.put n (.nkd (putNK z.1 q.1 k) (putNV z.1 z.2 k p.1))) else none
theorem is_nput {to ty tv : TE} {fo fk fv : ME} (ho : Im K to fo) (hk : Im K ty fk) (hv : Im K tv fv) : ImS K (sNPut K to ty tv) (nputM fo fk fv) := fun dk H0 F0 F σ H env st fl st' g e E hd => by
  obtain ⟨⟨d, s1⟩, h1, e⟩ := bnd e
  obtain ⟨⟨x, s2⟩, h2, e⟩ := bnd e
  obtain ⟨n, h3, e⟩ := bnd e
  obtain ⟨⟨y, s3⟩, h4, e⟩ := bnd e
  obtain ⟨k, h5, e⟩ := bnd e
  obtain ⟨⟨ks, ds⟩, h6, e⟩ := bnd e
  split at e
  · rename_i hz
    cases e
    refine hv dk H0 F0 F σ H env st d s1 g h1 _ fun v F1 H1 x1 g1 r1 => ?_
    refine ho dk H0 F0 F1 σ H1 env s1 x s2 g1 h2 _ fun u F2 H2 x2 g2 r2 => ?_
    have hx : x = .ref n := refOf_eq h3
    subst hx
    obtain ⟨a, rfl, ha⟩ := r2.refn
    refine hk dk H0 F0 F2 σ H2 env s2 y s3 g2 h4 _ fun w F3 H3 x3 g3 r3 => ?_
    have ha3 := x3.f.at ha
    obtain ⟨zs, vs, dd, k2, k3, k4, k5⟩ := g3.wd.nkdAt ha3 h6
    obtain ⟨b, rfl, nk⟩ := r3.nkT g3.wd.sub h5
    have ek : nkOf y = some k := nkT_of h5
    have hl : zs.length = ks.length := by
      have := congrArg List.length k3
      simpa using this.symm
    refine ⟨b, a, k, zs, rfl, rfl, nk, hz.1, dd, by rw [hl]; exact hz.2, fun u ru => ?_⟩
    exact hd F3 σ _ (x1.f.trans (x2.f.trans x3.f)) (g3.put ha3 dd.h (by rintro ⟨_, _, z⟩; cases z) (put_obAt dd k2 k3 k4 k5 hz.1 r3 ek ru (r1.mono (x2.f.trans x3.f))))
  · cases e
/-! {k: v}, for the store -/
def stoN (fk fv : ME) : ME := fun env st => (fk env st).bind fun p => (fv env p.2).bind fun q => (nkT p.1).bind fun k => if k.depth ≤ 8 then some (.ref q.2.ob.length, q.2.ad (.nkd [p.1] [q.1])) else none
theorem im_stoN {tk tv : TE} {fk fv : ME} (hk : Im K tk fk) (hv : Im K tv fv) : Im K (tDispN K tk tv) (stoN fk fv) := fun dk H0 F0 F σ H env st d st' g e Q q => by
  obtain ⟨⟨x, s1⟩, e1, e⟩ := bnd e
  obtain ⟨⟨y, s2⟩, e2, e⟩ := bnd e
  obtain ⟨k, e3, e⟩ := bnd e
  split at e
  · rename_i hz
    cases e
    intro p hp
    have nd := g.nedk hp
    have px : Px F H F (upd H p (.ext (NkAt p []))) := Px.lay g.wd.sub hp
    have fp := g.wd.out hp
    refine hk dk H0 F0 F σ _ env st x s1 (g.px px) e1 _ fun v F1 H1 x1 g1 r1 => ?_
    refine hv dk H0 F0 F1 σ H1 env s1 y s2 g1 e2 _ fun u F2 H2 x2 g2 r2 => ?_
    have h2 : H2 p = some (.ext (NkAt p [])) := (x1.trans x2).h _ _ upd_same nd.1 nd.2 (.inl fp.2)
    have f2 : F2.out p := (x1.trans x2).out fp (nn upd_same)
    have no := g.noown hp
    obtain ⟨b, rfl, nk⟩ := (r1.mono x2.f).nkT g2.wd.sub e3
    have ek : nkOf x = some k := nkT_of e3
    refine ⟨h2, b, k, rfl, nk, hz, fun w rw' => ?_⟩
    have g3 : Good K dk H0 F0 F2 σ (upd H2 p (.ext (NkAt p [(k, b, w)]))) env s2 := g2.mutT h2 f2 (g.fresh0 hp) nd.1 nd.2 no
    refine q (.ref p) _ _ (((px.ext.trans (x1.trans x2)).upd hp).ad hp) (g3.ad upd_same f2 (g.fresh0 hp) nd.1 nd.2 no ?_) (.ref (ad_at g3.wd p))
    refine .nkd (zs := [(k, b, w)]) (vs := [u]) upd_same (.cons ((r1.mono x2.f).mono Le.ad) .nil) (by simp [ek]) (.cons rw' .nil) (.cons (r2.mono Le.ad) .nil) (by simp) fun z hz' => by rw [List.mem_singleton.mp hz']; exact hz
  · cases e
end
end MD

set_option Elab.async false
set_option linter.all false
set_option maxRecDepth 100000
set_option maxHeartbeats 1000000
namespace MD
open PySem PySem.Spec PyProof.Rows L2
section
variable {K : Fg}
/-! a, b, c = x, y, z -/
def three (i j l : Nat) (env : Sg) : List D → Option Sg
  | [a, b, c] => some (((env.set i (.val a)).set j (.val b)).set l (.val c))
  | _ => none
def par3M (i j l : Nat) (fa : MA) : MS := fun env st => (fa env st).bind fun p => (three i j l env p.1).map fun e => (.nx e, p.2)
theorem is_par3 {ta : TA} {fa : MA} (i j l : Nat) (h : ImA K ta fa) : ImS K (tPar3 i j l ta) (par3M i j l fa) := fun dk H0 F0 F σ H env st fl st' g e E hd => by
  obtain ⟨⟨ds, s1⟩, e1, e⟩ := bnd e
  obtain ⟨en, e2, e⟩ := mpd e
  cases e
  refine h dk H0 F0 F σ H env st ds s1 g e1 _ fun vs F1 H1 x1 g1 r1 => ?_
  replace e2 : three i j l env ds = some en := e2
  unfold three at e2
  split at e2
  · cases e2
    cases r1 with
    | cons a b => cases b with
      | cons b c => cases c with
        | cons c d =>
          cases d
          exact ⟨_, _, _, rfl, hd F1 _ H1 x1.f (((g1.set a).set b).set c)⟩
  · cases e2
/-! a global tuple of constants -/
def GTup (K : Fg) (mg : Str → Option Value) (x : Str) (ds : List D) : Prop := ∃ a : Addr, mg x = some (.ref a) ∧ ∃ vs, (∀ H : Hp, SqT K H a vs) ∧ ∀ (dk : Dk) (F : Fz), Rps K dk F vs ds
theorem im_gtup {mg : Str → Option Value} {x : Str} {ds : List D} (h : GTup K mg x ds) : Im K (tC (.ref h.choose)) (cst (.tup ds)) := fun dk H0 F0 F σ H env st d st' g e Q q => by
  cases e
  obtain ⟨_, vs, h1, h2⟩ := h.choose_spec
  exact q _ F H (Ext.refl F H) g (.tup (h1 _) (h2 _ _))
def conV : Value → Option (V × D)
  | .int i _ => some (.int i, .int i)
  | .bool b => some (.bl b, .bl b)
  | .str s _ => some (.str s, .str s)
  | .none => some (.non, .non)
  | _ => none
theorem conV_ok {u : Value} {v : V} {d : D} (h : conV u = some (v, d)) : RelV v u ∧ ∀ (dk : Dk) (F : Fz), Rp K dk F v d := by
  cases u <;> first | (cases h; exact ⟨⟨_, rfl⟩, fun _ _ => .int _⟩) | (cases h; exact ⟨rfl, fun _ _ => .bl _⟩) | (cases h; exact ⟨⟨_, rfl⟩, fun _ _ => .str _⟩) | (cases h; exact ⟨rfl, fun _ _ => .non⟩) | cases h
theorem gtup_of {mg : Str → Option Value} {x : Str} {a : Addr} {o : Obj} {us : List Value} {n : Nat} {ds : List D} (h : mg x = some (.ref a)) (hk : K.lookup a = some o) (hc : o.cls = .type "tuple") (hd : o.data = .seq us.toArray n) (hl : us.length ≤ 1000)
    (hv : ∃ vs : List V, us.map conV = (vs.zip ds).map some ∧ vs.length = us.length ∧ ds.length = us.length) : GTup K mg x ds := by
  obtain ⟨vs, e1, e2, e3⟩ := hv
  have key : ∀ (us : List Value) (vs : List V) (ds : List D), us.map conV = (vs.zip ds).map some → vs.length = us.length → ds.length = us.length → Vals vs us ∧ ∀ (dk : Dk) (F : Fz), Rps K dk F vs ds := by
    intro us
    induction us with
    | nil =>
      intro vs ds _ h1 h2
      cases vs with
      | nil => cases ds with
        | nil => exact ⟨.nil, fun _ _ => .nil⟩
        | cons _ _ => simp at h2
      | cons _ _ => simp at h1
    | cons u us ih =>
      intro vs ds h h1 h2
      cases vs with
      | nil => simp at h1
      | cons v vs => cases ds with
        | nil => simp at h2
        | cons d ds =>
          rw [List.zip_cons_cons, List.map_cons, List.map_cons] at h
          injection h with h3 h4
          obtain ⟨i1, i2⟩ := ih vs ds h4 (by simpa using h1) (by simpa using h2)
          obtain ⟨c1, c2⟩ := conV_ok (K := K) h3
          exact ⟨.cons c1 i1, fun dk F => .cons (c2 dk F) (i2 dk F)⟩
  obtain ⟨i1, i2⟩ := key us vs ds e1 e2 e3
  exact ⟨a, h, vs, fun H => .inr ⟨o, us.toArray, n, hk, hc, hd, by rw [sizeLine_eq]; simp; omega, by simpa using i1⟩, i2⟩
end
theorem pe_gtup {X : Cx} {x : Str} {ds : List D} {pos : Pos} (hg : Gl X x) (h : GTup X.K X.mg x ds) (hd : (x == ("__debug__" : Str)) = false := by decide) : PE X (.Name x pos) (tC (.ref h.choose)) := pe_glob hg h.choose_spec.1 rfl hd
end MD

set_option Elab.async false
set_option linter.all false
set_option maxRecDepth 100000
set_option maxHeartbeats 1000000
namespace MD
open PySem PySem.Spec PyProof.Rows L2

/-! ### instances: fields -/
def lookF : List Str → List D → Str → Option D
  | f :: fs, d :: ds, g => if f = g then some d else lookF fs ds g
  | _, _, _ => none
def putFN : List Str → Str → List Str
  | [], g => [g]
  | f :: fs, g => if f = g then f :: fs else f :: putFN fs g
def putFV {α : Type} : List Str → List α → Str → α → List α
  | [], _, _, v => [v]
  | f :: fs, x :: xs, g, v => if f = g then v :: xs else x :: putFV fs xs g v
  | _ :: _, [], _, v => [v]
theorem putF_zip : ∀ (fs : List Str) (vs : List V) (g : Str) (v : V), fs.length = vs.length → putF g v (fs.zip vs) = (putFN fs g).zip (putFV fs vs g v) ∧ (putFN fs g).length = (putFV fs vs g v).length
  | [], [], g, v, _ => ⟨rfl, rfl⟩
  | [], _ :: _, _, _, h => by cases h
  | _ :: _, [], _, _, h => by cases h
  | f :: fs, x :: vs, g, v, h => by
    obtain ⟨i1, i2⟩ := putF_zip fs vs g v (by simpa using h)
    rw [List.zip_cons_cons]
    show (if f = g then (f, v) :: fs.zip vs else (f, x) :: putF g v (fs.zip vs)) = _ ∧ _
    unfold putFN putFV
    by_cases e : f = g
    · rw [if_pos e, if_pos e, if_pos e]
      exact ⟨rfl, by simpa using h⟩
    · rw [if_neg e, if_neg e, if_neg e, i1]
      exact ⟨rfl, by simpa using i2⟩
section
variable {K : Fg} {dk : Dk} {F : Fz} {H : Hp}
theorem putFV_rps {v : V} {d : D} (r : Rp K dk F v d) (g : Str) : ∀ {fs : List Str} {vs : List V} {ds : List D}, fs.length = vs.length → Rps K dk F vs ds → Rps K dk F (putFV fs vs g v) (putFV fs ds g d)
  | [], _, _, _, _ => .cons r .nil
  | f :: fs, _, _, h, .nil => by cases h
  | f :: fs, _, _, h, .cons a b => by
    unfold putFV
    by_cases e : f = g
    · rw [if_pos e, if_pos e]; exact .cons r b
    · rw [if_neg e, if_neg e]; exact .cons a (putFV_rps r g (by simpa using h) b)
theorem lookF_rp {g : Str} {d : D} : ∀ {fs : List Str} {vs : List V} {ds : List D}, fs.length = vs.length → Rps K dk F vs ds → lookF fs ds g = some d → ∃ v, (fs.zip vs).lookup g = some v ∧ Rp K dk F v d
  | [], _, _, _, _, e => by cases e
  | f :: fs, _, _, h, .nil, e => by cases h
  | f :: fs, v :: vs, _, h, .cons a b, e => by
    unfold lookF at e
    rw [List.zip_cons_cons]
    by_cases q : f = g
    · rw [if_pos q] at e
      cases e
      have : (g == f) = true := beq_iff_eq.mpr q.symm
      exact ⟨v, by simp [List.lookup, this], a⟩
    · rw [if_neg q] at e
      obtain ⟨u, h1, h2⟩ := lookF_rp (by simpa using h) b e
      have : (g == f) = false := beq_eq_false_iff_ne.mpr fun z => q z.symm
      exact ⟨u, by simp [List.lookup, this, h1], h2⟩
theorem look_none {g : Str} : ∀ {fs : List Str} {vs : List V}, g ∉ fs → (fs.zip vs).lookup g = none
  | [], vs, _ => by simp
  | f :: fs, [], _ => by simp
  | f :: fs, v :: vs, h => by
    rw [List.mem_cons, not_or] at h
    rw [List.zip_cons_cons]
    have : (g == f) = false := beq_eq_false_iff_ne.mpr h.1
    simp [List.lookup, this, look_none h.2]
end
/-- what must be known of a class: its names, and that no class of it has a name of the fields -/
structure ClsOk (K : Fg) (c : Str) (fl : List Str) : Prop where
  cl : ∀ C, clsOf K c = some C → Cls K C
  no : ∀ C, clsOf K c = some C → ∀ f ∈ fl, NoAttr K C f
theorem cs1 {K : Fg} {c : Str} {fl : List Str} (h : ClsOk K c fl) : ∀ c' ∈ [c], ClsOk K c' fl := fun c' hc => by rw [List.mem_singleton.mp hc]; exact h
def insAt (cs : List Str) (st : S) (n : Nat) : Option (Str × List Str × List D) := match st.ob[n]? with
  | some (.ins c fs xs) => if c ∈ cs then some (c, fs, xs) else none
  | _ => none
theorem insAt_eq {cs : List Str} {st : S} {n : Nat} {q : Str × List Str × List D} (h : insAt cs st n = some q) : st.ob[n]? = some (.ins q.1 q.2.1 q.2.2) ∧ q.1 ∈ cs := by
  unfold insAt at h
  split at h
  · split at h
    · rename_i e hc
      cases h
      exact ⟨e, hc⟩
    · cases h
  · cases h
section
variable {K : Fg}
theorem Wd.insAt {dk : Dk} {F : Fz} {H : Hp} {st : S} {cs : List Str} {n : Nat} {a : Addr} {q : Str × List Str × List D} (w : Wd K dk F H st) (hn : F.mu[n]? = some a) (h : MD.insAt cs st n = some q) :
    ∃ C dx vs, clsOf K q.1 = some C ∧ H a = some (.ins C dx (q.2.1.zip vs)) ∧ q.2.1.length = vs.length ∧ Rps K dk F vs q.2.2 := by
  obtain ⟨e, _⟩ := insAt_eq h
  obtain ⟨_, o⟩ := w.ob n a _ hn e
  cases o with
  | ins h1 h2 h3 h4 => exact ⟨_, _, _, h1, h2, h3, h4⟩
/-! e.f -/
def fldM (cs : List Str) (f : Str) (fo : ME) : ME := fun env st => (fo env st).bind fun p => (refOf p.1).bind fun n => (insAt cs p.2 n).bind fun z => (lookF z.2.1 z.2.2 f).map fun d => (d, p.2)
theorem im_fld {cs fl : List Str} {f : Str} {to : TE} {fo : ME} (hc : ∀ c ∈ cs, ClsOk K c fl) (hf : f ∈ fl) (ho : Im K to fo) : Im K (tFld K to f) (fldM cs f fo) := fun dk H0 F0 F σ H env st d st' g e Q q => by
  obtain ⟨⟨x, s1⟩, e1, e⟩ := bnd e
  obtain ⟨n, e2, e⟩ := bnd e
  obtain ⟨z, e3, e⟩ := bnd e
  obtain ⟨d', e4, e⟩ := mpd e
  cases e
  refine ho dk H0 F0 F σ H env st x s1 g e1 _ fun v F1 H1 x1 g1 r1 => ?_
  have hx : x = .ref n := refOf_eq e2
  subst hx
  obtain ⟨a, rfl, ha⟩ := r1.refn
  obtain ⟨C, dx, vs, h1, h2, h3, h4⟩ := g1.wd.insAt ha e3
  obtain ⟨v, h5, h6⟩ := lookF_rp h3 h4 e4
  have ok := hc _ (insAt_eq e3).2
  exact ⟨a, C, dx, _, v, rfl, h2, ok.cl C h1, ok.no C h1 f hf, h5, q v F1 H1 x1 g1 h6⟩
/-! e.f = v -/
def setM (cs : List Str) (f : Str) (fo fv : ME) : MS := fun env st => (fv env st).bind fun p => (fo env p.2).bind fun o => (refOf o.1).bind fun n => (insAt cs o.2 n).bind fun z => if z.2.1.length < 1000 then some (.nx env, o.2.put n (.ins z.1 (putFN z.2.1 f) (putFV z.2.1 z.2.2 f p.1))) else none
theorem is_setf {cs fl : List Str} {f : Str} {to tv : TE} {fo fv : ME} (hc : ∀ c ∈ cs, ClsOk K c fl) (hf : f ∈ fl) (ho : Im K to fo) (hv : Im K tv fv) : ImS K (sFld K to tv f) (setM cs f fo fv) := fun dk H0 F0 F σ H env st fl' st' g e E hd => by
  obtain ⟨⟨d, s1⟩, h1, e⟩ := bnd e
  obtain ⟨⟨x, s2⟩, h2, e⟩ := bnd e
  obtain ⟨n, h3, e⟩ := bnd e
  obtain ⟨z, h4, e⟩ := bnd e
  split at e
  · rename_i hz
    cases e
    refine hv dk H0 F0 F σ H env st d s1 g h1 _ fun v F1 H1 x1 g1 r1 => ?_
    refine ho dk H0 F0 F1 σ H1 env s1 x s2 g1 h2 _ fun u F2 H2 x2 g2 r2 => ?_
    have hx : x = .ref n := refOf_eq h3
    subst hx
    obtain ⟨a, rfl, ha⟩ := r2.refn
    obtain ⟨C, dx, vs, k1, k2, k3, k4⟩ := g2.wd.insAt ha h4
    have ok := hc _ (insAt_eq h4).2
    obtain ⟨p1, p2⟩ := putF_zip z.2.1 vs f v k3
    refine ⟨a, C, dx, _, rfl, k2, ok.cl C k1, ok.no C k1 f hf, ?_, ?_⟩
    · rw [List.length_zip, ← k3, Nat.min_self]; exact hz
    · refine hd F2 σ _ (x1.f.trans x2.f) (g2.put ha k2 (by rintro ⟨_, _, z⟩; cases z) ?_)
      exact .ins (dx := dx) k1 (by rw [upd_same, p1]) p2 (putFV_rps (r1.mono x2.f) f k3 k4)
  · cases e
/-! methods -/
def methM (c m : Str) (mf : MF) (fo : ME) (a : MA) : ME := fun env st => (fo env st).bind fun p => (refOf p.1).bind fun n => (insAt [c] p.2 n).bind fun z => if m ∉ z.2.1 then (a env p.2).bind fun q => mf (p.1 :: q.1) q.2 else none
theorem im_meth {c m : Str} {C : Addr} {n : Nat} {mf : MF} {to : TE} {ta : TA} {fo : ME} {a : MA} {E : XK} (hC : clsOf K c = some C) (ho : Im K to fo) (ha : ImA K ta a) (hn : ∀ env st p, a env st = some p → p.1.length = n) : Im K (tMeth C m (spD K (n + 1) mf) [] E to ta) (methM c m mf fo a) := fun dk H0 F0 F σ H env st d st' g e Q q => by
  obtain ⟨⟨x, s1⟩, e1, e⟩ := bnd e
  obtain ⟨j, e2, e⟩ := bnd e
  obtain ⟨z, e3, e⟩ := bnd e
  split at e
  · rename_i hm
    obtain ⟨⟨ds, s2⟩, e4, e⟩ := bnd e
    refine ho dk H0 F0 F σ H env st x s1 g e1 _ fun v F1 H1 x1 g1 r1 => ?_
    have hx : x = .ref j := refOf_eq e2
    subst hx
    obtain ⟨b, rfl, hb⟩ := r1.refn
    obtain ⟨C', dx, vs, h1, h2, h3, h4⟩ := g1.wd.insAt hb e3
    have hz : z.1 = c := List.mem_singleton.mp (insAt_eq e3).2
    rw [hz, hC] at h1
    cases h1
    refine ⟨b, dx, _, rfl, h2, look_none hm, ?_⟩
    refine ha dk H0 F0 F1 σ H1 env s1 ds s2 g1 e4 _ fun us F2 H2 x2 g2 r2 => ?_
    rw [List.append_nil]
    exact ⟨by simpa using r2.length.trans (hn _ _ _ e4), dk, F2, .ref j :: ds, s2, d, st', g2.wd, .cons (r1.mono x2.f) r2, e, fun v F' H' x w r => q v F' H' ((x1.trans x2).trans x) (g2.step x w) r⟩
  · cases e
/-! making -/
def makeM (c : Str) (mf : MF) (a : MA) : ME := fun env st => (a env st).bind fun p => (mf (.ref p.2.ob.length :: p.1) (p.2.ad (.ins c [] []))).bind fun q => match q.1 with
  | .non => some (.ref p.2.ob.length, q.2)
  | _ => none
theorem im_make {c : Str} {C : Addr} {n : Nat} {mf : MF} {ta : TA} {a : MA} {E : XK} (hC : clsOf K c = some C) (ha : ImA K ta a) (hn : ∀ env st p, a env st = some p → p.1.length = n) : Im K (tMake C (spD K (n + 1) mf) [] E ta) (makeM c mf a) := fun dk H0 F0 F σ H env st d st' g e Q q => by
  obtain ⟨⟨ds, s1⟩, e1, e⟩ := bnd e
  obtain ⟨⟨y, s2⟩, e2, e⟩ := bnd e
  refine ha dk H0 F0 F σ H env st ds s1 g e1 _ fun vs F1 H1 x1 g1 r1 => ?_
  intro x dx hx hdx hne
  have px1 : Px F1 H1 F1 (upd H1 dx (.own x)) := Px.lay g1.wd.sub hdx
  have hx1 : upd H1 dx (.own x) x = none := by rw [upd_ne hne.symm]; exact hx
  have g2 := g1.px px1
  have px2 : Px F1 (upd H1 dx (.own x)) F1 (upd (upd H1 dx (.own x)) x (.ins C dx [])) := Px.lay g2.wd.sub hx1
  have nd := g1.nedk hx
  have fx := g1.wd.out hx
  have g3 := (g2.px px2).ad (p := x) (ob := .ins c [] []) upd_same fx (g1.fresh0 hx) nd.1 nd.2 (g1.noown hx) (.ins (dx := dx) (vs := []) hC upd_same rfl .nil)
  have hat := ad_at (g2.px px2).wd x
  rw [List.append_nil]
  have hl : (V.ref x :: vs).length = n + 1 := by simpa using r1.length.trans (hn _ _ _ e1)
  have xx : Ext dk F1 H1 (F1.ad x) (upd (upd H1 dx (.own x)) x (.ins C dx [])) := ((px1.ext.trans px2.ext)).ad hx
  refine ⟨hl, dk, F1.ad x, .ref s1.ob.length :: ds, s1.ad (.ins c [] []), y, s2, g3.wd, .cons (.ref hat) (r1.mono Le.ad), e2, fun v F' H' x2 w r => ?_⟩
  cases y with
  | non =>
    cases e
    cases r
    exact ⟨rfl, q (.ref x) F' H' (x1.trans (xx.trans x2)) (g3.step x2 w) (.ref (x2.f.at hat))⟩
  | _ => cases e
end
/-! ### the rules of the text -/
theorem guards_make {A : Around} (C : Addr) (us : List Value) (h : A.guards = some []) : (A.under (.builtin "type.__call__" ⟨.ref C :: us, []⟩)).guards = some [] := by
  have h1 : (A.under (.builtin "type.__call__" ⟨.ref C :: us, []⟩)).guards = pushGuards (Code.guards (.builtin "type.__call__" ⟨.ref C :: us, []⟩)) A.guards := rfl
  have h2 : Code.guards (.builtin "type.__call__" ⟨.ref C :: us, []⟩) = [] := by
    unfold Code.guards
    rw [if_neg]
    have : Code.isGuard (.builtin "type.__call__" ⟨.ref C :: us, []⟩) = false := by
      first | rfl | decide +kernel | simp [Code.isGuard, guardIds]
    rw [this]
    exact Bool.false_ne_true
  rw [h1, h2, h]
  rfl
section
variable {X : Cx} {k : Nat} {f C : Addr} {fd : FuncData} {ps : List Str} {sp : Sp} {x m : Str} {p pos apos : Pos} {e o : Expr} {es : List Expr} {ta : TE} {t : TA}
theorem pe_methG {pl : Sem Bool} (he : PE X o ta) (c : Cls X.K C) (hm : Meth X.K C m f) (F : FnG X.prog X.w X.K X.mg X.base k f fd ps sp) (hr : Room k X.A) (gd : X.A.guards = some []) (hb : Binds X.K fd ps []) (ha : PA X (e :: es) t)
    (hst : starEach (e :: es) X.env = (false, eval e X.env) :: starEach es X.env := by rfl) (hpl : (backTo pos (starEach es X.env)).any (·.1) = false := by rfl)
    (ht : eval (.Call (.Attribute o m apos) (e :: es) [] pos) X.env = (do
      let ov ← eval o X.env
      standAt apos.atName
      let (f, first) ← holding [ov] (getMethod ov m pl)
      callWith pos f first (backTo pos (starEach (e :: es) X.env)) (backToKw pos (keywordEach [] X.env))) := by rfl) :
    PE X (.Call (.Attribute o m apos) (e :: es) [] pos) (tMeth C m sp [] E0 ta t) := by
  refine ⟨fun pins s σ H Q I h => ?_⟩
  refine PySem.W.methodCall_KW (pl := pl) (thn (he.run pins s σ H _ I h) fun u s1 ⟨x, H1, I1, rx, a, dx, fs, ex, ea, l, q⟩ => ?_) ht
  subst ex
  obtain rfl : u = Value.ref a := rx
  refine getmeth_ok I1 ea c hm l ?_
  refine PySem.W.callWith_K (first := [.ref a]) (h₀ := X.base) I.ok.mod.kin hm.kp (thn (ha.run pos pins s1 σ H1 _ I1 q) fun us s2 ⟨vs, H2, I2, r, q2⟩ => ⟨I2.kIn, ?_⟩) hst hpl
  replace q2 : sp (V.ref a :: (vs ++ [])) H2 Q E0 := q2
  rw [List.append_nil] at q2
  exact runG (us := .ref a :: us) (vs := .ref a :: vs) F hr gd hb I2 (.cons rfl r) q2
theorem pe_methG0 {pl : Sem Bool} (he : PE X o ta) (c : Cls X.K C) (hm : Meth X.K C m f) (F : FnG X.prog X.w X.K X.mg X.base k f fd ps sp) (hr : Room k X.A) (gd : X.A.guards = some []) (hb : Binds X.K fd ps [])
    (ht : eval (.Call (.Attribute o m apos) [] [] pos) X.env = (do
      let ov ← eval o X.env
      standAt apos.atName
      let (f, first) ← holding [ov] (getMethod ov m pl)
      callWith pos f first (backTo pos (starEach [] X.env)) (backToKw pos (keywordEach [] X.env))) := by rfl) :
    PE X (.Call (.Attribute o m apos) [] [] pos) (tMeth C m sp [] E0 ta tNil) := by
  refine ⟨fun pins s σ H Q I h => ?_⟩
  refine PySem.W.methodCall_KW (pl := pl) (thn (he.run pins s σ H _ I h) fun u s1 ⟨x, H1, I1, rx, a, dx, fs, ex, ea, l, q⟩ => ?_) ht
  subst ex
  obtain rfl : u = Value.ref a := rx
  refine getmeth_ok I1 ea c hm l ?_
  exact PySem.W.callWith_K0 (first := [.ref a]) I1.kIn hm.kp (runG (us := [.ref a]) (vs := [.ref a]) F hr gd hb I1 (.cons rfl .nil) q)
theorem run_makeG {pins : List (Addr × Obj)} {σ : L2.St} {H : Hp} {s : Shared} {Q : VK} {us : List Value} {vs : List V} (M : Mk X.K C f) (F : FnG X.prog X.w X.K X.mg X.base k f fd ps sp) (hr : Room (k + 1) X.A) (gd : X.A.guards = some []) (hb : Binds X.K fd ps [])
    (I : L2.Inv X pins σ H s) (r : Vals vs us)
    (h : ∀ x dx, H x = none → H dx = none → dx ≠ x → sp (.ref x :: vs) (upd (upd H dx (.own x)) x (.ins C dx [])) (fun v H2 => v = .non ∧ Q (.ref x) H2) E0) :
    wpAny (model X.prog X.w) X.A (call (.ref C) us) (EP X pins σ Q) X.xe s := by
  have hq := h (s.heap.objs.size + 1) s.heap.objs.size (I.hok.fresh (Nat.le_succ _)) (I.hok.fresh (Nat.le_refl _)) (Nat.ne_of_lt (Nat.lt_succ_self _))
  have I2 := Inv.made (C := C) I
  have r2 : Vals (V.ref (s.heap.objs.size + 1) :: vs) (Value.ref (s.heap.objs.size + 1) :: us) := .cons rfl r
  have hl : (Value.ref (s.heap.objs.size + 1) :: us).length = ps.length := by
    have e := r2.length
    rw [F.len _ _ _ _ hq] at e
    exact e.symm
  have bb := hb _ (Value.ref (s.heap.objs.size + 1) :: us) I2.kIn (by rw [List.append_nil]; exact hl)
  rw [List.append_nil] at bb
  refine wpAny_call (make_map (f := f) I.kIn M.makes M.init (beq_iff_eq.mp M.fn) (codeAny_mono (F.run _ X.stack _ _ ⟨Value.ref (s.heap.objs.size + 1) :: us, []⟩ (Value.ref (s.heap.objs.size + 1) :: us) _ _ E0 (hr.make C us []) (guards_make C us gd)
    (I2.env0.make C us []) bb r2 hq) fun r s' hq' => ?_))
  cases r with
  | error e => exact False.elim hq'
  | ok fl =>
    cases fl with
    | ret u =>
      obtain ⟨v, H', I3, rv, ev, q3⟩ := I2.after hq'
      subst ev
      exact ⟨rv, ⟨V.ref (s.heap.objs.size + 1), H', I3, rfl, q3⟩⟩
    | next => exact False.elim hq'
    | brk => exact False.elim hq'
    | cont => exact False.elim hq'
theorem pe_makeG (M : Mk X.K C f) (F : FnG X.prog X.w X.K X.mg X.base k f fd ps sp) (hr : Room (k + 1) X.A) (gd : X.A.guards = some []) (hg : Gl X x) (hm : X.mg x = some (.ref C)) (hb : Binds X.K fd ps [])
    (ha : PA X (e :: es) t) (hdb : (x == ("__debug__" : Str)) = false := by decide) (he : starEach (e :: es) X.env = (false, eval e X.env) :: starEach es X.env := by rfl) (hpl : (backTo pos (starEach es X.env)).any (·.1) = false := by rfl) :
    PE X (.Call (.Name x p) (e :: es) [] pos) (tMake C sp [] E0 t) := by
  refine ⟨fun pins s σ H Q I h => ?_⟩
  refine wpAny_Call_Name_kw (ld_glob I hg hm ?_ hdb)
  refine PySem.W.callWith_K (h₀ := X.base) I.ok.mod.kin M.kp (thn (ha.run pos pins s σ H _ I h) fun us s1 ⟨vs, H1, I1, r, q⟩ => ⟨I1.kIn, ?_⟩) he hpl
  refine run_makeG M F hr gd hb I1 r fun x dx h1 h2 h3 => ?_
  have := q x dx h1 h2 h3
  rw [List.append_nil] at this
  exact this
end
/-! ### methods and makers, as a caller sees them -/
def CalM (P : Program) (w : World) (K : Fg) (mg : Str → Option Value) (base : Heap) (k : Nat) (c m : Str) (ps : List Str) (sp : Sp) : Prop :=
  ∃ C : Addr, clsOf K c = some C ∧ Cls K C ∧ ∃ f fd, FnG P w K mg base k f fd ps sp ∧ Meth K C m f ∧ Binds K fd ps []
def CalK (P : Program) (w : World) (K : Fg) (mg : Str → Option Value) (base : Heap) (k : Nat) (c : Str) (ps : List Str) (sp : Sp) : Prop :=
  ∃ C : Addr, clsOf K c = some C ∧ mg c = some (.ref C) ∧ ∃ f fd, FnG P w K mg base k f fd ps sp ∧ Mk K C f ∧ Binds K fd ps []
end MD

set_option Elab.async false
set_option linter.all false
set_option maxRecDepth 100000
set_option maxHeartbeats 1000000
namespace MD
open PySem PySem.Spec PyProof.Rows L2
section
variable {K : Fg} {dk : Dk} {F : Fz}
/-! range(i, j, -1) -/
def dnD (lo : Int) (n : Nat) : List D := (List.range n).map fun k => .int (lo + (k : Nat) * (-1))
theorem dnD_get {lo : Int} {n i : Nat} {d : D} (h : (dnD lo n)[i]? = some d) : i < n ∧ d = .int (lo + (i : Nat) * (-1)) := by
  unfold dnD at h
  rw [List.getElem?_map] at h
  obtain ⟨j, h1, h2⟩ := mpd h
  have hi : i < n := by
    by_cases hl : i < n
    · exact hl
    · rw [List.getElem?_eq_none (by rw [List.length_range]; omega)] at h1; cases h1
  rw [List.getElem?_range hi] at h1
  cases h1
  exact ⟨hi, h2.symm⟩
theorem stdy_dn (lo : Int) (n : Nat) : Stdy K dk F (Itc lo (-1) n) (dnD lo n) := fun F1 H1 st le w i => by
  refine ⟨fun d hd => ?_, fun hl => ?_⟩
  · obtain ⟨h1, rfl⟩ := dnD_get hd
    refine ⟨h1, fun x H2 hy => ?_⟩
    obtain ⟨e1, e2⟩ := hy
    subst e1 e2
    exact ⟨F1, Px.refl w.sub, .int _⟩
  · show n ≤ i
    unfold dnD at hl
    simpa using hl
def r3M (a : MA) : MI := fun env st => (a env st).bind fun p => match p.1 with
  | [.int i, .int j, .int c] => if c = -1 ∧ -(2 ^ 62) ≤ i ∧ i < 2 ^ 62 ∧ -(2 ^ 62) ≤ j ∧ j < 2 ^ 62 then some (dnD i (i - j).toNat, p.2) else none
  | _ => none
theorem Rws.three {H : Hp} {vs : List V} {d e f : D} (r : Rws K dk F H vs [d, e, f]) : ∃ v u x, vs = [v, u, x] ∧ Rw K dk F H v d ∧ Rw K dk F H u e ∧ Rw K dk F H x f := by
  cases r with
  | cons a b => cases b with
    | cons b c => cases c with
      | cons c d => cases d; exact ⟨_, _, _, rfl, a, b, c⟩
theorem ii_range3 {ta : TA} {a : MA} (h : ImAW K ta a) : ImI K (iRng3 ta) (r3M a) := fun dk H0 F0 F σ H env st ds st' g e R q => by
  obtain ⟨⟨xs, s1⟩, h1, e⟩ := bnd e
  refine h dk H0 F0 F σ H env st xs s1 g h1 _ fun vs F1 H1 x1 g1 r1 => ?_
  dsimp only at e
  split at e
  · split at e
    · rename_i i j c hj
      cases e
      obtain ⟨v, u, x, rfl, r, r', r''⟩ := r1.ws.three
      cases r.int
      cases r'.int
      cases r''.int
      obtain ⟨rfl, h2, h3, h4, h5⟩ := hj
      exact ⟨i, j, -1, (i - j).toNat, rfl, RgC.neg h2 h3 h4 h5, q _ F1 H1 x1 g1 (stdy_dn i (i - j).toNat)⟩
    · cases e
  · cases e
end
section
variable {K : Fg}
/-! xs[::-1] -/
def revM (f : ME) : MA := fun env st => (f env st).bind fun p => match dr p.2 p.1 with
  | .lst ds => some (ds.reverse, p.2)
  | _ => none
theorem Rps.reverse {dk : Dk} {F : Fz} : ∀ {vs : List V} {ds : List D}, Rps K dk F vs ds → Rps K dk F vs.reverse ds.reverse
  | _, _, .nil => .nil
  | _, _, .cons a b => by
    rw [List.reverse_cons, List.reverse_cons]
    exact (Rps.reverse b).append (Rps.one a)
theorem if_revL {te : TE} {f : ME} (h : ImW K te f) : ImF K (tRevL K te) (revM f) := fun dk H0 F0 F σ H env st ds st' g e Q q => by
  obtain ⟨⟨x, s1⟩, h1, e⟩ := bnd e
  refine h dk H0 F0 F σ H env st x s1 g h1 _ fun v F1 H1 x1 g1 r1 => ?_
  have r2 := r1.dr g1.wd
  dsimp only at e
  generalize dr s1 x = y at e r2
  split at e
  · cases e
    obtain ⟨a, vs, rfl, hl, r⟩ := r2.l g1.wd.sub
    refine ⟨a, vs, rfl, SqL.of hl, fun p hp => ?_⟩
    have px : Px F1 H1 F1 (upd H1 p (.lst vs.reverse)) := Px.lay g1.wd.sub hp
    exact q p _ F1 _ (x1.trans px.ext) (g1.px px) (x1.back hp) (g1.wd.out hp) upd_same r.reverse
  · cases e
end
/-! methods and makers by what a caller knows -/
section
variable {X : Cx} {k j : Nat} {c m : Str} {ps : List Str} {sp : Sp} {p pos apos : Pos} {e o : Expr} {es : List Expr} {ta : TE} {t : TA}
theorem pe_methC {pl : Sem Bool} (C : CalM X.prog X.w X.K X.mg X.base j c m ps sp) (hr : Room k X.A) (gd : X.A.guards = some []) (he : PE X o ta) (ha : PA X (e :: es) t) (hj : j ≤ k := by decide)
    (hst : starEach (e :: es) X.env = (false, eval e X.env) :: starEach es X.env := by rfl) (hpl : (backTo pos (starEach es X.env)).any (·.1) = false := by rfl)
    (ht : eval (.Call (.Attribute o m apos) (e :: es) [] pos) X.env = (do
      let ov ← eval o X.env
      standAt apos.atName
      let (f, first) ← holding [ov] (getMethod ov m pl)
      callWith pos f first (backTo pos (starEach (e :: es) X.env)) (backToKw pos (keywordEach [] X.env))) := by rfl) :
    PE X (.Call (.Attribute o m apos) (e :: es) [] pos) (tMeth C.choose m sp [] E0 ta t) := by
  obtain ⟨_, cl, f, fd, F, hm, hb⟩ := C.choose_spec
  exact pe_methG he cl hm F (hr.mono hj) gd hb ha hst hpl ht
theorem pe_methC0 {pl : Sem Bool} (C : CalM X.prog X.w X.K X.mg X.base j c m ps sp) (hr : Room k X.A) (gd : X.A.guards = some []) (he : PE X o ta) (hj : j ≤ k := by decide)
    (ht : eval (.Call (.Attribute o m apos) [] [] pos) X.env = (do
      let ov ← eval o X.env
      standAt apos.atName
      let (f, first) ← holding [ov] (getMethod ov m pl)
      callWith pos f first (backTo pos (starEach [] X.env)) (backToKw pos (keywordEach [] X.env))) := by rfl) :
    PE X (.Call (.Attribute o m apos) [] [] pos) (tMeth C.choose m sp [] E0 ta tNil) := by
  obtain ⟨_, cl, f, fd, F, hm, hb⟩ := C.choose_spec
  exact pe_methG0 he cl hm F (hr.mono hj) gd hb ht
theorem pe_makeC (C : CalK X.prog X.w X.K X.mg X.base j c ps sp) (hr : Room k X.A) (gd : X.A.guards = some []) (hg : Gl X c) (ha : PA X (e :: es) t) (hj : j + 1 ≤ k := by decide) (hdb : (c == ("__debug__" : Str)) = false := by decide)
    (he : starEach (e :: es) X.env = (false, eval e X.env) :: starEach es X.env := by rfl) (hpl : (backTo pos (starEach es X.env)).any (·.1) = false := by rfl) : PE X (.Call (.Name c p) (e :: es) [] pos) (tMake C.choose sp [] E0 t) := by
  obtain ⟨_, hm, f, fd, F, M, hb⟩ := C.choose_spec
  exact pe_makeG M F (hr.mono hj) gd hg hm hb ha hdb he hpl
end
section
variable {P : Program} {w : World} {K : Fg} {mg : Str → Option Value} {base : Heap} {j n : Nat} {c m : Str} {ps : List Str} {mf : MF} {to : TE} {ta : TA} {fo : ME} {a : MA} {E : XK}
theorem im_methC (C : CalM P w K mg base j c m ps (spD K (n + 1) mf)) (ho : Im K to fo) (ha : ImA K ta a) (hn : ∀ env st p, a env st = some p → p.1.length = n) : Im K (tMeth C.choose m (spD K (n + 1) mf) [] E to ta) (methM c m mf fo a) := im_meth C.choose_spec.1 ho ha hn
theorem im_makeC (C : CalK P w K mg base j c ps (spD K (n + 1) mf)) (ha : ImA K ta a) (hn : ∀ env st p, a env st = some p → p.1.length = n) : Im K (tMake C.choose (spD K (n + 1) mf) [] E ta) (makeM c mf a) := im_make C.choose_spec.1 ha hn
end
end MD

set_option Elab.async false
set_option linter.all false
set_option maxRecDepth 100000
set_option maxHeartbeats 1000000
namespace MD
open PySem PySem.Spec PyProof.Rows L2
section
variable {K : Fg}
/-! a field as a path -/
theorem pth_fld {cs fl : List Str} {f : Str} {to : TE} {fo : ME} (hc : ∀ c ∈ cs, ClsOk K c fl) (hf : f ∈ fl) (hp : Pth K to fo) : Pth K (tFld K to f) (fldM cs f fo) := fun dk H0 F0 F σ H env st d st' g e => by
  obtain ⟨⟨x, s1⟩, e1, e⟩ := bnd e
  obtain ⟨n, e2, e⟩ := bnd e
  obtain ⟨z, e3, e⟩ := bnd e
  obtain ⟨d', e4, e⟩ := mpd e
  cases e
  obtain ⟨es, v, r, q1, q2⟩ := hp dk H0 F0 F σ H env st x _ g e1
  have es' : s1 = st := es
  subst es'
  have hx : x = .ref n := refOf_eq e2
  subst hx
  obtain ⟨a, rfl, ha⟩ := r.refn
  obtain ⟨C, dx, vs, h1, h2, h3, h4⟩ := g.wd.insAt ha e3
  obtain ⟨u, h5, h6⟩ := lookF_rp h3 h4 e4
  have ok := hc _ (insAt_eq e3).2
  refine ⟨rfl, u, h6, fun Q q => q1 _ ⟨a, C, dx, _, u, rfl, h2, ok.cl C h1, ok.no C h1 f hf, h5, q⟩, fun b od kvs hb Q q => q2 b od kvs hb _ ⟨a, C, dx, _, u, rfl, ?_, ok.cl C h1, ok.no C h1 f hf, h5, q⟩⟩
  rw [upd_ne (fun z => by rw [z, hb] at h2; cases h2)]
  exact h2
/-! comprehensions over a list of the store -/
noncomputable def compLc (n : Nat) (ds0 : List D) (t : MG) (c : MT) (f : ME) (env : Sg) : List D → S → Option (List D × S)
  | [], st => cif (lstAt st n = some ds0) (some ([], st))
  | d :: ds, st => cif (lstAt st n = some ds0) ((t d env).bind fun e => (c e st).bind fun p => if p.1 then (f e p.2).bind fun q => (compLc n ds0 t c f env ds q.2).map fun r => (q.1 :: r.1, r.2) else compLc n ds0 t c f env ds p.2)
noncomputable def compR (fi : ME) (t : MG) (c : MT) (f : ME) (vs : List Nat) : MA := fun env st => (fi env st).bind fun p => match p.1 with
  | .ref n => (lstAt p.2 n).bind fun ds => if ds.length ≤ sizeLine then compLc n ds t c f (wipeE env vs) ds p.2 else none
  | d => (seqOf d).bind fun ds => if ds.length ≤ sizeLine then compL t c f (wipeE env vs) ds p.2 else none
theorem if_compR {ti : TE} {fi : ME} {g : TG} {tt : TT} {te : TE} {vs : List Nat} {t : MG} {c : MT} {f : ME} {is : List Nat} (h : Im K ti fi) (hg : ImG K g t is) (ht : ImT K tt c) (he : Im K te f) (hv : ∀ i ∈ is, i ∈ vs) :
    ImF K (tLc (iSeq K ti) g tt te vs) (compR fi t c f vs) := fun dk H0 F0 F σ H env st out st' gd e Q q => by
  obtain ⟨⟨d, s1⟩, e1, e⟩ := bnd e
  by_cases hr : ∃ n, d = .ref n
  · obtain ⟨n, rfl⟩ := hr
    obtain ⟨ds, eL, e⟩ := bnd (show ((lstAt s1 n).bind fun ds => if ds.length ≤ sizeLine then compLc n ds t c f (wipeE env vs) ds s1 else none) = some (out, st') from e)
    split at e
    · rename_i hz
      refine h dk H0 F0 F σ H env st _ s1 gd e1 _ fun v F1 H1 x1 g1 r1 => ?_
      obtain ⟨a, rfl, ha⟩ := r1.refn
      obtain ⟨vs0, hv0, rv0⟩ := g1.wd.lstAt ha eL
      refine .inl ⟨a, rfl, ⟨vs0, SqL.of hv0⟩, fun Dn hD => ?_⟩
      have hDH : H Dn = none := by
        cases w : H Dn with
        | none => rfl
        | some o => exact absurd hD (x1.m Dn (by rw [w]; exact fun z => nomatch z))
      have nd := g1.nedk hD
      have h0D := g1.fresh0 hD
      have noD := g1.noown hD
      have noW : ∀ (j : Nat) (es : Own), (wipeE env vs)[j]? = some (.own es) → (wipe σ vs)[j]? ≠ some (some (.ref Dn)) := fun j es e => by
        rcases wipeE_get e with z | ⟨z1, z2⟩
        · cases z
        · rw [wipe_off z2]; exact noD j es z1
      let P : Nat → Hp → Prop := fun i H => ∃ F2 st2 acc done rest, Le F1 F2 ∧ Ext dk F1 H1 F2 H ∧ Good K dk H0 F0 F2 (wipe σ vs) H (wipeE env vs) st2 ∧ H Dn = some (.lst acc) ∧ F2.out Dn ∧ acc.length ≤ i ∧ Rps K dk F2 acc done ∧
        compLc n ds t c f (wipeE env vs) (ds.drop i) st2 = some (rest, st') ∧ done ++ rest = out
      have px0 : Px F1 H1 F1 (upd H1 Dn (.lst [])) := Px.lay g1.wd.sub hD
      refine ⟨fun i m H => m = ds.length - i ∧ i ≤ ds.length ∧ P i H, ⟨_, rfl, Nat.zero_le _, F1, s1, [], [], out, Le.refl F1, px0.ext, (g1.wiped).px px0, upd_same, g1.wd.out hD, Nat.zero_le _, .nil, e, rfl⟩, ?_⟩
      rintro i m H2 ⟨rfl, hle, F2, s2, acc, done, rest, le2, x2, g2, hacc, f2, hal, racc, e2, eo⟩
      by_cases hlt : i < ds.length
      · have hdi : ds[i]? = some ds[i] := List.getElem?_eq_getElem hlt
        rw [List.drop_eq_getElem_cons hlt] at e2
        obtain ⟨ck, e2⟩ := of_cif e2
        obtain ⟨us, hu, ru⟩ := g2.wd.lstAt (le2.at ha) ck
        obtain ⟨w, k1, k2⟩ := ru.get hdi
        refine .inr ⟨⟨us, w, SqL.of hu, k1⟩, P (i + 1), fun H' hp => ⟨_, by omega, rfl, hlt, hp⟩, fun x H3 hx => ?_⟩
        obtain ⟨ee, e4⟩ := hx
        subst ee
        have ev := e4 us (SqL.of hu)
        rw [k1] at ev
        cases ev
        obtain ⟨env3, e3, e2⟩ := bnd e2
        obtain ⟨⟨b, s4⟩, e4', e2⟩ := bnd e2
        refine hg dk H0 F0 F2 (wipe σ vs) _ (wipeE env vs) s2 w _ env3 g2 k2 e3 _ fun σ4 g4 tg => ?_
        have same : ∀ j : Nat, j ∉ vs → σ4[j]? = (wipe σ vs)[j]? ∧ env3[j]? = (wipeE env vs)[j]? := fun j hj => tg.same j fun z => hj (hv j z)
        have weq : wipe σ4 vs = wipe σ vs := by
          rw [wipe_eq tg.len fun j hj => (same j hj).1, wipe_wipe]
        have back : ∀ {F5 : Fz} {H5 : Hp} {st5 : S}, Good K dk H0 F0 F5 σ4 H5 env3 st5 → Good K dk H0 F0 F5 (wipe σ vs) H5 (wipeE env vs) st5 := fun {F5 H5 st5} g5 =>
          g5.reslot (by rw [wipe_length, wipeE_length]; exact gd.len) fun j s es => by
            rcases wipeE_get es with z | ⟨z1, z2⟩
            · exact .inl z
            · exact .inr ⟨(same j z2).2.trans es, (same j z2).1.symm⟩
        refine ⟨weq, ?_⟩
        refine ht dk H0 F0 F2 σ4 _ env3 s2 b s4 g4 e4' _ fun F5 H5 x5 g5 => ?_
        have a5 : H5 Dn = some (.lst acc) := x5.h _ _ hacc nd.1 nd.2 (.inl f2.2)
        have f5 : F5.out Dn := x5.out f2 (by rw [hacc]; exact fun z => nomatch z)
        cases b with
        | false =>
          exact ⟨F5, s4, acc, done, rest, le2.trans x5.f, x2.trans x5, back g5, a5, f5, by omega, racc.mono x5.f, e2, eo⟩
        | true =>
          replace e2 : ((f env3 s4).bind fun q => (compLc n ds t c f (wipeE env vs) (ds.drop (i + 1)) q.2).map fun r => (q.1 :: r.1, r.2)) = some (rest, st') := e2
          obtain ⟨⟨y, s6⟩, e6, e2⟩ := bnd e2
          obtain ⟨⟨rest', s7⟩, e7, e2⟩ := mpd e2
          cases e2
          refine he dk H0 F0 F5 σ4 H5 env3 s4 y s6 g5 e6 _ fun v F6 H6 x6 g6 r6 => ?_
          have x26 := x5.trans x6
          have a6 : H6 Dn = some (.lst acc) := x26.h _ _ hacc nd.1 nd.2 (.inl f2.2)
          have f6 : F6.out Dn := x26.out f2 (by rw [hacc]; exact fun z => nomatch z)
          refine ⟨acc, a6, by omega, F6, s6, acc ++ [v], done ++ [y], rest', le2.trans x26.f, ?_, (back g6).mutT a6 f6 h0D nd.1 nd.2 noW, upd_same, f6, by simp; omega, (racc.mono x26.f).append (Rps.one r6), e7, by rw [← eo]; simp⟩
          exact (x2.trans x26).upd hD
      · have ei : i = ds.length := by omega
        subst ei
        rw [List.drop_length] at e2
        obtain ⟨ck, e2⟩ := of_cif e2
        cases e2
        obtain ⟨us, hu, ru⟩ := g2.wd.lstAt (le2.at ha) ck
        refine .inl ⟨⟨us, SqL.of hu, by rw [ru.length]; exact Nat.le_refl _⟩, ?_⟩
        rw [List.append_nil] at eo
        subst eo
        have g9 : Good K dk H0 F0 F2 σ H2 env st' := g1.step x2 g2.wd
        exact q Dn acc F2 H2 (x1.trans x2) g9 hDH f2 hacc racc
    · cases e
  · refine if_comp (ii_seq h) hg ht he hv dk H0 F0 F σ H env st out st' gd ?_ Q q
    have ee : ((seqOf d).bind fun ds => if ds.length ≤ sizeLine then compL t c f (wipeE env vs) ds s1 else none) = some (out, st') := by
      cases d with
      | ref n => exact absurd ⟨n, rfl⟩ hr
      | _ => exact e
    obtain ⟨ds, e2, e3⟩ := bnd ee
    show ((seqI fi env st).bind fun p => if p.1.length ≤ sizeLine then compL t c f (wipeE env vs) p.1 p.2 else none) = _
    have : seqI fi env st = some (ds, s1) := by
      unfold seqI
      rw [e1]
      show (seqOf d).map _ = _
      rw [e2]; rfl
    rw [this]
    exact e3
theorem compLc_eq {n : Nat} {ds0 : List D} {t : MG} {c : MT} {f : ME} {env : Sg} {st : S} (hn : lstAt st n = some ds0) : ∀ {ds out : List D}, compL t c f env ds st = some (out, st) → (∀ d ∈ ds, ∀ e, t d env = some e → (∀ p, c e st = some p → p.2 = st) ∧ ∀ p, f e st = some p → p.2 = st) → compLc n ds0 t c f env ds st = some (out, st)
  | [], out, h, _ => by
    cases h
    exact cif_of hn
  | d :: ds, out, h, hp => by
    unfold compLc
    rw [cif_of hn]
    obtain ⟨e, e1, h⟩ := bnd (show ((t d env).bind fun e => (c e st).bind fun p => if p.1 then (f e p.2).bind fun q => (compL t c f env ds q.2).map fun r => (q.1 :: r.1, r.2) else compL t c f env ds p.2) = _ from h)
    obtain ⟨⟨b, s1⟩, e2, h⟩ := bnd h
    have p1 := (hp d (by simp) e e1).1 _ e2
    have p1' : s1 = st := p1
    subst p1'
    rw [e1]
    show ((c e s1).bind _) = _
    rw [e2]
    cases b with
    | false => exact compLc_eq hn h fun d' hd => hp d' (List.mem_cons_of_mem _ hd)
    | true =>
      obtain ⟨⟨y, s2⟩, e3, h⟩ := bnd (show ((f e s1).bind fun q => (compL t c f env ds q.2).map fun r => (q.1 :: r.1, r.2)) = _ from h)
      have p2 : s2 = s1 := (hp d (by simp) e e1).2 _ e3
      subst p2
      obtain ⟨⟨r, s3⟩, e4, h⟩ := mpd h
      cases h
      show ((f e _).bind _) = _
      rw [e3]
      show ((compLc n ds0 t c f env ds _).map _) = _
      rw [compLc_eq hn e4 fun d' hd => hp d' (List.mem_cons_of_mem _ hd)]
      rfl
end
/-! the law, where the deck comes with an own list -/
def env2 (n : Nat) : Sg := .un :: .val .deck :: .own (.lst, []) :: List.replicate (n - 3) .un
section
variable {P : Program} {w : World} {K : Fg} {mg : Str → Option Value} {base : Heap}
theorem fn_law2 {x qual : Str} {st : Stmt} {f : Addr} {fd : FuncData} {N ps : List Str} {k : Nat} {b : MS} (Fn : Fun K x qual st f fd) (S : FnScope N ps (defScope st)) (hN : 3 ≤ N.length) (hp : ps.length = 1)
    (hb : ∀ ns : List Int, ns.length ≤ 63 → ∃ s1, b (env2 N.length) ⟨ns.map absI, 0, []⟩ = some (.rt (.bl true), s1))
    (hbody : ∀ (cdv : Value) (A : Around) (outer : List Env) (s : Shared) (H : Hp) (E : XK), Room k (A.deeper (envOfC qual (defScope st) s.heap.objs.size f cdv)) → (A.deeper (envOfC qual (defScope st) s.heap.objs.size f cdv)).guards = some [] →
      ∃ tn t, PSs (cxOf CX0 P w K mg base N qual (defScope st) f cdv A outer s H E).nox (defBody st) (tSeq (tPar 1 2 (tCons (tCall (spDeck K) [] E0 (tCons (tVar 0) tNil)) (tCons tn tNil))) t) ∧ ImF K tn (lstM aNil) ∧ ImS K t b) : FnG P w K mg base (k + 1) f fd ps (spLaw K) := by
  refine fnG_of Fn S (fun vs H Q E h => ?_) fun cdv A outer s H vs Q E hr gd h => ?_
  · obtain ⟨a, ns, rfl, _⟩ := h
    rw [hp]; rfl
  · obtain ⟨a, ns, rfl, hs, hl, q⟩ := h
    obtain ⟨tn, t, h1, hn, h2⟩ := hbody cdv A outer s H E hr gd
    refine ⟨_, h1, ?_⟩
    obtain ⟨m, hm⟩ : ∃ m, N.length = m + 3 := ⟨N.length - 3, by omega⟩
    have es : L2.start N [V.ref a] = some (.ref a) :: none :: none :: List.replicate m none := by
      unfold L2.start
      rw [hm]
      rfl
    rw [es]
    refine ⟨_, rfl, a, ns, rfl, hs, hl, fun dk H' le wd => ?_⟩
    obtain ⟨s1, hr1⟩ := hb ns hl
    have g : Good K dk H' ⟨fun _ => none, []⟩ ⟨fun _ => none, []⟩ (some (.ref a) :: none :: none :: List.replicate m none) H' (List.replicate N.length .un) ⟨ns.map absI, 0, []⟩ := by
      refine ⟨wd, Ext.refl _ _, by rw [hm]; simp, fun i s e => ?_, fun i j ds es p hne e1 e2 e3 => ?_⟩
      · rw [List.getElem?_replicate] at e
        split at e
        · cases e; trivial
        · cases e
      · rw [List.getElem?_replicate] at e1
        split at e1 <;> cases e1
    refine hn.x dk H' _ _ _ H' _ _ (.own (.lst, [])) _ g rfl _ fun u F2 H2 x2 g2 k2 => ?_
    have g3 : Good K dk H' ⟨fun _ => none, []⟩ F2 ((some (.ref a) :: none :: none :: List.replicate m none).set 1 (some (.ref dk.1))) H2 ((List.replicate N.length .un).set 1 (.val .deck)) ⟨ns.map absI, 0, []⟩ := g2.set .deck
    have g4 : Good K dk H' ⟨fun _ => none, []⟩ F2 (((some (.ref a) :: none :: none :: List.replicate m none).set 1 (some (.ref dk.1))).set 2 (some u)) H2 (((List.replicate N.length .un).set 1 (.val .deck)).set 2 (.own (.lst, []))) ⟨ns.map absI, 0, []⟩ := g3.setX k2 (fun p hp => g.fresh0 hp) fun p hp jj es hj z => by
      by_cases hi : 1 = jj
      · subst hi
        rw [hm] at hj
        cases hj
      · rw [List.getElem?_set_ne hi] at hj
        rw [List.getElem?_replicate] at hj
        split at hj <;> cases hj
    have ee : ((List.replicate N.length Sl.un).set 1 (.val .deck)).set 2 (.own (.lst, [])) = env2 N.length := by
      rw [hm]; rfl
    rw [ee] at g4
    refine ⟨_, _, rfl, ?_⟩
    refine h2 dk H' _ F2 _ H2 _ _ _ s1 g4 hr1 _ ?_
    intro v F' H3 _ _ r
    cases r
    exact q H3
end
/-! making what a caller knows -/
theorem clsOk_mk {K : Fg} {c : Str} {C : Addr} {fl : List Str} (h : PySem.W.nsIn K mainGlobals c = some (some (.ref C))) (cl : Cls K C) (no : ∀ f ∈ fl, NoAttr K C f) : ClsOk K c fl := by
  have e : clsOf K c = some C := by unfold clsOf; rw [h]
  refine ⟨fun C' h' => ?_, fun C' h' => ?_⟩ <;> (rw [e] at h'; cases h')
  · exact cl
  · exact no
theorem calM_mk {P : Program} {w : World} {K : Fg} {mg : Str → Option Value} {base : Heap} {k : Nat} {c m : Str} {ps : List Str} {sp : Sp} {C f : Addr} {fd : FuncData} (h : PySem.W.nsIn K mainGlobals c = some (some (.ref C))) (cl : Cls K C) (F : FnG P w K mg base k f fd ps sp) (M : Meth K C m f) (b : Binds K fd ps []) : CalM P w K mg base k c m ps sp :=
  ⟨C, by unfold clsOf; rw [h], cl, f, fd, F, M, b⟩
theorem calK_mk {P : Program} {w : World} {K : Fg} {mg : Str → Option Value} {base : Heap} {k : Nat} {c : Str} {ps : List Str} {sp : Sp} {C f : Addr} {fd : FuncData} (h : PySem.W.nsIn K mainGlobals c = some (some (.ref C))) (hm : mg c = some (.ref C)) (F : FnG P w K mg base k f fd ps sp) (M : Mk K C f) (b : Binds K fd ps []) : CalK P w K mg base k c ps sp :=
  ⟨C, by unfold clsOf; rw [h], hm, f, fd, F, M, b⟩
end MD

set_option Elab.async false
set_option linter.all false
set_option maxRecDepth 100000
set_option maxHeartbeats 1000000
namespace MD
open PySem PySem.Spec PyProof.Rows L2
/-! ### a text, so many times -/
def repT (x : Str) (k : Int) : Str := if k < 1 then Str.empty else if (k == 1 || x.length == 0) = true then x else ⟨(List.replicate k.toNat x.cps).foldl (· ++ ·) #[]⟩
theorem rep_fold (l : Array Nat) : ∀ (n : Nat) (a : Array Nat), ((List.replicate n l).foldl (· ++ ·) a).toList = a.toList ++ (List.replicate n l.toList).flatten
  | 0, a => by simp
  | n + 1, a => by rw [List.replicate_succ, List.foldl_cons, rep_fold l n, List.replicate_succ, List.flatten_cons, Array.toList_append, List.append_assoc]
theorem rep_flat_nil (n : Nat) : (List.replicate n ([] : List Nat)).flatten = [] := by
  induction n with
  | zero => rfl
  | succ n ih => rw [List.replicate_succ, List.flatten_cons, ih]; rfl
theorem repT_list (x : Str) (k : Int) : (repT x k).cps.toList = (List.replicate k.toNat x.cps.toList).flatten := by
  unfold repT
  split
  · rename_i h
    have : k.toNat = 0 := by omega
    rw [this]; rfl
  · split
    · rename_i h1 h2
      rcases Bool.or_eq_true_iff.mp h2 with z | z
      · have : k = 1 := by simpa using z
        subst this; simp
      · have : x.cps.toList = [] := by
          have h3 : x.cps.size = 0 := (by simpa using z : x.length = 0)
          exact List.eq_nil_of_length_eq_zero (by simpa using h3)
        rw [this, rep_flat_nil]
    · exact (rep_fold x.cps k.toNat #[]).trans (by simp)
theorem rep_len (l : List Nat) : ∀ n : Nat, (List.replicate n l).flatten.length = n * l.length
  | 0 => by simp
  | n + 1 => by rw [List.replicate_succ, List.flatten_cons, List.length_append, rep_len l n, Nat.succ_mul]; omega
theorem repT_len (x : Str) (k : Int) : (repT x k).length = k.toNat * x.length := by
  have h := congrArg List.length (repT_list x k)
  rw [rep_len, Array.length_toList, Array.length_toList] at h
  exact h
def rMulS : R2 := fun x y H Q => ∃ i k, x = .str i ∧ y = .int k ∧ i.length ≤ 10000 ∧ -1000 ≤ k ∧ k ≤ 1000 ∧ Q (.str (repT i k)) H
theorem op_mulS {X : Cx} : OpR X (binaryOp .Mult) rMulS := by
  intro pins s σ H x y v u Q I rx ry h
  obtain ⟨i, k, rfl, rfl, hz, k0, k1, q⟩ := h
  obtain ⟨t, rfl⟩ := rx
  obtain ⟨t', rfl⟩ := ry
  have hle : k.toNat * i.length ≤ 10000000 := by
    have h1 : k.toNat ≤ 1000 := by omega
    exact Nat.le_trans (Nat.mul_le_mul h1 hz) (by decide)
  refine P.mul_str (by rw [decide_eq_false (by omega), decide_eq_false (by omega)] <;> rfl) (fun h1 h2 h3 => ?_) (fun h1 h2 => ?_) ?_
  · have h4 : ((i.length : Int) ≤ 10000) := by omega
    have h5 : (10000 : Int) ≤ (2 ^ 63 - 1) / k := by
      refine (Int.le_ediv_iff_mul_le (by omega)).mpr ?_
      have : 10000 * k ≤ 10000 * 1000 := by omega
      exact Int.le_trans this (by decide)
    omega
  · unfold Builtin.Str.tooLong
    refine decide_eq_false ?_
    have : i.length * k.toNat ≤ 10000000 := by rw [Nat.mul_comm]; exact hle
    exact Nat.not_lt.mpr (Nat.le_trans this (by decide))
  · have hl : (repT i k).length ≤ sizeLine := by rw [repT_len]; exact Nat.le_trans hle (by decide)
    unfold repT at hl q
    by_cases h1 : k < 1
    · simp only [if_pos h1] at hl q ⊢
      exact ⟨hl, .str _, H, I.tok _, ⟨_, rfl⟩, q⟩
    · simp only [if_neg h1] at hl q ⊢
      by_cases h2 : (k == 1 || i.length == 0) = true
      · simp only [if_pos h2] at hl q ⊢
        exact ⟨.str _, H, I, ⟨_, rfl⟩, q⟩
      · simp only [if_neg h2] at hl q ⊢
        exact ⟨hl, .str _, H, I.tok _, ⟨_, rfl⟩, q⟩
section
variable {K : Fg}
def mulS : D → D → Option D
  | .str x, .int k => if x.length ≤ 10000 ∧ -1000 ≤ k ∧ k ≤ 1000 then some (.str (repT x k)) else none
  | _, _ => none
theorem ro_mulS : RO K rMulS mulS := by
  intro dk F H st x y d e z w rx ry hz Q q
  unfold mulS at hz
  split at hz
  · rename_i x k
    split at hz
    · rename_i hc
      cases hz
      cases rx.str
      cases ry.int
      exact ⟨x, k, rfl, rfl, hc.1, hc.2.1, hc.2.2, q _ F H (Px.refl w.sub) (.str _)⟩
    · cases hz
  · cases hz
end
/-! ### list(text) -/
def rListS : List V → Hp → VK → Prop := fun xs H Q => ∃ x, xs = [.str x] ∧ x.cps.size ≤ sizeLine ∧ ∀ p, H p = none → Q (.ref p) (upd H p (.lst ((signs x).map V.str)))
theorem call_listS {X : Cx} (hc : X.calm = true) : CallR X (.type "list") rListS := by
  intro pins s σ H xs us Q I rs h
  obtain ⟨x, rfl, hz, q⟩ := h
  obtain ⟨u, rfl, rx⟩ := vals1 rs
  obtain ⟨t, rfl⟩ := rx
  refine call_list_str (I.ok.hd hc) x t (fun h' tk acc c' hk hl hi => ?_) hz
  have lenA : acc.toList.length = (signs x).length := by
    unfold signs
    rw [List.length_map, Array.length_toList, Array.length_toList]
    exact hi.1
  have vals : Vals ((signs x).map V.str) acc.toList := by
    have key : ∀ (l : List Value) (m : List Nat), l.length = m.length → (∀ (j : Nat) (v : Value), l[j]? = some v → ∃ c u, m[j]? = some c ∧ v = .str ⟨#[c]⟩ u) → Vals ((m.map fun c => (⟨#[c]⟩ : Str)).map V.str) l := by
      intro l
      induction l with
      | nil => intro m hm _; cases m with
        | nil => exact .nil
        | cons _ _ => cases hm
      | cons a l ih => intro m hm hj; cases m with
        | nil => cases hm
        | cons c m =>
          obtain ⟨c', u, e1, e2⟩ := hj 0 a rfl
          have e1' : c = c' := Option.some.inj e1
          subst e1' e2
          exact .cons ⟨u, rfl⟩ (ih m (by simpa using hm) fun j v hv => hj (j + 1) v hv)
    refine key acc.toList x.cps.toList (by simpa [signs] using lenA) fun j v hv => ?_
    obtain ⟨c, u, h1, h2⟩ := hi.2 j v (by simpa using hv)
    exact ⟨c, u, by simpa using h1, h2⟩
  refine ⟨.ref s.heap.objs.size, _, I.laid (t' := tk) hk (Nat.le_refl _) (show ObjOk X.prog X.w _ h' _ (.lst ((signs x).map V.str)) from ⟨?_, acc.toList, c', vals, ?_⟩), rfl, q _ (I.hok.fresh (Nat.le_refl _))⟩
  · rw [List.length_map]
    unfold signs
    rw [List.length_map, Array.length_toList]
    exact hz
  · rw [hl, Array.toArray_toList]
def listSM (f : ME) : MA := fun env st => (f env st).bind fun p => match p.1 with
  | .str x => if x.cps.size ≤ sizeLine then some ((signs x).map D.str, p.2) else none
  | _ => none
theorem if_listS {K : Fg} {ta : TA} {f : ME} (ha : ImAW K ta (aCons f aNil)) : ImF K (tCB rListS ta) (listSM f) := fun dk H0 F0 F σ H env st d st' g e Q q => by
  obtain ⟨⟨x, s1⟩, h1, e⟩ := bnd e
  have h1' : aCons f aNil env st = some ([x], s1) := by
    show (f env st).bind _ = _
    rw [h1]; rfl
  refine ha dk H0 F0 F σ H env st [x] s1 g h1' _ fun vs F1 H1 x1 g1 r1 => ?_
  cases x with
  | str y =>
    replace e : (if y.cps.size ≤ sizeLine then some ((signs y).map D.str, s1) else none) = some (d, st') := e
    split at e
    · rename_i hz
      cases e
      obtain ⟨v, rfl, r⟩ := (r1.dr g1.wd).one
      cases r.str
      refine ⟨y, rfl, hz, fun p hp => ?_⟩
      have px : Px F1 H1 F1 (upd H1 p (.lst ((signs y).map V.str))) := Px.lay g1.wd.sub hp
      exact q p _ F1 _ (x1.trans px.ext) (g1.px px) (x1.back hp) (g1.wd.out hp) upd_same (Rps.ofStrs _)
    · cases e
  | _ => cases e
/-! ### a test of the form: a if c else b -/
def tIfT (t u v : TT) : TT := fun σ H Q => t σ H fun c H1 => if c = true then u σ H1 Q else v σ H1 Q
theorem pt_ifExp {X : Cx} {a b c : Expr} {pos : Pos} {t u v : TT} (hc : PT X c t) (ha : PT X a u) (hb : PT X b v) : PT X (.IfExp c a b pos) (tIfT t u v) := by
  refine ⟨fun pins s σ H Q I h => ?_⟩
  rw [arm_isTrue_IfExp]
  refine wpAny_bind (thn (hc.run pins s σ H _ I h) fun d s1 ⟨H1, I1, q1⟩ => ?_)
  cases d with
  | true => exact ha.run pins s1 σ H1 Q I1 q1
  | false => exact hb.run pins s1 σ H1 Q I1 q1
def ifT (c f h : MT) : MT := fun env st => (c env st).bind fun p => if p.1 then f env p.2 else h env p.2
theorem it_if {K : Fg} {t u v : TT} {c f h : MT} (h0 : ImT K t c) (h1 : ImT K u f) (h2 : ImT K v h) : ImT K (tIfT t u v) (ifT c f h) := fun dk H0 F0 F σ H env st b st' g e Q q => by
  obtain ⟨⟨x, s1⟩, e1, e⟩ := bnd e
  refine h0 dk H0 F0 F σ H env st x s1 g e1 _ fun F1 H1 x1 g1 => ?_
  cases x with
  | true => exact h1 dk H0 F0 F1 σ H1 env s1 b st' g1 e Q fun F2 H2 x2 g2 => q F2 H2 (x1.trans x2) g2
  | false => exact h2 dk H0 F0 F1 σ H1 env s1 b st' g1 e Q fun F2 H2 x2 g2 => q F2 H2 (x1.trans x2) g2
end MD

set_option Elab.async false
set_option linter.all false
set_option maxRecDepth 100000
set_option maxHeartbeats 1000000
namespace MD
open PySem PySem.Spec PyProof.Rows L2
/-! ### t[::-1], t a tuple -/
section
variable {prog : Program} {w : World} {A : Around} {E : Value → Shared → Prop} {s : Shared}
theorem adj_rev (n : Nat) : Builtin.Slice.sliceAdjust none none (-1) (n : Int) = ((n : Int) - 1, -1) := by
  first
  | rfl
  | simp [Builtin.Slice.sliceAdjust]
theorem places_rev (n : Nat) : Builtin.Slice.slicePlaces ((n : Int) - 1) (-1) (-1) = n := by
  unfold Builtin.Slice.slicePlaces
  have h1 : ¬ ((-1 : Int) > 0) := by decide
  simp only [h1, if_false]
  split
  · rename_i h
    have e : ((n : Int) - 1 - -1 - 1) / (- -1) + 1 = (n : Int) := by
      rw [show (- -1 : Int) = 1 by decide, Int.ediv_one]
      omega
    first
    | (rw [e]; simp)
    | (simp at *; omega)
  · omega
theorem fmap_congr {α β : Type} {f g : α → Option β} : ∀ (l : List α), (∀ x ∈ l, f x = g x) → l.filterMap f = l.filterMap g
  | [], _ => rfl
  | x :: l, h => by
    rw [List.filterMap_cons, List.filterMap_cons, h x List.mem_cons_self, fmap_congr l fun y hy => h y (List.mem_cons_of_mem _ hy)]
theorem pick_rev (xs : Array Value) : ((List.range xs.size).filterMap fun (k : Nat) => xs[(((xs.size : Nat) : Int) - 1 + (k : Int) * (-1)).toNat]?).toArray = xs.toList.reverse.toArray := by
  have h := PySem.W.krv_range xs.size
  have e : ((List.range xs.size).filterMap fun (k : Nat) => xs[(((xs.size : Nat) : Int) - 1 + (k : Int) * (-1)).toNat]?) = ((List.range xs.size).map fun k => xs.size - 1 - k).filterMap (xs[·]?) := by
    rw [List.filterMap_map]
    refine fmap_congr _ fun k hk => ?_
    have := List.mem_range.mp hk
    show _ = xs[xs.size - 1 - k]?
    have : (((xs.size : Nat) : Int) - 1 + (k : Int) * (-1)).toNat = xs.size - 1 - k := by omega
    rw [this]
  rw [e, h, List.filterMap_reverse, PySem.W.krv_all]
theorem sliceApplied_rev {sl : Addr} {vl vu vs : Value} {n : Nat} {Q : Int × Int × Nat → Shared → Prop} (hs : s.heap.IsSliceOf sl vl vu vs) (pl : IsPart vl none) (pu : IsPart vu none) (ps : IsPart vs (some (-1)))
    (h : Q ((n : Int) - 1, -1, n) s) : wpAny (model prog w) A (Builtin.Slice.sliceApplied (.ref sl) (pure (n : Int))) Q E s := by
  obtain ⟨os, hos, hcs, hds⟩ := id hs
  unfold Builtin.Slice.sliceApplied Builtin.Slice.sliceFields
  refine wpAny_bind (wpAny_bind (wpAny_field hos hds (x := vl) rfl (wpAny_bind (wpAny_field hos hds (x := vu) rfl (wpAny_bind (wpAny_field hos hds (x := vs) rfl (wpAny_pure ?_)))))))
  refine wpAny_bind (HT.slicePart_ ps ?_)
  show wpAny _ _ (if ((-1 : Int) == 0) = true then _ else _) _ _ s
  rw [if_neg (by decide)]
  refine wpAny_bind (HT.slicePart_ pl (wpAny_bind (HT.slicePart_ pu (wpAny_bind (wpAny_pure ?_)))))
  show wpAny _ _ (match Builtin.Slice.sliceAdjust none none (-1) (n : Int) with | (lo, hi) => pure (lo, (-1 : Int), Builtin.Slice.slicePlaces lo hi (-1))) _ _ s
  rw [adj_rev n]
  show wpAny _ _ (pure ((n : Int) - 1, (-1 : Int), Builtin.Slice.slicePlaces ((n : Int) - 1) (-1) (-1))) _ _ s
  rw [places_rev]
  exact wpAny_pure h
theorem getItem_tuple_rev {t sl : Addr} {items : Array Value} {vl vu vs : Value} {Q : Value → Shared → Prop} (ht : IsTup s.heap t items) (hs : s.heap.IsSliceOf sl vl vu vs) (pl : IsPart vl none) (pu : IsPart vu none) (ps : IsPart vs (some (-1)))
    (h : Q (.ref s.heap.objs.size) { s with heap := s.heap.push { cls := .type "tuple", data := .seq items.toList.reverse.toArray } })
    (hsz : items.size ≤ sizeLine) : wpAny (model prog w) A (getItem (.ref t) (.ref sl)) Q E s := by
  have htake : sizeOk (.seq items.toList.reverse.toArray) := by
    show items.toList.reverse.toArray.size ≤ sizeLine
    rw [List.size_toArray, List.length_reverse, Array.length_toList]
    exact hsz
  obtain ⟨os, hos, hcs, hds⟩ := id hs
  have hTs : s.TypeIs (.ref sl) "slice" := ⟨os, hos, hcs⟩
  unfold getItem
  try with_reducible refine wpAny_holding ?_
  first | refine wpAny_bind (wpAny_pure ?_) | skip
  refine wpAny_bind (wpAny_sequenceKey ht.typeIs (by decide) ?_)
  refine wpAny_bind (wpAny_callSpecial?_slot (name := Str.ofString "__getitem__") ht.typeIs PyProof.Rows.slot_tuple_getitem
    (wpAny_call_entry PyProof.Rows.slot_tuple_getitem ht.typeIs entry_tuple_getitem ?_ (args_tuple_getitem _ _)))
  show wpAny _ _ (Builtin.Tuple.tupleItemsOf (.ref t) >>= _) _ _ s
  refine wpAny_bind (tupleItemsOf_ ht ?_)
  refine wpAny_bind (wpAny_typeOf hTs ?_)
  rw [if_pos (by decide)]
  refine wpAny_bind (sliceApplied_rev hs pl pu ps ?_)
  have hno : ¬ ((((items.size : Int) - 1) == 0 && (-1 : Int) == 1 && items.size == items.size) = true) := by
    intro q
    rw [Bool.and_eq_true, Bool.and_eq_true] at q
    exact absurd q.1.2 (by decide)
  show wpAny _ _ (if (((items.size : Int) - 1) == 0 && (-1 : Int) == 1 && items.size == items.size) = true then _ else _) _ _ s
  rw [if_neg hno, pick_rev]
  first
    | exact wpAny_bind (m := Builtin.Tuple.tupleExact _) (wpAny_newObj_type (wpAny_pure ⟨_, rfl, wpAny_pure h⟩) htake)
    | exact wpAny_bind (m := Builtin.Tuple.tupleExact _) (wpAny_newObj_type (wpAny_bind (wpAny_pure (wpAny_pure ⟨_, rfl, wpAny_pure h⟩))) htake)
    | exact wpAny_bind (wpAny_bind (m := Builtin.Tuple.tupleExact _) (wpAny_newObj_type (wpAny_pure (wpAny_pure ⟨_, rfl, wpAny_pure h⟩)) htake))
    | exact wpAny_bind (wpAny_bind (m := Builtin.Tuple.tupleExact _) (wpAny_newObj_type (wpAny_pure ⟨_, rfl, wpAny_pure h⟩) htake))
end
section
variable {X : Cx}
def tRevT (K : PySem.W.Frag) (te : TE) : TE := fun σ H Q => te σ H fun x H1 => ∃ a xs, x = .ref a ∧ SqT K H1 a xs ∧ ∀ p, H1 p = none → Q (.ref p) (upd H1 p (.tup xs.reverse))
theorem pe_revT {e : Expr} {te : TE} {k : Nat} {p1 p2 p3 pos : Pos} (he : PE X e te) : PE X (.Subscript e (.Slice none none (some (.UnaryOp .USub (.Constant (.int 1) k p1) p2)) p3) pos) (tRevT X.K te) := by
  refine ⟨fun pins s σ H Q I h => ?_⟩
  refine Subscript_ (thn (he.run pins s σ H _ I h) fun v s1 ⟨x, H1, I1, r1, q1⟩ => ?_)
  obtain ⟨a, xs, ex, hx, q⟩ := q1
  subst ex
  cases r1
  have hst : PO X (some (.UnaryOp .USub (.Constant (.int 1) k p1) p2)) (tPart (tUn (rU fun i => .int (-i)) (tC (.int 1)))) := po_some (pe_un un_neg pe_int)
  refine wpAny_Slice (thn (po_none.run pins s1 σ H1 (fun o H2 => o = none ∧ H2 = H1) I1 ⟨rfl, rfl⟩) fun vl s2 ⟨l, H2, I2, pl, el, e2⟩ => ?_)
  subst el e2
  refine thn (po_none.run pins s2 σ H2 (fun o H3 => o = none ∧ H3 = H2) I2 ⟨rfl, rfl⟩) fun vu s3 ⟨u, H3, I3, pu, eu, e3⟩ => ?_
  subst eu e3
  refine thn (hst.run pins s3 σ H3 (fun o H4 => o = some (-1) ∧ H4 = H3) I3 ⟨1, rfl, -1, rfl, rfl, rfl⟩) fun vs s4 ⟨o, H4, I4, ps, eo, e4⟩ => ?_
  subst eo e4
  have I5 : Inv X pins σ H4 { s4 with heap := s4.heap.push { cls := .type "slice", data := .fields #[vl, vu, vs] } } := I4.kept (t' := s4.toks) fun b ob q => Heap.get?_push_of_some _ q
  obtain ⟨its, r, ht, hz⟩ := I5.tuple hx
  have hlen : its.toArray.size = xs.length := by rw [List.size_toArray]; exact r.length.symm
  show wpAny (model X.prog X.w) X.A (subscriptTail e (.Slice none none (some (.UnaryOp .USub (.Constant (.int 1) k p1) p2)) p3) (.ref a) (.ref s4.heap.objs.size)) (EP X pins σ Q) X.xe { s4 with heap := s4.heap.push { cls := .type "slice", data := .fields #[vl, vu, vs] } }
  refine tail_any (ops := [.ref a, .ref s4.heap.objs.size]) ht.typeIs (PyProof.Rows.slot_tuple_getitem.lookup) ?_ (by with_unfolding_all rfl)
  refine getItem_tuple_rev ht (Heap.IsSliceOf.new _ vl vu vs) pl pu ps ?_ (by rw [hlen]; exact hz)
  refine ⟨.ref _, _, I5.laid (t' := s4.toks) (o := .tup xs.reverse) (fun b ob q => Heap.get?_push_of_some _ q) (Nat.le_refl _) ?_, rfl, q _ (I5.hok.fresh (Nat.le_refl _))⟩
  exact ⟨by rw [List.length_reverse]; exact hz, _, r.reverse, IsTup.new _ _⟩
end
section
variable {K : Fg}
def revT (f : ME) : ME := fun env st => (f env st).bind fun p => match dr p.2 p.1 with
  | .tup ds => some (.tup ds.reverse, p.2)
  | _ => none
theorem im_revT {te : TE} {f : ME} (h : ImW K te f) : Im K (tRevT K te) (revT f) := fun dk H0 F0 F σ H env st d st' g e Q q => by
  obtain ⟨⟨x, s1⟩, h1, e⟩ := bnd e
  refine h dk H0 F0 F σ H env st x s1 g h1 _ fun v F1 H1 x1 g1 r1 => ?_
  have r2 := r1.dr g1.wd
  dsimp only at e
  generalize dr s1 x = y at e r2
  split at e
  · cases e
    obtain ⟨a, vs, rfl, hl, r⟩ := r2.tup g1.wd.sub
    refine ⟨a, vs, rfl, hl, fun p hp => ?_⟩
    have px : Px F1 H1 (F1.up p (.tup vs.reverse)) (upd H1 p (.tup vs.reverse)) := Px.new g1.wd.sub hp
    exact q _ _ _ (x1.trans px.ext) (g1.px px) (.tup (SqT.of Fz.up_same) (r.reverse.mono px.f))
  · cases e
/-! ### text.upper() -/
def upM (f : ME) : ME := fun env st => (f env st).bind fun p => match p.1 with
  | .str x => if x.length ≤ 5592405 then some (.str (Txt.upper x), p.2) else none
  | _ => none
theorem im_upper {to : TE} {f : ME} (h : ImW K to f) : Im K (tM0 (fun x xs H Q => ∃ a, x = .str a ∧ xs = [] ∧ a.length ≤ 5592405 ∧ Q (.str (Txt.upper a)) H) to) (upM f) := fun dk H0 F0 F σ H env st d st' g e Q q => by
  obtain ⟨⟨x, s1⟩, h1, e⟩ := bnd e
  refine h dk H0 F0 F σ H env st x s1 g h1 _ fun v F1 H1 x1 g1 r1 => ?_
  cases x with
  | str y =>
    replace e : (if y.length ≤ 5592405 then some (D.str (Txt.upper y), s1) else none) = some (d, st') := e
    split at e
    · rename_i hz
      cases e
      cases (r1.dr g1.wd).str
      exact ⟨⟨y, rfl⟩, y, rfl, rfl, hz, q _ F1 H1 x1 g1 (.str _)⟩
    · cases e
  | _ => cases e
/-! ### list(e), e a text, a list, a tuple or a dict -/
def rListU (K : Fg) : List V → Hp → VK → Prop := fun xs H Q => rListA K xs H Q ∨ rListS xs H Q
theorem call_listU {X : Cx} (hc : X.calm = true) : CallR X (.type "list") (rListU X.K) := CallR.or (call_listA hc) (call_listS hc)
def listUM (f : ME) : MA := fun env st => (f env st).bind fun p => match dr p.2 p.1 with
  | .str x => if x.cps.size ≤ sizeLine then some ((signs x).map D.str, p.2) else none
  | .lst ds => some (ds, p.2)
  | .tup ds => some (ds, p.2)
  | _ => none
theorem if_listU {ta : TA} {f : ME} (ha : ImAW K ta (aCons f aNil)) : ImF K (tCB (rListU K) ta) (listUM f) := fun dk H0 F0 F σ H env st d st' g e Q q => by
  obtain ⟨⟨x, s1⟩, h1, e⟩ := bnd e
  have h1' : aCons f aNil env st = some ([x], s1) := by
    show (f env st).bind _ = _
    rw [h1]; rfl
  refine ha dk H0 F0 F σ H env st [x] s1 g h1' _ fun vs F1 H1 x1 g1 r1 => ?_
  have fin : ∀ (us : List V) (ds : List D) (p : Addr), H1 p = none → Rps K dk F1 us ds → some (ds, s1) = some (d, st') → Q (.ref p) (upd H1 p (.lst us)) := fun us ds p hp r e => by
    cases e
    have px : Px F1 H1 F1 (upd H1 p (.lst us)) := Px.lay g1.wd.sub hp
    exact q p us F1 _ (x1.trans px.ext) (g1.px px) (x1.back hp) (g1.wd.out hp) upd_same r
  have r2 := r1.dr g1.wd
  obtain ⟨v, rfl, r⟩ := r2.one
  replace e : (match dr s1 x with
    | .str x => if x.cps.size ≤ sizeLine then some ((signs x).map D.str, s1) else none
    | .lst ds => some (ds, s1)
    | .tup ds => some (ds, s1)
    | _ => none) = some (d, st') := e
  generalize dr s1 x = y at e r
  cases y with
  | str z =>
    replace e : (if z.cps.size ≤ sizeLine then some ((signs z).map D.str, s1) else none) = some (d, st') := e
    split at e
    · rename_i hz
      cases r.str
      exact .inr ⟨z, rfl, hz, fun p hp => fin _ _ p hp (Rps.ofStrs _) e⟩
    · cases e
  | lst ds =>
    obtain ⟨p, us, rfl, hl, r⟩ := r.l g1.wd.sub
    exact .inl (.inl ⟨p, us, rfl, .inl (SqL.of hl), fun l hl => fin us ds l hl r e⟩)
  | tup ds =>
    obtain ⟨p, us, rfl, hl, r⟩ := r.tup g1.wd.sub
    exact .inl (.inl ⟨p, us, rfl, .inr hl, fun l hl => fin us ds l hl r e⟩)
  | _ => cases e
end
end MD

set_option Elab.async false
set_option linter.all false
set_option maxRecDepth 100000
set_option maxHeartbeats 1000000
namespace MD
open PySem L2

/-! ### mirrors, evaluated -/
noncomputable def grd {α : Type} (n : Nat) (o : Option α) : Option α := cif (n ≤ sizeLine) o
theorem grd_eq {α : Type} (n : Nat) (o : Option α) : (if n ≤ sizeLine then o else none) = grd n o := cif_eq _ _
theorem grd_lt {α : Type} (n : Nat) (o : Option α) : (if n < sizeLine then o else none) = grd (n + 1) o := cif_eq _ _
theorem grd_of {α : Type} {n : Nat} {o : Option α} (h : n ≤ 1000000) : grd n o = o := if_pos (Nat.le_trans h (by decide))
noncomputable def rng1 : List D → Option (List D)
  | [.int j] => cif (-(2 ^ 62) ≤ j ∧ j < 2 ^ 62) (some (rngD 0 j.toNat))
  | _ => none
noncomputable def rng2 : List D → Option (List D)
  | [.int i, .int j] => cif (-(2 ^ 62) ≤ i ∧ i < 2 ^ 62 ∧ -(2 ^ 62) ≤ j ∧ j < 2 ^ 62) (some (rngD i (j - i).toNat))
  | _ => none
theorem rng1_of {j : Int} (h0 : -1000000 ≤ j) (h1 : j ≤ 1000000) : rng1 [.int j] = some (rngD 0 j.toNat) := cif_of ⟨by omega, by omega⟩
theorem rng2_of {i j : Int} (h0 : -1000000 ≤ i) (h1 : i ≤ 1000000) (h2 : -1000000 ≤ j) (h3 : j ≤ 1000000) : rng2 [.int i, .int j] = some (rngD i (j - i).toNat) := cif_of ⟨by omega, by omega, by omega, by omega⟩
theorem rngD_len (lo : Int) (n : Nat) : (rngD lo n).length = n := by unfold rngD; simp
theorem small_sz {n : Nat} (h : n ≤ 1000000) : n ≤ sizeLine := Nat.le_trans h (by decide)
/-! what does not stand in the store is itself -/
@[simp] theorem dr_non (st : S) : dr st .non = .non := (rfl)
@[simp] theorem dr_bl (st : S) (b : Bool) : dr st (.bl b) = .bl b := (rfl)
@[simp] theorem dr_int (st : S) (i : Int) : dr st (.int i) = .int i := (rfl)
@[simp] theorem dr_str (st : S) (x : Str) : dr st (.str x) = .str x := (rfl)
@[simp] theorem dr_lst (st : S) (ds : List D) : dr st (.lst ds) = .lst ds := (rfl)
@[simp] theorem dr_tup (st : S) (ds : List D) : dr st (.tup ds) = .tup ds := (rfl)
@[simp] theorem dr_deck (st : S) : dr st .deck = .deck := (rfl)
@[simp] theorem dr_dic (st : S) (ks : List L2.Key) (ds : List D) : dr st (.dic ks ds) = .dic ks ds := (rfl)
theorem dr_ref (st : S) (n : Nat) : dr st (.ref n) = match st.ob[n]? with | some (.lst ds) => .lst ds | some (.dic _ ks ds) => .dic ks ds | _ => .ref n := (rfl)
theorem dr_of {st : S} {d : D} (h : ∀ n, d ≠ .ref n) : dr st d = d := by
  cases d with
  | ref n => exact absurd rfl (h n)
  | _ => rfl
@[simp] theorem nonD_dr (st : S) (d : D) : nonD (dr st d) = nonD d := by
  cases d with
  | ref n =>
    rw [dr_ref]
    split <;> rfl
  | _ => rfl
@[simp] theorem map_dr_nil (st : S) : List.map (dr st) [] = [] := rfl
section
variable {env : Sg} {st : S} {f h fa fb fc fe fo : ME} {c : MT} {a r : MA} {i j n : Nat} {d e : D} {ds es : List D}
@[simp] theorem v_frz : frz a env st = (a env st).map fun p => (D.lst p.1, p.2) := (rfl)
@[simp] theorem v_rd : rd i env st = (match env[i]? with | some (.val d) => some (d, st) | _ => none) := (rfl)
@[simp] theorem v_rdW : rdW i env st = (match env[i]? with | some (.val d) => some (d, st) | some (.own (.lst, ds)) => some (D.lst ds, st) | some (.own (.dic ks, ds)) => some (D.dic ks ds, st) | _ => none) := (rfl)
@[simp] theorem v_cst : cst d env st = some (d, st) := (rfl)
@[simp] theorem v_opM {g : D → D → Option D} : opM g fa fb env st = (fa env st).bind fun p => (fb env p.2).bind fun q => (g (dr q.2 p.1) (dr q.2 q.1)).map fun z => (z, q.2) := (rfl)
@[simp] theorem v_unM {g : D → Option D} : unM g fa env st = (fa env st).bind fun p => (g p.1).map fun z => (z, p.2) := (rfl)
@[simp] theorem v_slM {g : D → Option Int → Option Int → Option D} {fl fh : MO} : slM g fe fl fh env st = (fe env st).bind fun p => (fl env p.2).bind fun l => (fh env l.2).bind fun u => (g (dr u.2 p.1) l.1 u.1).map fun z => (z, u.2) := (rfl)
@[simp] theorem v_noP : noP env st = some (none, st) := (rfl)
@[simp] theorem v_prt : prt f env st = (f env st).bind fun p => (intOf p.1).map fun i => (some i, p.2) := (rfl)
@[simp] theorem v_aNil : aNil env st = some ([], st) := (rfl)
@[simp] theorem v_aCons : aCons f r env st = (f env st).bind fun p => (r env p.2).map fun q => (p.1 :: q.1, q.2) := (rfl)
@[simp] theorem v_tupM : tupM a env st = (a env st).bind fun p => grd p.1.length (some (D.tup p.1, p.2)) := by
  unfold tupM; simp only [grd_eq]
@[simp] theorem v_lstM : lstM a env st = (a env st).bind fun p => grd p.1.length (some p) := by
  unfold lstM; simp only [grd_eq]
@[simp] theorem v_cbM {g : List D → Option D} : cbM g a env st = (a env st).bind fun p => (g (p.1.map (dr p.2))).map fun z => (z, p.2) := (rfl)
@[simp] theorem v_m1M {g : D → List D → Option D} : m1M g fo fe env st = (fo env st).bind fun p => if isStrD p.1 then (fe env p.2).bind fun q => (g p.1 [dr q.2 q.1]).map fun z => (z, q.2) else none := (rfl)
@[simp] theorem v_bmL {g : D → List D → Option D} : bmL g fo a env st = (fo env st).bind fun p => if isLstD (dr p.2 p.1) then (a env p.2).bind fun q => (g (dr q.2 p.1) (q.1.map (dr q.2))).map fun z => (z, q.2) else none := (rfl)
@[simp] theorem v_tstM : tstM f env st = (f env st).bind fun p => (blOf p.1).map fun b => (b, p.2) := (rfl)
@[simp] theorem v_truM : truM f env st = (f env st).bind fun p => (truD (dr p.2 p.1)).map fun b => (b, p.2) := (rfl)
@[simp] theorem v_andM {c' : MT} : andM c c' env st = (c env st).bind fun p => if p.1 then c' env p.2 else some (false, p.2) := (rfl)
@[simp] theorem v_orM {c' : MT} : orM c c' env st = (c env st).bind fun p => if p.1 then some (true, p.2) else c' env p.2 := (rfl)
@[simp] theorem v_notM : notM c env st = (c env st).map fun p => (!p.1, p.2) := (rfl)
@[simp] theorem v_andV : andV f h env st = (f env st).bind fun p => (blOf p.1).bind fun b => if b then h env p.2 else some (D.bl false, p.2) := (rfl)
@[simp] theorem v_orV : orV f h env st = (f env st).bind fun p => (blOf p.1).bind fun b => if b then some (D.bl true, p.2) else h env p.2 := (rfl)
@[simp] theorem v_notV : notV f env st = (f env st).bind fun p => (blOf p.1).map fun b => (D.bl (!b), p.2) := (rfl)
@[simp] theorem v_ifM : ifM c f h env st = (c env st).bind fun p => if p.1 then f env p.2 else h env p.2 := (rfl)
@[simp] theorem v_chM {g g' : D → D → Option D} : chM g g' fa fb fc env st = (fa env st).bind fun p => (fb env p.2).bind fun q => (g p.1 q.1).bind fun z => (blOf z).bind fun b =>
  if b then (fc env q.2).bind fun r => (g' q.1 r.1).map fun z => (z, r.2) else some (D.bl false, q.2) := (rfl)
@[simp] theorem v_nxM : nxM env st = some (.nx env, st) := (rfl)
@[simp] theorem v_seqM {p q : MS} : seqM p q env st = (p env st).bind fun x => match x.1 with | .nx e => q e x.2 | fl => some (fl, x.2) := (rfl)
@[simp] theorem v_retM : retM f env st = (f env st).map fun p => (.rt p.1, p.2) := (rfl)
@[simp] theorem v_retN : retN env st = some (.rt .non, st) := (rfl)
@[simp] theorem v_ifS {p q : MS} : ifS c p q env st = (c env st).bind fun x => if x.1 then p env x.2 else q env x.2 := (rfl)
@[simp] theorem v_dropM : dropM f env st = (f env st).map fun p => (.nx env, p.2) := (rfl)
@[simp] theorem v_nameT : nameT i d env = some (env.set i (.val d)) := (rfl)
@[simp] theorem v_nilT : nilT [] env = some env := (rfl)
@[simp] theorem v_consT {t : MG} {u : List D → Sg → Option Sg} : consT t u (d :: ds) env = (t d env).bind fun e => u ds e := (rfl)
@[simp] theorem v_tupT {u : List D → Sg → Option Sg} : tupT n u (.tup ds) env = if ds.length = n then u ds env else none := (rfl)
@[simp] theorem v_asgM {t : MG} : asgM t f env st = (f env st).bind fun p => (t p.1 env).map fun e => (.nx e, p.2) := (rfl)
@[simp] theorem v_ownM : ownM i a env st = (a env st).map fun p => (.nx (env.set i (.own (.lst, p.1))), p.2) := (rfl)
@[simp] theorem v_parM : parM i j a env st = (a env st).bind fun p => (two i j env p.1).map fun e => (.nx e, p.2) := (rfl)
@[simp] theorem v_two : two i j env [d, e] = some ((env.set i (.val d)).set j (.val e)) := (rfl)
@[simp] theorem v_augM {op : D → D → Option D} : augM i op f env st = (match env[i]? with | some (.val x) => (f env st).bind fun p => (op x p.1).map fun z => (.nx (env.set i (.val z)), p.2) | _ => none) := (rfl)
@[simp] theorem v_frzM {p : MS} : frzM i p env st = p (frzE i env) st := (rfl)
@[simp] theorem v_frzE : frzE i env = (match env[i]? with | some (.own (.lst, ds)) => env.set i (.val (.lst ds)) | some (.own (.dic ks, ds)) => env.set i (.val (.dic ks ds)) | _ => env) := (rfl)
@[simp] theorem v_appM : appM i f env st = (match env[i]? with | some (.own (.lst, ds)) => grd (ds.length + 1) ((f env st).map fun p => (.nx (env.set i (.own (.lst, ds ++ [p.1]))), p.2)) | _ => none) := by
  unfold appM; simp only [grd_lt] <;> rfl
@[simp] theorem v_extM : extM i f env st = (match env[i]? with | some (.own (.lst, ds)) => (f env st).bind fun p => (lstOf (dr p.2 p.1)).bind fun es => grd (ds.length + es.length) (some (.nx (env.set i (.own (.lst, ds ++ es))), p.2)) | _ => none) := by
  unfold extM; simp only [grd_eq] <;> rfl
@[simp] theorem v_yesM : yesM env st = some (true, st) := (rfl)
@[simp] theorem v_r1M : r1M a env st = (a env st).bind fun p => (rng1 p.1).map fun ds => (ds, p.2) := by
  unfold r1M
  congr 1
  funext p
  obtain ⟨l, s⟩ := p
  show (match l with | [.int j] => if -(2 ^ 62) ≤ j ∧ j < 2 ^ 62 then some (rngD 0 j.toNat, s) else none | _ => none) = (rng1 l).map fun ds => (ds, s)
  unfold rng1
  split
  · rw [cif_eq]; unfold cif; split <;> rfl
  · rfl
@[simp] theorem v_r2M : r2M a env st = (a env st).bind fun p => (rng2 p.1).map fun ds => (ds, p.2) := by
  unfold r2M
  congr 1
  funext p
  obtain ⟨l, s⟩ := p
  show (match l with | [.int i, .int j] => if -(2 ^ 62) ≤ i ∧ i < 2 ^ 62 ∧ -(2 ^ 62) ≤ j ∧ j < 2 ^ 62 then some (rngD i (j - i).toNat, s) else none | _ => none) = (rng2 l).map fun ds => (ds, s)
  unfold rng2
  split
  · rw [cif_eq]; unfold cif; split <;> rfl
  · rfl
@[simp] theorem v_seqI : seqI f env st = (f env st).bind fun p => (seqOf p.1).map fun ds => (ds, p.2) := (rfl)
@[simp] theorem v_enumI : enumI f env st = (f env st).bind fun p => (seqOf p.1).map fun ds => (enumD ds, p.2) := (rfl)
@[simp] theorem v_forM {it : MI} {t : MG} {b : MS} : forM it t b env st = (it env st).bind fun p => forL t b p.1 env p.2 := (rfl)
@[simp] theorem v_compM {it : MI} {t : MG} {vs : List Nat} : compM it t c f vs env st = (it env st).bind fun p => grd p.1.length (compL t c f (wipeE env vs) p.1 p.2) := by
  unfold compM; simp only [grd_eq]
@[simp] theorem v_callM {m : MF} : callM m a env st = (a env st).bind fun p => m p.1 p.2 := (rfl)
@[simp] theorem v_runM {b : MS} : runM n b ds st = (b (ds.map Sl.val ++ List.replicate (n - ds.length) Sl.un) st).bind fun p => match p.1 with | .rt d => some (d, p.2) | .nx _ => some (.non, p.2) | _ => none := (rfl)
@[simp] theorem v_wipe0 : wipeE env [] = env := (rfl)
@[simp] theorem v_wipe1 {v : Nat} {vs : List Nat} : wipeE env (v :: vs) = (wipeE env vs).set v .un := (rfl)
@[simp] theorem v_forL0 {t : MG} {b : MS} : forL t b [] env st = some (.nx env, st) := (rfl)
theorem v_forL {t : MG} {b : MS} : forL t b (d :: ds) env st = (t d env).bind fun env1 => (b env1 st).bind fun p => match p.1 with
    | .nx e => forL t b ds e p.2
    | .ct e => forL t b ds e p.2
    | .bk e => some (.nx e, p.2)
    | .rt r => some (.rt r, p.2) := (rfl)
@[simp] theorem v_compL0 {t : MG} : compL t c f env [] st = some ([], st) := (rfl)
theorem v_compL {t : MG} : compL t c f env (d :: ds) st = (t d env).bind fun e => (c e st).bind fun p => if p.1 then (f e p.2).bind fun q => (compL t c f env ds q.2).map fun r => (q.1 :: r.1, r.2) else compL t c f env ds p.2 := (rfl)
/-! dicts, the store -/
@[simp] theorem v_frzK {k : MK} : frzK k env st = (k env st).map fun p => (D.dic p.1.1 p.1.2, p.2) := (rfl)
@[simp] theorem v_ownK {k : MK} : ownK i k env st = (k env st).map fun p => (.nx (env.set i (.own (.dic p.1.1, p.1.2))), p.2) := (rfl)
@[simp] theorem v_newK : newK env st = some (([], []), st) := (rfl)
@[simp] theorem v_cpyK : cpyK f env st = (f env st).bind fun p => (isDicD (dr p.2 p.1)).map fun q => (q, p.2) := (rfl)
@[simp] theorem v_isDic {ks : List L2.Key} : isDicD (.dic ks ds) = some (ks, ds) := (rfl)
@[simp] theorem v_pNil : pNil env st = some ([], st) := (rfl)
@[simp] theorem v_pCons {r : MP} : pCons f h r env st = (f env st).bind fun p => (keyOf p.1).bind fun k => (h env p.2).bind fun q => (r env q.2).map fun z => ((k, q.1) :: z.1, z.2) := (rfl)
@[simp] theorem v_dispK {r : MP} : dispK r env st = (r env st).bind fun p => if p.1.length ≤ 15 then some (mrgL [] [] p.1, p.2) else none := (rfl)
@[simp] theorem v_mrg1 {k : L2.Key} : mrgL [] [] [(k, d)] = ([k], [d]) := (rfl)
@[simp] theorem v_keyI {j : Int} : keyOf (.int j) = some (.inl j) := (rfl)
@[simp] theorem v_keyS {x : Str} : keyOf (.str x) = some (.inr x) := (rfl)
@[simp] theorem v_get1M : get1M f h env st = (f env st).bind fun p => (isDicD (dr p.2 p.1)).bind fun _ => (h env p.2).bind fun q => (isDicD (dr q.2 p.1)).bind fun z => (keyOf q.1).map fun k => ((getK z.1 z.2 k).getD .non, q.2) := (rfl)
@[simp] theorem v_get2M : get2M f h fa env st = (f env st).bind fun p => (isDicD (dr p.2 p.1)).bind fun _ => (h env p.2).bind fun q => (fa env q.2).bind fun r => (isDicD (dr r.2 p.1)).bind fun z => (keyOf q.1).map fun k => ((getK z.1 z.2 k).getD r.1, r.2) := (rfl)
@[simp] theorem v_dputM : dputM i f h env st = (match env[i]? with
  | some (.own (.dic ks, ds)) => (h env st).bind fun p => (f env p.2).bind fun q => (keyOf q.1).bind fun k => grd (ds.length + 1) (some (.nx (env.set i (.own (.dic (putKs ks k), putVs ks ds k p.1))), q.2))
  | _ => none) := by
  unfold dputM; simp only [grd_lt] <;> rfl
@[simp] theorem v_subD {ks : List L2.Key} : subD (.dic ks ds) d = (keyOf d).bind fun k => getK ks ds k := (rfl)
@[simp] theorem v_subL : subD (.lst ds) d = ixM (.lst ds) d := (rfl)
@[simp] theorem v_subT : subD (.tup ds) d = ixM (.tup ds) d := (rfl)
@[simp] theorem v_subS {x : Str} : subD (.str x) d = ixM (.str x) d := (rfl)
@[simp] theorem v_cntD {n : Bool} {ks : List L2.Key} : cntD n d (.dic ks ds) = (keyOf d).map fun k => .bl (if n then !(getK ks ds k).isSome else (getK ks ds k).isSome) := (rfl)
@[simp] theorem v_cntL {n : Bool} : cntD n d (.lst ds) = if n then notInM d (.lst ds) else inM d (.lst ds) := (rfl)
@[simp] theorem v_cntT {n : Bool} : cntD n d (.tup ds) = if n then notInM d (.tup ds) else inM d (.tup ds) := (rfl)
@[simp] theorem v_cntS {n : Bool} {x : Str} : cntD n d (.str x) = if n then notInM d (.str x) else inM d (.str x) := (rfl)
@[simp] theorem v_lenAD {ks : List L2.Key} : lenA [.dic ks ds] = some (.int ks.length) := (rfl)
@[simp] theorem v_lenAL : lenA [.lst ds] = some (.int ds.length) := (rfl)
@[simp] theorem v_lenAT : lenA [.tup ds] = some (.int ds.length) := (rfl)
@[simp] theorem v_lenAS {z : Str} : lenA [.str z] = grd z.length (some (.int z.length)) := by
  show lenM [.str z] = _
  show (if z.length ≤ sizeLine then some (D.int z.length) else none) = _
  rw [grd_eq]
@[simp] theorem v_stoL : stoL a env st = (a env st).map fun p => (D.ref p.2.ob.length, p.2.ad (.lst p.1)) := (rfl)
@[simp] theorem v_stoK {k : MK} : stoK k env st = (k env st).map fun p => (D.ref p.2.ob.length, p.2.ad (.dic false p.1.1 p.1.2)) := (rfl)
@[simp] theorem v_refOf {n : Nat} : refOf (.ref n) = some n := (rfl)
@[simp] theorem v_sappM : sappM f h env st = (f env st).bind fun o => (refOf o.1).bind fun n => (lstAt o.2 n).bind fun _ => (h env o.2).bind fun p => (lstAt p.2 n).bind fun ds => grd (ds.length + 1) (some (.nx env, p.2.put n (.lst (ds ++ [p.1])))) := by
  unfold sappM; simp only [grd_lt]
@[simp] theorem v_sputM : sputM f h fa env st = (fa env st).bind fun p => (f env p.2).bind fun o => (refOf o.1).bind fun n => (h env o.2).bind fun q => (keyOf q.1).bind fun k => (dicAt q.2 n).bind fun z => grd (z.2.length + 1) (some (.nx env, q.2.put n (.dic false (putKs z.1 k) (putVs z.1 z.2 k p.1)))) := by
  unfold sputM; simp only [grd_lt]
@[simp] theorem v_spopM : spopM f env st = (f env st).bind fun o => (refOf o.1).bind fun n => (lstAt o.2 n).bind fun ds => (ds[ds.length - 1]?).map fun d => (d, o.2.put n (.lst ds.dropLast)) := (rfl)
@[simp] theorem v_listM : listM a env st = (a env st).bind fun p => (listD (p.1.map (dr p.2))).map fun z => (z, p.2) := (rfl)
@[simp] theorem v_listDL : listD [.lst ds] = some ds := (rfl)
@[simp] theorem v_listDT : listD [.tup ds] = some ds := (rfl)
@[simp] theorem v_listDD {ks : List L2.Key} : listD [.dic ks ds] = some (ks.map keyD) := (rfl)
@[simp] theorem v_isiM {T : String} : isiM T f env st = (f env st).bind fun p => (tyD (dr p.2 p.1)).bind fun t => (kitB t T).map fun b => (D.bl b, p.2) := (rfl)
@[simp] theorem v_dcM {it : MI} {t : MG} {vs : List Nat} : dcM it t c f h vs env st = (it env st).bind fun p => grd p.1.length (dcL t c f h (wipeE env vs) p.1 ([], []) p.2) := by
  unfold dcM; simp only [grd_eq]
@[simp] theorem v_mulAI {x y : Int} : mulA (.int x) (.int y) = mulM (.int x) (.int y) := (rfl)
/-! values -/
@[simp] theorem v_intOf {i : Int} : intOf (.int i) = some i := (rfl)
@[simp] theorem v_blOf {b : Bool} : blOf (.bl b) = some b := (rfl)
@[simp] theorem v_isStr {s : Str} : isStrD (.str s) = true := (rfl)
@[simp] theorem v_isLst : isLstD (.lst ds) = true := (rfl)
@[simp] theorem v_iI {g : Int → Int → D} {i j : Int} : iI g (.int i) (.int j) = some (g i j) := (rfl)
theorem v_iIC0 {C : Int → Int → Prop} [∀ i j, Decidable (C i j)] {g : Int → Int → D} {i j : Int} (h : C i j) : iIC C g (.int i) (.int j) = some (g i j) := if_pos h
@[simp] theorem v_unI {g : Int → D} {i : Int} : unI g (.int i) = some (g i) := (rfl)
@[simp] theorem v_addI {i j : Int} : addM (.int i) (.int j) = some (.int (i + j)) := (rfl)
@[simp] theorem v_addS {i j : Str} : addM (.str i) (.str j) = grd (i.length + j.length) (some (.str (i ++ j))) := by
  rw [← grd_eq]; rfl
@[simp] theorem v_addT {i j : List D} : addM (.tup i) (.tup j) = grd (i.length + j.length) (some (.tup (i ++ j))) := by
  rw [← grd_eq]; rfl
@[simp] theorem v_addL {i j : List D} : addM (.lst i) (.lst j) = grd (i.length + j.length) (some (.lst (i ++ j))) := by
  rw [← grd_eq]; rfl
@[simp] theorem v_ixL {i : Int} : ixM (.lst ds) (.int i) = L2.atI ds i := (rfl)
@[simp] theorem v_ixT {i : Int} : ixM (.tup ds) (.int i) = L2.atI ds i := (rfl)
@[simp] theorem v_ixS {z : Str} {i : Int} : ixM (.str z) (.int i) = grd z.length ((L2.atI z.cps.toList i).map fun c => .str ⟨#[c]⟩) := by
  rw [← grd_eq]; rfl
@[simp] theorem v_lenS {z : Str} : lenM [.str z] = grd z.length (some (.int z.length)) := by
  rw [← grd_eq]; rfl
@[simp] theorem v_lenL : lenM [.lst ds] = some (.int ds.length) := (rfl)
@[simp] theorem v_lenT : lenM [.tup ds] = some (.int ds.length) := (rfl)
@[simp] theorem v_seqL : seqOf (.lst ds) = some ds := (rfl)
@[simp] theorem v_seqT : seqOf (.tup ds) = some ds := (rfl)
@[simp] theorem v_seqS {x : Str} : seqOf (.str x) = some ((signs x).map D.str) := (rfl)
@[simp] theorem v_tupleL : tupleM [.lst ds] = some (.tup ds) := (rfl)
@[simp] theorem v_tupleT : tupleM [.tup ds] = some (.tup ds) := (rfl)
@[simp] theorem v_tupleS {x : Str} : tupleM [.str x] = grd x.cps.size (some (.tup ((signs x).map D.str))) := by
  rw [← grd_eq]; rfl
@[simp] theorem v_slT {lo hi : Option Int} : slAny (.tup ds) lo hi = some (.tup (cutD ds lo hi)) := (rfl)
@[simp] theorem v_slS {z : Str} {lo hi : Option Int} : slAny (.str z) lo hi = grd z.length (some (.str (cutS z lo hi))) := by
  rw [← grd_eq]
  unfold slAny slTup slStr slLst
  by_cases h : z.length ≤ sizeLine <;> simp [h, Option.orElse]
@[simp] theorem v_slL {lo hi : Option Int} : slAny (.lst ds) lo hi = some (.lst (cutD ds lo hi)) := (rfl)
@[simp] theorem v_sumM : sumM [.lst ds] = (intsOf ds).map fun ns => .int ns.sum := (rfl)
@[simp] theorem v_maxM : maxM [.lst (d :: ds)] = (intsOf (d :: ds)).map fun ns => .int (topI ns) := (rfl)
@[simp] theorem v_minM : minM [.lst (d :: ds)] = (intsOf (d :: ds)).map fun ns => .int (botI ns) := (rfl)
@[simp] theorem v_int1 {i : Int} : int1M [.int i] = some (.int i) := (rfl)
@[simp] theorem v_lstOf : lstOf (.lst ds) = some ds := (rfl)
@[simp] theorem intsOf_map (ns : List Int) : intsOf (ns.map D.int) = some ns := by
  induction ns with
  | nil => rfl
  | cons x r ih => show (intsOf (r.map D.int)).map (x :: ·) = _; rw [ih]; rfl
@[simp] theorem strsOf_map (ns : List Str) : strsOf (ns.map D.str) = some ns := by
  induction ns with
  | nil => rfl
  | cons x r ih => show (strsOf (r.map D.str)).map (x :: ·) = _; rw [ih]; rfl
end

/-! ### words as lists of codes -/
def W (ws : List Nat) : Str := ⟨ws.toArray⟩
@[simp] theorem W_len (ws : List Nat) : (W ws).length = ws.length := by show ws.toArray.size = _; simp
@[simp] theorem W_size (ws : List Nat) : (W ws).cps.size = ws.length := by show ws.toArray.size = _; simp
@[simp] theorem W_list (ws : List Nat) : (W ws).cps.toList = ws := by show ws.toArray.toList = _; simp
theorem W_inj {a b : List Nat} (h : W a = W b) : a = b := by
  have := congrArg (fun s : Str => s.cps.toList) h
  simpa using this
theorem W_of (s : Str) : W s.cps.toList = s := by
  obtain ⟨⟨l⟩⟩ := s
  rfl
@[simp] theorem W_signs (ws : List Nat) : signs (W ws) = ws.map fun c => W [c] := by
  unfold signs
  rw [W_list]
  rfl
theorem W_app (a b : List Nat) : W a ++ W b = W (a ++ b) := by
  show (⟨(W a).cps ++ (W b).cps⟩ : Str) = _
  unfold W
  simp
theorem sIx_some {n : Nat} {i : Int} (h0 : 0 ≤ i) (h1 : i ≤ n) (d : Nat) : HT.sIx n d (some i) = i.toNat := by
  have e := HT.sIx_nat n d i.toNat
  rw [Int.toNat_of_nonneg h0] at e
  rw [e]
  omega
theorem cutW_to {ws : List Nat} {n : Int} (h0 : 0 ≤ n) (h1 : n ≤ ws.length) : cutS (W ws) none (some n) = W (ws.take n.toNat) := by
  unfold cutS
  rw [W_list, W_len, HT.sIx_none, sIx_some h0 h1]
  rfl
theorem cutW_from {ws : List Nat} {n : Int} (h0 : 0 ≤ n) (h1 : n ≤ ws.length) : cutS (W ws) (some n) none = W (ws.drop n.toNat) := by
  unfold cutS
  rw [W_list, W_len, HT.sIx_none, sIx_some h0 h1]
  show (⟨((ws.drop n.toNat).take (ws.length - n.toNat)).toArray⟩ : Str) = _
  rw [List.take_of_length_le (by rw [List.length_drop]; exact Nat.le_refl _)]
  rfl
theorem cutD_from {ds : List D} {n : Int} (h0 : 0 ≤ n) (h1 : n ≤ ds.length) : cutD ds (some n) none = ds.drop n.toNat := by
  unfold cutD
  rw [HT.sIx_none, sIx_some h0 h1]
  exact List.take_of_length_le (by rw [List.length_drop]; exact Nat.le_refl _)
theorem cutD_to {ds : List D} {n : Int} (h0 : 0 ≤ n) (h1 : n ≤ ds.length) : cutD ds none (some n) = ds.take n.toNat := by
  unfold cutD
  rw [HT.sIx_none, sIx_some h0 h1]
  rfl
theorem atI_of {α : Type} {xs : List α} {j : Nat} {x : α} (h : xs[j]? = some x) : L2.atI xs (j : Int) = some x := atI_nat h
theorem atI_nn {α : Type} {xs : List α} {i : Int} (h0 : 0 ≤ i) : L2.atI xs i = xs[i.toNat]? := by
  unfold L2.atI ixN
  rw [if_pos h0]
  by_cases h : i < xs.length
  · rw [if_pos h]; rfl
  · rw [if_neg h, List.getElem?_eq_none (by omega)]; rfl
/-! letters -/
def Let (k : Nat) (c : Nat) : Prop := 97 ≤ c ∧ c < 97 + k
theorem occ_abcd {c : Nat} (h : Let 4 c) : Builtin.Str.occurrences "abcd" (W [c]) 0 ("abcd" : Str).length 1 = [c - 97] := by
  obtain ⟨h1, h2⟩ := h
  have : c = 97 ∨ c = 98 ∨ c = 99 ∨ c = 100 := by omega
  rcases this with rfl | rfl | rfl | rfl <;> decide +kernel
theorem idx_abcd {c : Nat} (h : Let 4 c) : sindexM (.str "abcd") [.str (W [c])] = some (.int ((c - 97 : Nat) : Int)) := by
  show (match Builtin.Str.occurrences "abcd" (W [c]) 0 ("abcd" : Str).length 1 with | i :: _ => some (D.int (i : Nat)) | [] => none) = _
  rw [occ_abcd h]
theorem abcd_W : ("abcd" : Str) = W [97, 98, 99, 100] := by decide +kernel
theorem empty_W : ("" : Str) = W [] := by decide +kernel
/-! comparisons -/
@[simp] theorem eq_int (i j : Int) : eqM (.int i) (.int j) = some (.bl (decide (i = j))) := (rfl)
@[simp] theorem ne_int (i j : Int) : neM (.int i) (.int j) = some (.bl (!decide (i = j))) := (rfl)
@[simp] theorem eq_str (i j : Str) : eqM (.str i) (.str j) = some (.bl (decide (i = j))) := (rfl)
@[simp] theorem ne_str (i j : Str) : neM (.str i) (.str j) = some (.bl (!decide (i = j))) := (rfl)
@[simp] theorem is_non (d : D) : isM d .non = some (.bl (nonD d)) := (rfl)
@[simp] theorem isnot_non (d : D) : isNotM d .non = some (.bl (!nonD d)) := (rfl)
theorem pyAll_ints (ns : List Int) : pyAll (ns.map D.int) = ns.map PyData.int := by
  induction ns with
  | nil => rfl
  | cons x r ih => show D.py (.int x) :: pyAll (r.map D.int) = _; rw [ih]; rfl
theorem plAll_ints (ns : List Int) : plAll (ns.map D.int) = true := by
  induction ns with
  | nil => rfl
  | cons x r ih => show (D.pl (.int x) && plAll (r.map D.int)) = true; rw [ih]; rfl
theorem lay_ints (ns : List Int) : PyData.canLayAll0 (ns.map PyData.int) = true := by
  induction ns with
  | nil => rfl
  | cons x r ih => show (PyData.canLay0 (.int x) && PyData.canLayAll0 (r.map PyData.int)) = true; rw [ih]; rfl
theorem depth_ints (ns : List Int) : PyData.depthAll (ns.map PyData.int) ≤ 1 := by
  induction ns with
  | nil => simp [PyData.depthAll]
  | cons x r ih => simp [PyData.depthAll, PyData.depth] at ih ⊢; omega
theorem eqv_ints : ∀ (a b : List Int), PyData.eqvAll (a.map PyData.int) (b.map PyData.int) = decide (a = b)
  | [], [] => by rfl
  | [], y :: b => by rfl
  | x :: a, [] => by rfl
  | x :: a, y :: b => by
    show (PyData.eqv (.int x) (.int y) && PyData.eqvAll (a.map PyData.int) (b.map PyData.int)) = _
    rw [eqv_ints a b]
    show ((x == y) && decide (a = b)) = _
    by_cases h1 : x = y
    · by_cases h2 : a = b
      · simp [h1, h2]
      · simp [h1, h2]
    · simp [h1]
theorem okD_ints (ns : List Int) : okD (.lst (ns.map D.int)) = true := by
  unfold okD
  rw [D.pl, plAll_ints, D.py, pyAll_ints]
  show (true && SeqAt.shaped (.list (ns.map PyData.int))) = true
  unfold SeqAt.shaped
  rw [PyData.canLay0, lay_ints]
  have := depth_ints ns
  simp [PyData.depth]
  omega
theorem ne_ints (a b : List Int) : neM (.lst (a.map D.int)) (.lst (b.map D.int)) = some (.bl (!decide (a = b))) := by
  unfold neM eqB
  have e : sEq (.lst (a.map D.int)) (.lst (b.map D.int)) = none := rfl
  rw [e]
  simp only [okD_ints, Bool.and_self, if_true, Option.map_some, D.py, pyAll_ints, PyData.eqv, eqv_ints]
theorem eq_ints (a b : List Int) : eqM (.lst (a.map D.int)) (.lst (b.map D.int)) = some (.bl (decide (a = b))) := by
  unfold eqM eqB
  have e : sEq (.lst (a.map D.int)) (.lst (b.map D.int)) = none := rfl
  rw [e]
  simp only [okD_ints, Bool.and_self, if_true, Option.map_some, D.py, pyAll_ints, PyData.eqv, eqv_ints]
theorem allFlat_ints (a : List Int) : (a.map D.int).all flatD = true := by
  rw [List.all_map]; simp [Function.comp_def, flatD]
theorem inB_ints (x : Int) (a : List Int) : inB (.int x) (a.map D.int) = decide (x ∈ a) := by
  unfold inB
  induction a with
  | nil => rfl
  | cons y r ih =>
    rw [List.map_cons, List.any_cons, ih]
    show ((y == x) || decide (x ∈ r)) = _
    by_cases h1 : y = x
    · simp [h1]
    · have h2 : x ≠ y := fun z => h1 z.symm
      simp [h1, h2]
theorem in_ints (x : Int) (a : List Int) : inM (.int x) (.lst (a.map D.int)) = some (.bl (decide (x ∈ a))) := by
  show (if (flatD (.int x) && (a.map D.int).all flatD) = true then some (D.bl (if false = true then !inB (.int x) (a.map D.int) else inB (.int x) (a.map D.int))) else none) = _
  rw [allFlat_ints, inB_ints]
  simp [flatD]
theorem lindex_ints (x : Int) (a : List Int) : lindexM (.lst (a.map D.int)) [.int x] = (a.findIdx? fun y => y == x).map fun j => .int (j : Nat) := by
  show (if (flatD (.int x) && (a.map D.int).all flatD) = true then ((a.map D.int).findIdx? fun z => eqFD z (.int x)).map fun j => D.int (j : Nat) else none) = _
  rw [allFlat_ints]
  simp only [flatD, Bool.and_self, if_true, List.findIdx?_map]
  rfl
end MD

set_option Elab.async false
set_option linter.all false
set_option maxRecDepth 100000
set_option maxHeartbeats 1000000
namespace MD
open PySem L2

/-! ### what a drawn value is, and how many draws it takes -/
def Yes {α : Type} (c : Nat) (o : S → Option (α × S)) (P : α → Prop) : Prop :=
  ∀ st : S, 0 ≤ st.n → st.n + (c : Int) ≤ nMax → ∃ a st', o st = some (a, st') ∧ P a ∧ st.n ≤ st'.n ∧ st'.n ≤ st.n + (c : Int)
section
variable {α β : Type} {c c' : Nat} {P Q : α → Prop}
theorem Yes.pure {a : α} (h : P a) : Yes 0 (fun st => some (a, st)) P := fun st h0 h1 => ⟨a, st, rfl, h, Int.le_refl _, by simp⟩
theorem Yes.of_eq {o : S → Option (α × S)} {a : α} (e : ∀ st, o st = some (a, st)) (h : P a) : Yes 0 o P := fun st h0 h1 => ⟨a, st, e st, h, Int.le_refl _, by simp⟩
theorem Yes.mono {o : S → Option (α × S)} (h : Yes c o P) (hc : c ≤ c') (hp : ∀ a, P a → Q a) : Yes c' o Q := fun st h0 h1 => by
  obtain ⟨a, st', e, p, l1, l2⟩ := h st h0 (by omega)
  exact ⟨a, st', e, hp a p, l1, by omega⟩
theorem Yes.bind {o : S → Option (α × S)} {g : α × S → Option (β × S)} {R : β → Prop} (h : Yes c o P) (hg : ∀ a, P a → Yes c' (fun st => g (a, st)) R) : Yes (c + c') (fun st => (o st).bind g) R := fun st h0 h1 => by
  obtain ⟨a, s1, e, p, l1, l2⟩ := h st h0 (by omega)
  obtain ⟨b, s2, e2, r, l3, l4⟩ := hg a p s1 (by omega) (by omega)
  exact ⟨b, s2, by show (o st).bind g = _; rw [e]; exact e2, r, by omega, by omega⟩
theorem Yes.map {o : S → Option (α × S)} {g : α × S → β × S} {R : β → Prop} {k : α → β} (h : Yes c o P) (hk : ∀ a st, g (a, st) = (k a, st)) (hg : ∀ a, P a → R (k a)) : Yes c (fun st => (o st).map g) R := fun st h0 h1 => by
  obtain ⟨a, s1, e, p, l1, l2⟩ := h st h0 h1
  exact ⟨k a, s1, by show (o st).map g = _; rw [e]; show some (g (a, s1)) = _; rw [hk], hg a p, l1, l2⟩
theorem Yes.congr {o o' : S → Option (α × S)} (h : Yes c o P) (e : ∀ st, o' st = o st) : Yes c o' P := fun st h0 h1 => by
  rw [e st]; exact h st h0 h1
end
theorem drawT_n (many : Int) (st : S) : (drawT many st).n = st.n + 1 := by unfold drawT; split <;> rfl
theorem drawV_lt {c : DC} {many : Int} (h : 0 < many) (st : S) : 0 ≤ drawV c many st ∧ drawV c many st < many := by
  unfold drawV
  split <;> exact ⟨Int.emod_nonneg _ (by omega), Int.emod_lt_of_pos _ h⟩
theorem draw_yes {c : DC} {many : Int} (h1 : 0 < many) (h2 : many < 1073741824) : Yes 1 (drawM c [.deck, .int many]) fun d => ∃ r : Int, d = .int r ∧ 0 ≤ r ∧ r < many := fun st h0 hn => by
  have := drawV_lt (c := c) h1 st
  refine ⟨_, drawT many st, ?_, ⟨_, rfl, this.1, this.2⟩, ?_, ?_⟩
  · unfold drawM
    exact if_pos ⟨h1, h2, h0, by omega⟩
  · rw [drawT_n]; omega
  · rw [drawT_n]; omega

/-! ### comprehensions and loops -/
theorem compL_pure {t : MG} {c : MT} {f : ME} {env : Sg} {st : S} (P : D → Bool) (g : D → D) : ∀ (ds : List D), (∀ d ∈ ds, ∃ e, t d env = some e ∧ c e st = some (P d, st) ∧ (P d = true → f e st = some (g d, st))) →
    compL t c f env ds st = some ((ds.filter P).map g, st)
  | [], _ => rfl
  | d :: ds, h => by
    obtain ⟨e, h1, h2, h3⟩ := h d List.mem_cons_self
    have ih := compL_pure P g ds fun x hx => h x (List.mem_cons_of_mem _ hx)
    rw [v_compL, h1]
    simp only [Option.bind_some, h2]
    cases hp : P d with
    | true => simp [h3 hp, ih, hp]
    | false => simp [ih, hp]
theorem compL_map {t : MG} {f : ME} {env : Sg} {st : S} (g : D → D) (ds : List D) (h : ∀ d ∈ ds, ∃ e, t d env = some e ∧ f e st = some (g d, st)) : compL t yesM f env ds st = some (ds.map g, st) := by
  have := compL_pure (t := t) (c := yesM) (f := f) (env := env) (st := st) (fun _ => true) g ds fun d hd => by
    obtain ⟨e, h1, h2⟩ := h d hd
    exact ⟨e, h1, rfl, fun _ => h2⟩
  rw [this]
  congr 2
  rw [List.filter_eq_self.mpr (by simp)]
theorem compL_yes {t : MG} {f : ME} {env : Sg} {k : Nat} {P : D → Prop} : ∀ (ds : List D), (∀ d ∈ ds, ∃ e, t d env = some e ∧ Yes k (f e) P) → Yes (ds.length * k) (compL t yesM f env ds) fun l => l.length = ds.length ∧ ∀ x ∈ l, P x
  | [], _ => (Yes.of_eq (fun _ => rfl) ⟨rfl, fun _ h => nomatch h⟩).mono (Nat.zero_le _) fun _ h => h
  | d :: ds, h => by
    obtain ⟨e, h1, h2⟩ := h d List.mem_cons_self
    have ih := compL_yes ds fun x hx => h x (List.mem_cons_of_mem _ hx)
    intro st h0 hn
    have en : ((d :: ds).length * k : Nat) = k + ds.length * k := by rw [List.length_cons, Nat.succ_mul]; omega
    rw [en] at hn ⊢
    obtain ⟨y, s1, e1, p1, l1, l2⟩ := h2 st h0 (by omega)
    obtain ⟨l, s2, e2, p2, l3, l4⟩ := ih s1 (by omega) (by omega)
    refine ⟨y :: l, s2, ?_, ⟨by simp [p2.1], fun x hx => ?_⟩, by omega, by omega⟩
    · rw [v_compL, h1]
      simp [e1, e2]
    · rcases List.mem_cons.mp hx with z | z
      · rw [z]; exact p1
      · exact p2.2 x z
/-- a loop that keeps I and always goes on -/
theorem forL_yes {t : MG} {b : MS} {k : Nat} {I : Sg → Prop} : ∀ (ds : List D) (env : Sg), I env → (∀ d ∈ ds, ∀ env, I env → ∃ e, t d env = some e ∧ Yes k (b e) fun fl => ∃ e', fl = .nx e' ∧ I e') →
    Yes (ds.length * k) (forL t b ds env) fun fl => ∃ e, fl = .nx e ∧ I e
  | [], env, hi, _ => (Yes.of_eq (fun _ => rfl) ⟨env, rfl, hi⟩).mono (Nat.zero_le _) fun _ h => h
  | d :: ds, env, hi, h => by
    obtain ⟨e, h1, h2⟩ := h d List.mem_cons_self env hi
    intro st h0 hn
    have en : ((d :: ds).length * k : Nat) = k + ds.length * k := by rw [List.length_cons, Nat.succ_mul]; omega
    rw [en] at hn ⊢
    obtain ⟨fl, s1, e1, ⟨e', rfl, i1⟩, l1, l2⟩ := h2 st h0 (by omega)
    obtain ⟨fl2, s2, e2, p2, l3, l4⟩ := forL_yes ds e' i1 (fun x hx => h x (List.mem_cons_of_mem _ hx)) s1 (by omega) (by omega)
    refine ⟨fl2, s2, ?_, p2, by omega, by omega⟩
    rw [v_forL, h1]
    simp [e1, e2]
theorem yes_seq {f h : MS} {env : Sg} {c c' : Nat} {R : Sg → Prop} {Q : Fl → Prop} (h1 : Yes c (f env) fun fl => ∃ e, fl = .nx e ∧ R e) (h2 : ∀ e, R e → Yes c' (h e) Q) : Yes (c + c') (seqM f h env) Q := by
  refine (Yes.bind h1 (g := fun x => match x.1 with | .nx e => h e x.2 | fl => some (fl, x.2)) fun fl hfl => ?_).congr fun st => rfl
  obtain ⟨e, rfl, r⟩ := hfl
  exact h2 e r
theorem yes_asg {i : Nat} {f : ME} {env : Sg} {c : Nat} {P : D → Prop} (h : Yes c (f env) P) : Yes c (asgM (nameT i) f env) fun fl => ∃ e, fl = .nx e ∧ ∃ d, P d ∧ e = env.set i (.val d) :=
  (Yes.map h (k := fun d => Fl.nx (env.set i (.val d))) (g := fun p => (Fl.nx (env.set i (.val p.1)), p.2)) (fun _ _ => rfl) fun d hd => ⟨_, rfl, d, hd, rfl⟩).congr fun st => by
    simp only [v_asgM, v_nameT, Option.map_some]
    cases f env st <;> rfl
end MD

set_option Elab.async false
set_option linter.all false
set_option maxRecDepth 100000
set_option maxHeartbeats 1000000
namespace MD
open PySem L2
section
variable {α : Type} (a b c d : α)
@[simp] theorem at_10 : L2.atI [a] 0 = some a := (rfl)
@[simp] theorem at_20 : L2.atI [a, b] 0 = some a := (rfl)
@[simp] theorem at_21 : L2.atI [a, b] 1 = some b := (rfl)
@[simp] theorem at_30 : L2.atI [a, b, c] 0 = some a := (rfl)
@[simp] theorem at_31 : L2.atI [a, b, c] 1 = some b := (rfl)
@[simp] theorem at_32 : L2.atI [a, b, c] 2 = some c := (rfl)
end
@[simp] theorem tru_non : truD .non = some false := (rfl)
@[simp] theorem tru_bl (b : Bool) : truD (.bl b) = some b := (rfl)
@[simp] theorem tru_int (i : Int) : truD (.int i) = some (i != 0) := (rfl)
@[simp] theorem tru_lst (ds : List D) : truD (.lst ds) = some (!ds.isEmpty) := (rfl)
@[simp] theorem tru_tup (ds : List D) : truD (.tup ds) = some (!ds.isEmpty) := (rfl)
/-! ### data that may be compared with == -/
def Nice (d : D) : Prop := d.pl = true ∧ d.py.canLay0 = true ∧ d.py.depth ≤ 20
theorem plAll_of {ds : List D} : (∀ d ∈ ds, d.pl = true) → plAll ds = true := by
  induction ds with
  | nil => intro _; rfl
  | cons x r ih =>
    intro h
    show (x.pl && plAll r) = true
    rw [h x List.mem_cons_self, ih fun y hy => h y (List.mem_cons_of_mem _ hy)]; rfl
theorem layAll_of {ds : List D} : (∀ d ∈ ds, d.py.canLay0 = true) → PyData.canLayAll0 (pyAll ds) = true := by
  induction ds with
  | nil => intro _; rfl
  | cons x r ih =>
    intro h
    show (x.py.canLay0 && PyData.canLayAll0 (pyAll r)) = true
    rw [h x List.mem_cons_self, ih fun y hy => h y (List.mem_cons_of_mem _ hy)]; rfl
theorem depAll_of {n : Nat} {ds : List D} : (∀ d ∈ ds, d.py.depth ≤ n) → PyData.depthAll (pyAll ds) ≤ n := by
  induction ds with
  | nil => intro _; exact Nat.zero_le _
  | cons x r ih =>
    intro h
    show max x.py.depth (PyData.depthAll (pyAll r)) ≤ n
    have h1 := h x List.mem_cons_self
    have h2 := ih fun y hy => h y (List.mem_cons_of_mem _ hy)
    omega
theorem Nice.okD {ds : List D} (h : ∀ d ∈ ds, Nice d) : okD (.lst ds) = true := by
  unfold MD.okD SeqAt.shaped
  have h1 : (D.lst ds).pl = true := by rw [D.pl]; exact plAll_of fun d hd => (h d hd).1
  have h2 : (D.lst ds).py.canLay0 = true := by rw [D.py, PyData.canLay0]; exact layAll_of fun d hd => (h d hd).2.1
  have h3 : (D.lst ds).py.depth ≤ 64 := by
    rw [D.py, PyData.depth]
    have := depAll_of (n := 20) fun d hd => (h d hd).2.2
    omega
  rw [h1, h2, decide_eq_true h3]; rfl
theorem Nice.int (i : Int) : Nice (.int i) := ⟨rfl, rfl, by simp [D.py, PyData.depth]⟩
theorem Nice.bl (i : Bool) : Nice (.bl i) := ⟨rfl, rfl, by simp [D.py, PyData.depth]⟩
theorem Nice.non : Nice .non := ⟨rfl, rfl, by simp [D.py, PyData.depth]⟩
theorem Nice.tup' {n : Nat} {ds : List D} (h : ∀ d ∈ ds, d.pl = true ∧ d.py.canLay0 = true ∧ d.py.depth ≤ n) : (D.tup ds).pl = true ∧ (D.tup ds).py.canLay0 = true ∧ (D.tup ds).py.depth ≤ n + 1 := by
  refine ⟨by rw [D.pl]; exact plAll_of fun d hd => (h d hd).1, by rw [D.py, PyData.canLay0]; exact layAll_of fun d hd => (h d hd).2.1, ?_⟩
  rw [D.py, PyData.depth]
  have := depAll_of (n := n) fun d hd => (h d hd).2.2
  omega
theorem ne_nil {ds : List D} (h : ∀ d ∈ ds, Nice d) : neM (.lst ds) (.lst []) = some (.bl (!ds.isEmpty)) := by
  unfold neM eqB
  have e : sEq (.lst ds) (.lst []) = none := rfl
  have h0 : MD.okD (.lst []) = true := Nice.okD fun d hd => nomatch hd
  rw [e]
  simp only [Nice.okD h, h0, Bool.and_self, if_true, Option.map_some]
  cases ds with
  | nil => rfl
  | cons x r => rfl
theorem eq_nil {ds : List D} (h : ∀ d ∈ ds, Nice d) : eqM (.lst ds) (.lst []) = some (.bl ds.isEmpty) := by
  unfold eqM eqB
  have e : sEq (.lst ds) (.lst []) = none := rfl
  have h0 : MD.okD (.lst []) = true := Nice.okD fun d hd => nomatch hd
  rw [e]
  simp only [Nice.okD h, h0, Bool.and_self, if_true, Option.map_some]
  cases ds with
  | nil => rfl
  | cons x r => rfl
theorem strOk_W {ws : List Nat} (h : ∀ c ∈ ws, c < 128) : (D.str (W ws)).py.canLay0 = true := by
  show PyData.strOk (W ws) = true
  unfold PyData.strOk
  rw [← Array.all_toList, W_list, List.all_eq_true]
  intro c hc
  have := h c hc
  exact decide_eq_true (by omega)
theorem Nice.strW {ws : List Nat} (h : ∀ c ∈ ws, c < 128) : Nice (.str (W ws)) := ⟨rfl, strOk_W h, by simp [D.py, PyData.depth]⟩
end MD

set_option Elab.async false
set_option linter.all false
set_option maxRecDepth 100000
set_option maxHeartbeats 1000000
namespace Lw
open PySem MD
/-! ### kinds -/
structure Kd where
  k : Nat
  rows : List (List (Option Nat))
  ends : List Bool
def optD : Option Nat → D
  | none => .non
  | some s => .int (s : Nat)
abbrev rowD (r : List (Option Nat)) : D := .tup (r.map optD)
abbrev tK (kd : Kd) : D := .tup [.int (kd.k : Nat), .tup (kd.rows.map rowD), .tup (kd.ends.map D.bl)]
structure Kd.Ok (kd : Kd) : Prop where
  k0 : 1 ≤ kd.k
  k4 : kd.k ≤ 4
  m0 : 1 ≤ kd.rows.length
  m8 : kd.rows.length ≤ 9
  me : kd.ends.length = kd.rows.length
  rl : ∀ r ∈ kd.rows, r.length = kd.k
  rs : ∀ r ∈ kd.rows, ∀ s, some s ∈ r → s < kd.rows.length
def row (kd : Kd) (s : Nat) : List (Option Nat) := kd.rows.getD s []
def stp (kd : Kd) (s x : Nat) : Option Nat := ((row kd s)[x]?).join
def isE (kd : Kd) (s : Nat) : Bool := kd.ends.getD s false
theorem row_at {kd : Kd} {s : Nat} (h : s < kd.rows.length) : kd.rows[s]? = some (row kd s) := by
  unfold row
  rw [List.getD_eq_getElem?_getD, List.getElem?_eq_getElem h]; rfl
theorem row_mem {kd : Kd} {s : Nat} (h : s < kd.rows.length) : row kd s ∈ kd.rows := List.mem_of_getElem? (row_at h)
theorem row_D {kd : Kd} {s : Nat} (h : s < kd.rows.length) : L2.atI (kd.rows.map rowD) ((s : Nat) : Int) = some (rowD (row kd s)) := by
  rw [atI_nn (by omega), Int.toNat_natCast, List.getElem?_map, row_at h]; rfl
theorem end_D {kd : Kd} (ok : kd.Ok) {s : Nat} (h : s < kd.rows.length) : L2.atI (kd.ends.map D.bl) ((s : Nat) : Int) = some (.bl (isE kd s)) := by
  rw [atI_nn (by omega), Int.toNat_natCast, List.getElem?_map]
  have h' : s < kd.ends.length := by rw [ok.me]; exact h
  unfold isE
  rw [List.getD_eq_getElem?_getD, List.getElem?_eq_getElem h']; rfl
theorem item_D {kd : Kd} (ok : kd.Ok) {s x : Nat} (h : s < kd.rows.length) (hx : x < kd.k) : L2.atI ((row kd s).map optD) ((x : Nat) : Int) = some (optD (stp kd s x)) := by
  rw [atI_nn (by omega), Int.toNat_natCast, List.getElem?_map]
  have hl : x < (row kd s).length := by rw [ok.rl _ (row_mem h)]; exact hx
  unfold stp
  rw [List.getElem?_eq_getElem hl]; rfl
theorem stp_lt {kd : Kd} (ok : kd.Ok) {s x s' : Nat} (h : s < kd.rows.length) (e : stp kd s x = some s') : s' < kd.rows.length := by
  unfold stp at e
  refine ok.rs _ (row_mem h) s' ?_
  cases hx : (row kd s)[x]? with
  | none => rw [hx] at e; cases e
  | some o =>
    rw [hx] at e
    have : o = some s' := e
    rw [← this]
    exact List.mem_of_getElem? hx
theorem tK0 (kd : Kd) : L2.atI [D.int (kd.k : Nat), .tup (kd.rows.map rowD), .tup (kd.ends.map D.bl)] 0 = some (.int (kd.k : Nat)) := atI_of (j := 0) rfl
theorem tK1 (kd : Kd) : L2.atI [D.int (kd.k : Nat), .tup (kd.rows.map rowD), .tup (kd.ends.map D.bl)] 1 = some (.tup (kd.rows.map rowD)) := atI_of (j := 1) rfl
theorem tK2 (kd : Kd) : L2.atI [D.int (kd.k : Nat), .tup (kd.rows.map rowD), .tup (kd.ends.map D.bl)] 2 = some (.tup (kd.ends.map D.bl)) := atI_of (j := 2) rfl
@[simp] theorem nonD_opt (o : Option Nat) : nonD (optD o) = o.isNone := by cases o <;> rfl
@[simp] theorem dr_opt (st : S) (o : Option Nat) : dr st (optD o) = optD o := by cases o <;> rfl
theorem rng_of {k : Nat} (h : k ≤ 1000000) : rng1 [.int ((k : Nat) : Int)] = some (rngD 0 k) := by rw [rng1_of (by omega) (by omega)]; simp
theorem rng_map (k : Nat) : rngD 0 k = (List.range k).map fun x => D.int ((x : Nat) : Int) := by
  unfold rngD
  simp
theorem abcd_at {x : Nat} (h : x < 4) : ixM (.str "abcd") (.int ((x : Nat) : Int)) = some (.str (W [97 + x])) := by
  rw [v_ixS, grd_of (by rw [abcd_W, W_len]; decide), atI_nn (by omega), Int.toNat_natCast, abcd_W, W_list]
  have : x = 0 ∨ x = 1 ∨ x = 2 ∨ x = 3 := by omega
  rcases this with rfl | rfl | rfl | rfl <;> rfl
/-! ### words, their counts, whether they are of a kind -/
def Lets (k : Nat) (ws : List Nat) : Prop := ∀ c ∈ ws, Let k c
theorem Let.four {k c : Nat} (h : Let k c) (hk : k ≤ 4) : Let 4 c := ⟨h.1, by have := h.2; omega⟩
theorem Lets.snoc {k : Nat} {ws : List Nat} (h : Lets k ws) {x : Nat} (hx : x < k) : Lets k (ws ++ [97 + x]) := fun c hc => by
  rcases List.mem_append.mp hc with z | z
  · exact h c z
  · rw [List.mem_singleton.mp z]; exact ⟨by omega, by omega⟩
def uu (us : List Int) (c : Nat) : Int := us.getD (c - 97) 0
def cnt (us : List Int) (ws : List Nat) : Int := (ws.map (uu us)).sum
abbrev tI (us : List Int) : D := .tup (us.map D.int)
theorem unit_at {us : List Int} {c : Nat} (h : Let us.length c) : L2.atI (us.map D.int) ((c - 97 : Nat) : Int) = some (.int (uu us c)) := by
  rw [atI_nn (by omega)]
  have h1 := h.1
  have h2 := h.2
  have hl : c - 97 < us.length := by omega
  simp only [Int.toNat_natCast, List.getElem?_map, List.getElem?_eq_getElem hl, Option.map_some]
  unfold uu
  rw [List.getD_eq_getElem?_getD, List.getElem?_eq_getElem hl]
  rfl
def walk (kd : Kd) : Nat → List Nat → Option Nat
  | s, [] => some s
  | s, c :: w => (stp kd s (c - 97)).bind fun s' => walk kd s' w
def isOf (kd : Kd) (w : List Nat) : Bool := match walk kd 0 w with
  | none => false
  | some s => isE kd s
theorem walk_snoc {kd : Kd} : ∀ (w : List Nat) (s c : Nat), walk kd s (w ++ [c]) = (walk kd s w).bind fun s' => stp kd s' (c - 97)
  | [], s, c => by
    show (stp kd s (c - 97)).bind (fun s' => some s') = stp kd s (c - 97)
    cases stp kd s (c - 97) <;> rfl
  | y :: w, s, c => by
    show (stp kd s (y - 97)).bind (fun s' => walk kd s' (w ++ [c])) = ((stp kd s (y - 97)).bind fun s' => walk kd s' w).bind _
    cases stp kd s (y - 97) with
    | none => rfl
    | some s' => exact walk_snoc w s' c
theorem walk_lt {kd : Kd} (ok : kd.Ok) : ∀ (w : List Nat) (s s' : Nat), s < kd.rows.length → walk kd s w = some s' → s' < kd.rows.length
  | [], s, s', h, e => by cases e; exact h
  | c :: w, s, s', h, e => by
    obtain ⟨s1, h1, e⟩ := bnd (show ((stp kd s (c - 97)).bind fun s' => walk kd s' w) = some s' from e)
    exact walk_lt ok w s1 s' (stp_lt ok h h1) e
abbrev tW (ps : List (List Nat)) : List D := ps.map fun p => D.str (W p)
theorem cut_abcd {k : Nat} (h : k ≤ 4) : L2.cutS ("abcd" : Str) none (some ((k : Nat) : Int)) = W ((List.range k).map (97 + ·)) := by
  rw [abcd_W, cutW_to (by omega) (by simp; omega)]
  have : k = 0 ∨ k = 1 ∨ k = 2 ∨ k = 3 ∨ k = 4 := by omega
  rcases this with rfl | rfl | rfl | rfl | rfl <;> rfl
theorem abcd_len : ("abcd" : Str).length ≤ 1000000 := by rw [abcd_W, W_len]; decide
/-- a loop that keeps I, turn by turn, and always goes on -/
theorem forL_yesI {t : MG} {b : MS} {k : Nat} {I : Nat → Sg → Prop} : ∀ (ds : List D) (j : Nat) (env : Sg), I j env → (∀ d ∈ ds, ∀ i env, i < j + ds.length → I i env → ∃ e, t d env = some e ∧ Yes k (b e) fun fl => ∃ e', fl = .nx e' ∧ I (i + 1) e') →
    Yes (ds.length * k) (forL t b ds env) fun fl => ∃ e, fl = .nx e ∧ I (j + ds.length) e
  | [], j, env, hi, _ => (Yes.of_eq (fun _ => rfl) ⟨env, rfl, hi⟩).mono (Nat.zero_le _) fun _ h => h
  | d :: ds, j, env, hi, h => by
    obtain ⟨e, h1, h2⟩ := h d List.mem_cons_self j env (by rw [List.length_cons]; omega) hi
    intro st h0 hn
    have en : ((d :: ds).length * k : Nat) = k + ds.length * k := by rw [List.length_cons, Nat.succ_mul]; omega
    rw [en] at hn ⊢
    obtain ⟨fl, s1, e1, ⟨e', rfl, i1⟩, l1, l2⟩ := h2 st h0 (by omega)
    obtain ⟨fl2, s2, e2, ⟨e3, p3, p4⟩, l3, l4⟩ := forL_yesI ds (j + 1) e' i1 (fun x hx i env hi => h x (List.mem_cons_of_mem _ hx) i env (by rw [List.length_cons]; omega)) s1 (by omega) (by omega)
    refine ⟨fl2, s2, ?_, ⟨e3, p3, ?_⟩, by omega, by omega⟩
    · rw [v_forL, h1]
      simp [e1, e2]
    · have : j + 1 + ds.length = j + (d :: ds).length := by rw [List.length_cons]; omega
      rw [this] at p4
      exact p4
theorem maps_of {α : Type} {f : α → D} {P : α → Prop} : ∀ (l : List D), (∀ x ∈ l, ∃ i, x = f i ∧ P i) → ∃ ns : List α, l = ns.map f ∧ ∀ i ∈ ns, P i
  | [], _ => ⟨[], rfl, fun _ h => nomatch h⟩
  | x :: l, h => by
    obtain ⟨i, rfl, hi⟩ := h x List.mem_cons_self
    obtain ⟨ns, rfl, hns⟩ := maps_of l fun y hy => h y (List.mem_cons_of_mem _ hy)
    exact ⟨i :: ns, rfl, fun j hj => by
      rcases List.mem_cons.mp hj with z | z
      · rw [z]; exact hi
      · exact hns j z⟩

/-! ### drawing -/
structure IsDraw (draw : MF) : Prop where
  yes : ∀ {m : Nat}, 0 < m → m ≤ 1000000 → Yes 1 (draw [.deck, .int ((m : Nat) : Int)]) fun d => ∃ r : Nat, d = .int ((r : Nat) : Int) ∧ r < m
  int : ∀ {n : Int} {st : S} {p : D × S}, draw [.deck, .int n] st = some p → ∃ r, p.1 = .int r
  ob : ∀ {n : Int} {st : S} {p : D × S}, draw [.deck, .int n] st = some p → p.2.ob = st.ob
theorem isDraw (c : DC) : IsDraw (drawM c) := by
  constructor
  · intro m h0 h1
    refine (draw_yes (c := c) (many := (m : Int)) (by omega) (by omega)).mono (Nat.le_refl _) fun d ⟨r, e, r0, r1⟩ => ⟨r.toNat, ?_, by omega⟩
    rw [e, Int.toNat_of_nonneg r0]
  · intro n st p h
    unfold drawM at h
    by_cases hc : 0 < n ∧ n < 1073741824 ∧ 0 ≤ st.n ∧ st.n < nMax
    · simp only [if_pos hc] at h
      cases h
      exact ⟨_, rfl⟩
    · simp only [if_neg hc] at h
      cases h
  · intro n st p h
    unfold drawM at h
    by_cases hc : 0 < n ∧ n < 1073741824 ∧ 0 ≤ st.n ∧ st.n < nMax
    · simp only [if_pos hc] at h
      cases h
      unfold drawT
      split <;> rfl
    · simp only [if_neg hc] at h
      cases h
noncomputable def oneB (draw : MF) : MS := (retM (opM subD (rd 1) (callM draw (aCons (rd 0) (aCons (cbM lenA (aCons (rd 1) aNil)) aNil)))))
noncomputable def oneM (draw : MF) : MF := runM 2 (oneB draw)
theorem one_eq {draw : MF} (hD : IsDraw draw) {x : D} {n : Int} (h : lenA [x] = some (.int n)) (hx : ∀ m, x ≠ .ref m) (st : S) : oneM draw [.deck, x] st = (draw [.deck, .int n] st).bind fun p => (subD x p.1).map fun z => (z, p.2) := by
  have hd : ∀ st : S, dr st x = x := fun st => dr_of hx
  simp [oneM, oneB, h, hd]
  cases hdr : draw [D.deck, D.int n] st with
  | none => rfl
  | some p =>
    simp
    obtain ⟨r, hr⟩ := hD.int hdr
    have hp : dr p.2 p.1 = p.1 := by rw [hr]; rfl
    rw [hp]
    cases subD x p.1 <;> rfl
theorem one_lst {draw : MF} (hD : IsDraw draw) {ds : List D} (h0 : ds ≠ []) (h1 : ds.length ≤ 1000) : Yes 1 (oneM draw [.deck, .lst ds]) fun d => d ∈ ds := by
  refine (Yes.bind (c := 1) (c' := 0) (hD.yes (m := ds.length) (by have := List.length_pos_iff.mpr h0; omega) (by omega)) (g := fun p => (subD (.lst ds) p.1).map fun z => (z, p.2)) fun d hd => ?_).congr fun st => one_eq hD (n := (ds.length : Int)) (v_lenAL) (fun m z => by cases z) st
  obtain ⟨r, rfl, hl⟩ := hd
  have e : subD (.lst ds) (.int ((r : Nat) : Int)) = some ds[r] := by
    rw [v_subL, v_ixL, atI_nn (by omega)]
    simp [List.getElem?_eq_getElem hl]
  refine Yes.of_eq (a := ds[r]) (fun st => ?_) (List.getElem_mem hl)
  show (subD (.lst ds) (.int ((r : Nat) : Int))).map _ = _
  rw [e]; rfl
theorem one_str {draw : MF} (hD : IsDraw draw) {ws : List Nat} (h0 : ws ≠ []) (h1 : ws.length ≤ 1000) : Yes 1 (oneM draw [.deck, .str (W ws)]) fun d => ∃ c ∈ ws, d = .str (W [c]) := by
  have hl0 : lenA [.str (W ws)] = some (.int ((ws.length : Nat) : Int)) := by simp [W_len, grd_of (show ws.length ≤ 1000000 by omega)]
  refine (Yes.bind (c := 1) (c' := 0) (hD.yes (m := ws.length) (by have := List.length_pos_iff.mpr h0; omega) (by omega)) (g := fun p => (subD (.str (W ws)) p.1).map fun z => (z, p.2)) fun d hd => ?_).congr fun st => one_eq hD (n := (ws.length : Int)) hl0 (fun m z => by cases z) st
  obtain ⟨r, rfl, hl⟩ := hd
  have e : subD (.str (W ws)) (.int ((r : Nat) : Int)) = some (.str (W [ws[r]])) := by
    rw [v_subS, v_ixS, grd_of (by rw [W_len]; omega), atI_nn (by omega), Int.toNat_natCast, W_list]
    simp [List.getElem?_eq_getElem hl]
    rfl
  refine Yes.of_eq (a := .str (W [ws[r]])) (fun st => ?_) ⟨_, List.getElem_mem hl, rfl⟩
  show (subD (.str (W ws)) (.int ((r : Nat) : Int))).map _ = _
  rw [e]; rfl
end Lw

set_option Elab.async false
set_option linter.all false
set_option maxRecDepth 100000
set_option maxHeartbeats 1000000
namespace Lw
open PySem MD
/-! ### kinds of the laws k21 .. k29 -/
def OkO (m : Nat) (d : D) : Prop := ∃ o : Option Nat, d = optD o ∧ ∀ s, o = some s → s < m
noncomputable def kdE (draw : MF) : ME := (ifM (tstM (opM gtM (callM draw (aCons (rd 0) (aCons (rd 3) aNil))) (cst (.int 0)))) (callM draw (aCons (rd 0) (aCons (rd 2) aNil))) (cst .non))
theorem kdE_yes {draw : MF} (hD : IsDraw draw) {m q : Nat} (hm : 0 < m) (hm2 : m ≤ 1000) (hq : 0 < q) (hq2 : q ≤ 1000) (e : Sg) (h : e[0]? = some (.val .deck)) (h3 : e[3]? = some (.val (.int ((q : Nat) : Int)))) (h2 : e[2]? = some (.val (.int ((m : Nat) : Int)))) : Yes 2 (kdE draw e) (OkO m) := by
  intro st h0 hn
  obtain ⟨_, s1, e1, ⟨r, rfl, r1⟩, l1, l2⟩ := hD.yes (m := q) hq (by omega) st h0 (by omega)
  by_cases hr : r = 0
  · subst hr
    exact ⟨.non, s1, by simp [kdE, h, h2, h3, e1], ⟨none, rfl, fun s z => by cases z⟩, by omega, by omega⟩
  · obtain ⟨_, s2, e2, ⟨r', rfl, r2⟩, l3, l4⟩ := hD.yes (m := m) hm (by omega) s1 (by omega) (by omega)
    refine ⟨.int ((r' : Nat) : Int), s2, ?_, ⟨some r', rfl, fun s z => by cases z; exact r2⟩, by omega, by omega⟩
    simp [kdE, h, h2, h3, e1, e2, hr]
noncomputable def kdEnd (draw : MF) : ME := (opM gtM (callM draw (aCons (rd 0) (aCons (cst (.int 3)) aNil))) (cst (.int 0)))
theorem kdEnd_yes {draw : MF} (hD : IsDraw draw) (e : Sg) (h : e[0]? = some (.val .deck)) : Yes 1 (kdEnd draw e) fun d => ∃ b : Bool, d = .bl b ∧ True := by
  intro st h0 hn
  obtain ⟨_, s1, e1, ⟨r, rfl, r1⟩, l1, l2⟩ := hD.yes (m := 3) (by decide) (by decide) st h0 (by omega)
  have e1' : draw [.deck, .int 3] st = some (.int ((r : Nat) : Int), s1) := e1
  exact ⟨.bl (decide (0 < r)), s1, by simp [kdEnd, h, e1'], ⟨_, rfl, trivial⟩, by omega, by omega⟩
noncomputable def kdB (draw : MF) : MS := (seqM (asgM (nameT 6) (frz (compM (r1M (aCons (rd 1) aNil)) (nameT 7) yesM (kdE draw) [7])))
 (appM 4 (cbM tupleM (aCons (rd 6) aNil))))
noncomputable def kdBody (draw one : MF) : MS := (seqM (asgM (nameT 3) (callM one (aCons (rd 0) (aCons (frz (lstM (aCons (cst (.int 2)) (aCons (cst (.int 4)) (aCons (cst (.int 9)) aNil))))) aNil))))
 (seqM (ownM 4 (lstM aNil))
 (seqM (forM (r1M (aCons (rd 2) aNil)) (nameT 5) (kdB draw))
 (retM (tupM (aCons (rd 1) (aCons (cbM tupleM (aCons (rdW 4) aNil)) (aCons (cbM tupleM (aCons (frz (compM (r1M (aCons (rd 2) aNil)) (nameT 5) yesM (kdEnd draw) [5])) aNil)) aNil))))))))
structure RwI (k m : Nat) (x3 : Sl) (j : Nat) (env : Sg) : Prop where
  ex : ∃ (rows : List (List (Option Nat))) (x5 x6 x7 : Sl), env = [.val .deck, .val (.int ((k : Nat) : Int)), .val (.int ((m : Nat) : Int)), x3, .own (.lst, rows.map rowD), x5, x6, x7] ∧ rows.length = j ∧ (∀ r ∈ rows, r.length = k) ∧ ∀ r ∈ rows, ∀ s, some s ∈ r → s < m
theorem kd_turn {draw : MF} (hD : IsDraw draw) {k m q : Nat} (hk : k ≤ 4) (hm0 : 0 < m) (hm : m ≤ 100) (hq : 0 < q) (hq2 : q ≤ 1000) (i : Nat) (d : D) (hi : i ≤ 1000) (env : Sg) (hI : RwI k m (.val (.int ((q : Nat) : Int))) i env) : ∃ e, nameT 5 d env = some e ∧ Yes 8 (kdB draw e) fun fl => ∃ e', fl = .nx e' ∧ RwI k m (.val (.int ((q : Nat) : Int))) (i + 1) e' := by
  obtain ⟨rows, x5, x6, x7, rfl, h1, h3, h4⟩ := hI.ex
  refine ⟨_, rfl, ?_⟩
  intro st h0 hn
  have hset : ([Sl.val D.deck, .val (.int ((k : Nat) : Int)), .val (.int ((m : Nat) : Int)), .val (.int ((q : Nat) : Int)), .own (.lst, rows.map rowD), x5, x6, x7].set 5 (.val d)) = [.val .deck, .val (.int ((k : Nat) : Int)), .val (.int ((m : Nat) : Int)), .val (.int ((q : Nat) : Int)), .own (.lst, rows.map rowD), .val d, x6, x7] := rfl
  have hc := compL_yes (t := nameT 7) (f := kdE draw) (env := [.val .deck, .val (.int ((k : Nat) : Int)), .val (.int ((m : Nat) : Int)), .val (.int ((q : Nat) : Int)), .own (.lst, rows.map rowD), .val d, x6, .un]) (k := 2) (P := OkO m) (rngD 0 k) fun d' _ => ⟨_, rfl, kdE_yes hD hm0 (by omega) hq hq2 _ rfl rfl rfl⟩
  rw [rngD_len] at hc
  obtain ⟨l, s4, e4, ⟨hl, hp⟩, l7, l8⟩ := hc st (by omega) (by omega)
  obtain ⟨row, rfl, hrow⟩ := maps_of l hp
  have hrl : row.length = k := by simpa using hl
  refine ⟨_, s4, ?_, ⟨_, rfl, ⟨rows ++ [row], .val d, .val (.lst (row.map optD)), x7, rfl, by simp [h1], fun r hr => ?_, fun r hr s hs => ?_⟩⟩, by omega, by omega⟩
  · rw [hset]
    unfold kdB
    generalize kdE draw = B at e4
    simp [grd_of (show rows.length + 1 ≤ 1000000 by omega), rng_of (show k ≤ 1000000 by omega), rngD_len, grd_of (show k ≤ 1000000 by omega)]
    rw [e4]
    simp [grd_of (show rows.length + 1 ≤ 1000000 by omega)]
  · rcases List.mem_append.mp hr with z | z
    · exact h3 r z
    · rw [List.mem_singleton.mp z]; exact hrl
  · rcases List.mem_append.mp hr with z | z
    · exact h4 r z s hs
    · rw [List.mem_singleton.mp z] at hs
      exact hrow _ hs s rfl
theorem kd_yes {draw : MF} (hD : IsDraw draw) {k m : Nat} (hk0 : 1 ≤ k) (hk : k ≤ 4) (hm0 : 1 ≤ m) (hm : m ≤ 9) : Yes 100 (runM 8 (kdBody draw (oneM draw)) [.deck, .int ((k : Nat) : Int), .int ((m : Nat) : Int)]) fun d => ∃ kd : Kd, d = tK kd ∧ kd.Ok ∧ kd.k = k ∧ kd.rows.length = m := by
  intro st h0 hn
  obtain ⟨d1, s1, e1, m1, l1, l2⟩ := one_lst hD (ds := [.int 2, .int 4, .int 9]) (by simp) (by simp) st h0 (by omega)
  obtain ⟨q, rfl, hq, hq2⟩ : ∃ q : Nat, d1 = .int ((q : Nat) : Int) ∧ 0 < q ∧ q ≤ 1000 := by
    simp only [List.mem_cons, List.mem_nil_iff, or_false] at m1
    rcases m1 with rfl | rfl | rfl
    · exact ⟨2, rfl, by omega, by omega⟩
    · exact ⟨4, rfl, by omega, by omega⟩
    · exact ⟨9, rfl, by omega, by omega⟩
  have hF := forL_yesI (t := nameT 5) (b := kdB draw) (k := 8) (I := RwI k m (.val (.int ((q : Nat) : Int)))) (rngD 0 m) 0 [.val .deck, .val (.int ((k : Nat) : Int)), .val (.int ((m : Nat) : Int)), .val (.int ((q : Nat) : Int)), .own (.lst, []), .un, .un, .un]
      ⟨[], .un, .un, .un, rfl, rfl, fun r h => (by cases h), fun r h => (by cases h)⟩ fun d hd i e hi hI => kd_turn hD hk (by omega) (by omega) hq hq2 i d (by rw [rngD_len] at hi; omega) e hI
  rw [rngD_len] at hF
  obtain ⟨fl, s2, e2, ⟨ee, rfl, hE⟩, l3, l4⟩ := hF s1 (by omega) (by omega)
  obtain ⟨rows, x5, x6, x7, rfl, h1, h3, h4⟩ := hE.ex
  have hc := compL_yes (t := nameT 5) (f := kdEnd draw) (env := [.val .deck, .val (.int ((k : Nat) : Int)), .val (.int ((m : Nat) : Int)), .val (.int ((q : Nat) : Int)), .own (.lst, rows.map rowD), .un, x6, x7]) (k := 1) (P := fun d => ∃ b : Bool, d = .bl b ∧ True) (rngD 0 m) fun d' _ => ⟨_, rfl, kdEnd_yes hD _ rfl⟩
  rw [rngD_len] at hc
  obtain ⟨l, s3, e3, ⟨hl, hp⟩, l5, l6⟩ := hc s2 (by omega) (by omega)
  obtain ⟨ends, rfl, _⟩ := maps_of l hp
  have hel : ends.length = m := by simpa using hl
  refine ⟨tK ⟨k, rows, ends⟩, s3, ?_, ⟨_, rfl, ⟨hk0, hk, by show 1 ≤ rows.length; omega, by show rows.length ≤ 9; omega, by show ends.length = rows.length; omega, h3, fun r hr s hs => by show s < rows.length; have := h4 r hr s hs; omega⟩, rfl, by show rows.length = m; omega⟩, by omega, by omega⟩
  unfold kdBody
  generalize kdB draw = B at e2
  generalize kdEnd draw = B2 at e3
  simp [e1, grd_of (show 0 ≤ 1000000 by decide), grd_of (show 3 ≤ 1000000 by decide), rng_of (show m ≤ 1000000 by omega)]
  rw [e2]
  simp [grd_of (show 3 ≤ 1000000 by decide), rng_of (show m ≤ 1000000 by omega), rngD_len, grd_of (show m ≤ 1000000 by omega)]
  rw [e3]
  simp [grd_of (show 3 ≤ 1000000 by decide)]
end Lw

set_option Elab.async false
set_option linter.all false
set_option maxRecDepth 100000
set_option maxHeartbeats 1000000
namespace Lw
open PySem MD
/-! ### lines of states -/
theorem mem_rng {d : D} {m : Nat} (h : d ∈ rngD 0 m) : ∃ q : Nat, d = .int ((q : Nat) : Int) ∧ q < m := by
  rw [rng_map] at h
  obtain ⟨q, hq, rfl⟩ := List.mem_map.mp h
  exact ⟨q, rfl, List.mem_range.mp hq⟩
noncomputable def lnE (draw : MF) : ME := (ifM (andM (tstM (opM ltA (opM addM (rd 4) (cst (.int 1))) (rd 2))) (tstM (opM gtM (callM draw (aCons (rd 0) (aCons (cst (.int 4)) aNil))) (cst (.int 0))))) (opM addM (rd 4) (cst (.int 1))) (cst .non))
theorem lnE_yes {draw : MF} (hD : IsDraw draw) {m q : Nat} (e : Sg) (h : e[0]? = some (.val .deck)) (h4 : e[4]? = some (.val (.int ((q : Nat) : Int)))) (h2 : e[2]? = some (.val (.int ((m : Nat) : Int)))) : Yes 1 (lnE draw e) (OkO m) := by
  intro st h0 hn
  by_cases hq : ((q : Nat) : Int) + 1 < ((m : Nat) : Int)
  · obtain ⟨_, s1, e1, ⟨r, rfl, r1⟩, l1, l2⟩ := hD.yes (m := 4) (by decide) (by decide) st h0 (by omega)
    have e1' : draw [.deck, .int 4] st = some (.int ((r : Nat) : Int), s1) := e1
    by_cases hr : r = 0
    · subst hr
      exact ⟨.non, s1, by simp [lnE, h, h2, h4, e1', hq], ⟨none, rfl, fun s z => by cases z⟩, by omega, by omega⟩
    · refine ⟨.int ((q + 1 : Nat) : Int), s1, ?_, ⟨some (q + 1), rfl, fun s z => by cases z; omega⟩, by omega, by omega⟩
      simp [lnE, h, h2, h4, e1', hr, hq]
  · exact ⟨.non, st, by simp [lnE, h, h2, h4, hq], ⟨none, rfl, fun s z => by cases z⟩, by omega, by omega⟩
noncomputable def lnEnd (draw : MF) : ME := (orV (opM eqM (rd 4) (opM subM (rd 2) (cst (.int 1)))) (opM eqM (callM draw (aCons (rd 0) (aCons (cst (.int 3)) aNil))) (cst (.int 0))))
theorem lnEnd_yes {draw : MF} (hD : IsDraw draw) {m q : Nat} (e : Sg) (h : e[0]? = some (.val .deck)) (h4 : e[4]? = some (.val (.int ((q : Nat) : Int)))) (h2 : e[2]? = some (.val (.int ((m : Nat) : Int)))) : Yes 1 (lnEnd draw e) fun d => ∃ b : Bool, d = .bl b ∧ True := by
  intro st h0 hn
  obtain ⟨_, s1, e1, ⟨r, rfl, r1⟩, l1, l2⟩ := hD.yes (m := 3) (by decide) (by decide) st h0 (by omega)
  have e1' : draw [.deck, .int 3] st = some (.int ((r : Nat) : Int), s1) := e1
  by_cases hq : ((q : Nat) : Int) = ((m : Nat) : Int) - 1
  · exact ⟨.bl true, st, by simp [lnEnd, h, h2, h4, hq], ⟨_, rfl, trivial⟩, by omega, by omega⟩
  · exact ⟨.bl (decide (r = 0)), s1, by simp [lnEnd, h, h2, h4, hq, e1'], ⟨_, rfl, trivial⟩, by omega, by omega⟩
noncomputable def lnB (draw : MF) : MS := (seqM (ownM 5 (compM (r1M (aCons (rd 1) aNil)) (nameT 6) yesM (lnE draw) [6]))
 (seqM (ifS (tstM (opM ltA (opM addM (rd 4) (cst (.int 1))) (rd 2)))
 (lsetM 5 (callM draw (aCons (rd 0) (aCons (rd 1) aNil))) (opM addM (rd 4) (cst (.int 1))))
 nxM)
 (appM 3 (cbM tupleM (aCons (rdW 5) aNil)))))
noncomputable def lnBody (draw : MF) : MS := (seqM (ownM 3 (lstM aNil))
 (seqM (forM (r1M (aCons (rd 2) aNil)) (nameT 4) (lnB draw))
 (retM (tupM (aCons (rd 1) (aCons (cbM tupleM (aCons (rdW 3) aNil)) (aCons (cbM tupleM (aCons (frz (compM (r1M (aCons (rd 2) aNil)) (nameT 4) yesM (lnEnd draw) [4])) aNil)) aNil)))))))
structure LnI (k m : Nat) (j : Nat) (env : Sg) : Prop where
  ex : ∃ (rows : List (List (Option Nat))) (x4 x5 x6 : Sl), env = [.val .deck, .val (.int ((k : Nat) : Int)), .val (.int ((m : Nat) : Int)), .own (.lst, rows.map rowD), x4, x5, x6] ∧ rows.length = j ∧ (∀ r ∈ rows, r.length = k) ∧ ∀ r ∈ rows, ∀ s, some s ∈ r → s < m
theorem ln_turn {draw : MF} (hD : IsDraw draw) {k m : Nat} (hk0 : 1 ≤ k) (hk : k ≤ 4) (i : Nat) (d : D) (hd : d ∈ rngD 0 m) (hi : i ≤ 1000) (env : Sg) (hI : LnI k m i env) : ∃ e, nameT 4 d env = some e ∧ Yes 5 (lnB draw e) fun fl => ∃ e', fl = .nx e' ∧ LnI k m (i + 1) e' := by
  obtain ⟨rows, x4, x5, x6, rfl, h1, h3, h4⟩ := hI.ex
  obtain ⟨q, rfl, hq⟩ := mem_rng hd
  refine ⟨_, rfl, ?_⟩
  intro st h0 hn
  have hset : ([Sl.val D.deck, .val (.int ((k : Nat) : Int)), .val (.int ((m : Nat) : Int)), .own (.lst, rows.map rowD), x4, x5, x6].set 4 (.val (.int ((q : Nat) : Int)))) = [.val .deck, .val (.int ((k : Nat) : Int)), .val (.int ((m : Nat) : Int)), .own (.lst, rows.map rowD), .val (.int ((q : Nat) : Int)), x5, x6] := rfl
  have hc := compL_yes (t := nameT 6) (f := lnE draw) (env := [.val .deck, .val (.int ((k : Nat) : Int)), .val (.int ((m : Nat) : Int)), .own (.lst, rows.map rowD), .val (.int ((q : Nat) : Int)), x5, .un]) (k := 1) (P := OkO m) (rngD 0 k) fun d' _ => ⟨_, rfl, lnE_yes hD _ rfl rfl rfl⟩
  rw [rngD_len] at hc
  obtain ⟨l, s4, e4, ⟨hl, hp⟩, l7, l8⟩ := hc st (by omega) (by omega)
  obtain ⟨row, rfl, hrow⟩ := maps_of l hp
  have hrl : row.length = k := by simpa using hl
  have fin : ∀ (row' : List (Option Nat)), row'.length = k → (∀ s, some s ∈ row' → s < m) → LnI k m (i + 1) [.val .deck, .val (.int ((k : Nat) : Int)), .val (.int ((m : Nat) : Int)), .own (.lst, (rows ++ [row']).map rowD), .val (.int ((q : Nat) : Int)), .own (.lst, row'.map optD), x6] := fun row' g1 g2 => by
    refine ⟨rows ++ [row'], _, _, _, rfl, by simp [h1], fun r hr => ?_, fun r hr s hs => ?_⟩
    · rcases List.mem_append.mp hr with z | z
      · exact h3 r z
      · rw [List.mem_singleton.mp z]; exact g1
    · rcases List.mem_append.mp hr with z | z
      · exact h4 r z s hs
      · rw [List.mem_singleton.mp z] at hs
        exact g2 s hs
  rw [hset]
  by_cases hq2 : ((q : Nat) : Int) + 1 < ((m : Nat) : Int)
  · obtain ⟨_, s5, e5, ⟨r, rfl, r1⟩, l1, l2⟩ := hD.yes (m := k) (by omega) (by omega) s4 (by omega) (by omega)
    have hset2 : (row.map optD).set r (.int (((q : Nat) : Int) + 1)) = (row.set r (some (q + 1))).map optD := by rw [List.map_set]; rfl
    refine ⟨_, s5, ?_, ⟨_, rfl, fin (row.set r (some (q + 1))) (by simpa using hrl) fun s hs => ?_⟩, by omega, by omega⟩
    · unfold lnB
      generalize lnE draw = B at e4
      simp [rng_of (show k ≤ 1000000 by omega), rngD_len, grd_of (show k ≤ 1000000 by omega)]
      rw [e4]
      have hix : L2.ixN row.length ((r : Nat) : Int) = some r := by
        unfold L2.ixN
        rw [if_pos (by omega), if_pos (by omega)]
        simp
      simp [hq2, e5, hix, hset2, grd_of (show rows.length + 1 ≤ 1000000 by omega)]
    · rcases List.mem_or_eq_of_mem_set hs with z | z
      · exact hrow _ z s rfl
      · cases z; omega
  · refine ⟨_, s4, ?_, ⟨_, rfl, fin row hrl fun s hs => hrow _ hs s rfl⟩, by omega, by omega⟩
    unfold lnB
    generalize lnE draw = B at e4
    simp [rng_of (show k ≤ 1000000 by omega), rngD_len, grd_of (show k ≤ 1000000 by omega)]
    rw [e4]
    simp [hq2, grd_of (show rows.length + 1 ≤ 1000000 by omega)]
theorem ln_yes {draw : MF} (hD : IsDraw draw) {k m : Nat} (hk0 : 1 ≤ k) (hk : k ≤ 4) (hm0 : 1 ≤ m) (hm : m ≤ 9) : Yes 60 (runM 7 (lnBody draw) [.deck, .int ((k : Nat) : Int), .int ((m : Nat) : Int)]) fun d => ∃ kd : Kd, d = tK kd ∧ kd.Ok ∧ kd.k = k ∧ kd.rows.length = m := by
  intro st h0 hn
  have hF := forL_yesI (t := nameT 4) (b := lnB draw) (k := 5) (I := LnI k m) (rngD 0 m) 0 [.val .deck, .val (.int ((k : Nat) : Int)), .val (.int ((m : Nat) : Int)), .own (.lst, []), .un, .un, .un]
      ⟨[], .un, .un, .un, rfl, rfl, fun r h => (by cases h), fun r h => (by cases h)⟩ fun d hd i e hi hI => ln_turn hD hk0 hk i d hd (by rw [rngD_len] at hi; omega) e hI
  rw [rngD_len] at hF
  obtain ⟨fl, s2, e2, ⟨ee, rfl, hE⟩, l3, l4⟩ := hF st (by omega) (by omega)
  obtain ⟨rows, x4, x5, x6, rfl, h1, h3, h4⟩ := hE.ex
  have hc := compL_yes (t := nameT 4) (f := lnEnd draw) (env := [.val .deck, .val (.int ((k : Nat) : Int)), .val (.int ((m : Nat) : Int)), .own (.lst, rows.map rowD), .un, x5, x6]) (k := 1) (P := fun d => ∃ b : Bool, d = .bl b ∧ True) (rngD 0 m) fun d' hd' => by
    obtain ⟨q, rfl, hq⟩ := mem_rng hd'
    exact ⟨_, rfl, lnEnd_yes hD _ rfl rfl rfl⟩
  rw [rngD_len] at hc
  obtain ⟨l, s3, e3, ⟨hl, hp⟩, l5, l6⟩ := hc s2 (by omega) (by omega)
  obtain ⟨ends, rfl, _⟩ := maps_of l hp
  have hel : ends.length = m := by simpa using hl
  refine ⟨tK ⟨k, rows, ends⟩, s3, ?_, ⟨_, rfl, ⟨hk0, hk, by show 1 ≤ rows.length; omega, by show rows.length ≤ 9; omega, by show ends.length = rows.length; omega, h3, fun r hr s hs => by show s < rows.length; have := h4 r hr s hs; omega⟩, rfl, by show rows.length = m; omega⟩, by omega, by omega⟩
  unfold lnBody
  generalize lnB draw = B at e2
  generalize lnEnd draw = B2 at e3
  simp [grd_of (show 0 ≤ 1000000 by decide), grd_of (show 3 ≤ 1000000 by decide), rng_of (show m ≤ 1000000 by omega)]
  rw [e2]
  simp [grd_of (show 3 ≤ 1000000 by decide), rng_of (show m ≤ 1000000 by omega), rngD_len, grd_of (show m ≤ 1000000 by omega)]
  rw [e3]
  simp [grd_of (show 3 ≤ 1000000 by decide)]
end Lw

set_option Elab.async false
set_option linter.all false
set_option maxRecDepth 100000
set_option maxHeartbeats 1000000
namespace Lw
open PySem MD L2
theorem joinL_flat : ∀ (ps : List (List Nat)), TL.joinL [] ps = ps.flatten
  | [] => rfl
  | [p] => by simp [TL.joinL]
  | p :: q :: r => by
    show p ++ ([] ++ TL.joinL [] (q :: r)) = _
    rw [joinL_flat (q :: r)]
    rfl
theorem join_str (ps : List (List Nat)) : Txt.join "" (ps.map W) = W ps.flatten := by
  apply TL.ext_tl
  rw [TL.join_eq, TL.tl_join, empty_W]
  show TL.joinL (W []).cps.toList ((ps.map W).map fun x => x.cps.toList) = (W ps.flatten).cps.toList
  rw [W_list, W_list, List.map_map]
  have e : ((fun (x : Str) => x.cps.toList) ∘ W) = id := by funext x; simp
  rw [e, List.map_id, joinL_flat]
theorem flat_one (ws : List Nat) : (ws.map fun c => [c]).flatten = ws := by
  induction ws with
  | nil => rfl
  | cons x r ih => simp [ih]
theorem join_W (ws : List Nat) (h : ws.length ≤ 1000000) : joinM (.str "") [.lst (ws.map fun c => D.str (W [c]))] = some (.str (W ws)) := by
  have e : (ws.map fun c => D.str (W [c])) = ((ws.map fun c => [c]).map W).map D.str := by rw [List.map_map, List.map_map]; rfl
  rw [e]
  show ((strsOf (((ws.map fun c => [c]).map W).map D.str)).bind fun ys => if (ys.map (·.length)).sum + ys.length * ("" : Str).length ≤ 16777216 then some (D.str (Txt.join "" ys)) else none) = _
  rw [strsOf_map]
  show (if ((((ws.map fun c => [c]).map W)).map (·.length)).sum + (((ws.map fun c => [c]).map W)).length * ("" : Str).length ≤ 16777216 then some (D.str (Txt.join "" ((ws.map fun c => [c]).map W))) else none) = _
  rw [if_pos, join_str, flat_one]
  have e1 : ("" : Str).length = 0 := by rw [empty_W, W_len]; rfl
  have e2 : ∀ (l : List Nat), ((((l.map fun c => [c]).map W)).map (·.length)).sum = l.length := fun l => by
    induction l with
    | nil => rfl
    | cons x r ih => simp at ih ⊢; omega
  rw [e1, e2, Nat.mul_zero]
  omega
theorem cutW_to' {ws : List Nat} {n : Nat} : cutS (W ws) none (some ((n : Nat) : Int)) = W (ws.take n) := by
  unfold cutS
  rw [W_list, W_len, HT.sIx_none, HT.sIx_nat]
  show (⟨((ws.drop 0).take (min n ws.length - 0)).toArray⟩ : Str) = _
  rw [List.drop_zero, Nat.sub_zero]
  have : ws.take (min n ws.length) = ws.take n := by
    by_cases h : n ≤ ws.length
    · rw [Nat.min_eq_left h]
    · rw [Nat.min_eq_right (by omega), List.take_of_length_le (Nat.le_refl _), List.take_of_length_le (by omega)]
  rw [this]
  rfl
theorem cutW_from' {ws : List Nat} {n : Nat} : cutS (W ws) (some ((n : Nat) : Int)) none = W (ws.drop n) := by
  unfold cutS
  rw [W_list, W_len, HT.sIx_none, HT.sIx_nat]
  show (⟨((ws.drop (min n ws.length)).take (ws.length - min n ws.length)).toArray⟩ : Str) = _
  rw [List.take_of_length_le (by rw [List.length_drop]; exact Nat.le_refl _)]
  have : ws.drop (min n ws.length) = ws.drop n := by
    by_cases h : n ≤ ws.length
    · rw [Nat.min_eq_left h]
    · rw [Nat.min_eq_right (by omega), List.drop_of_length_le (Nat.le_refl _), List.drop_of_length_le (by omega)]
  rw [this]
  rfl
theorem abcd_lets {k : Nat} : Lets k ((List.range k).map (97 + ·)) := fun c hc => by
  obtain ⟨x, hx, rfl⟩ := List.mem_map.mp hc
  have := List.mem_range.mp hx
  exact ⟨by omega, by omega⟩
/-- a letter drawn -/
theorem let_yes {draw : MF} (hD : IsDraw draw) {k : Nat} (hk0 : 1 ≤ k) (hk : k ≤ 4) : Yes 1 (oneM draw [.deck, .str (W ((List.range k).map (97 + ·)))]) fun d => ∃ c, d = .str (W [c]) ∧ Let k c :=
  (one_str hD (ws := (List.range k).map (97 + ·)) (fun z => by have := congrArg List.length z; simp at this; omega) (by simp; omega)).mono (Nat.le_refl _) fun d ⟨c, hc, e⟩ => ⟨c, e, abcd_lets c hc⟩
/-! ### words drawn -/
noncomputable def wdE (one : MF) : ME := (callM one (aCons (rd 0) (aCons (slM slAny (cst (.str "abcd")) noP (prt (rd 1))) aNil)))
theorem wdE_yes {draw : MF} (hD : IsDraw draw) {k : Nat} (hk0 : 1 ≤ k) (hk : k ≤ 4) (e : Sg) (h : e[0]? = some (.val .deck)) (h1 : e[1]? = some (.val (.int ((k : Nat) : Int)))) : Yes 1 (wdE (oneM draw) e) fun d => ∃ c, d = .str (W [c]) ∧ Let k c := by
  intro st h0 hn
  obtain ⟨d, s1, e1, p1, l1, l2⟩ := let_yes hD hk0 hk st h0 (by omega)
  refine ⟨d, s1, ?_, p1, l1, l2⟩
  generalize oneM draw = one at e1
  simp [wdE, h, h1, grd_of abcd_len, cut_abcd hk, e1]
noncomputable def wordB (draw one : MF) : MS := (retM (m1M joinM (cst (.str "")) (frz (compM (r1M (aCons (callM draw (aCons (rd 0) (aCons (opM addM (rd 2) (cst (.int 1))) aNil))) aNil)) (nameT 3) yesM (wdE one) [3]))))
theorem word_yes {draw : MF} (hD : IsDraw draw) {k n : Nat} (hk0 : 1 ≤ k) (hk : k ≤ 4) (hn1 : n ≤ 1000) : Yes (n + 1) (runM 4 (wordB draw (oneM draw)) [.deck, .int ((k : Nat) : Int), .int ((n : Nat) : Int)]) fun d => ∃ ws, d = .str (W ws) ∧ Lets k ws ∧ ws.length ≤ n := by
  intro st h0 hn
  obtain ⟨_, s1, e1, ⟨r, rfl, r1⟩, l1, l2⟩ := hD.yes (m := n + 1) (by omega) (by omega) st h0 (by omega)
  have e1' : draw [.deck, .int (((n : Nat) : Int) + 1)] st = some (.int ((r : Nat) : Int), s1) := e1
  have hc := compL_yes (t := nameT 3) (f := wdE (oneM draw)) (env := [.val .deck, .val (.int ((k : Nat) : Int)), .val (.int ((n : Nat) : Int)), .un]) (k := 1) (P := fun d => ∃ c, d = .str (W [c]) ∧ Let k c) (rngD 0 r) fun d' _ => ⟨_, rfl, wdE_yes hD hk0 hk _ rfl rfl⟩
  rw [rngD_len] at hc
  obtain ⟨l, s2, e2, ⟨hl, hp⟩, l3, l4⟩ := hc s1 (by omega) (by omega)
  obtain ⟨ws, rfl, hws⟩ := maps_of (f := fun c => D.str (W [c])) l hp
  have hlen : ws.length = r := by simpa using hl
  refine ⟨.str (W ws), s2, ?_, ⟨ws, rfl, hws, by omega⟩, by omega, by omega⟩
  unfold wordB
  generalize wdE (oneM draw) = B at e2
  have hj := join_W ws (by omega)
  simp [e1', rng_of (show r ≤ 1000000 by omega), rngD_len, grd_of (show r ≤ 1000000 by omega)]
  rw [e2]
  simp [hj]
end Lw

set_option Elab.async false
set_option linter.all false
set_option maxRecDepth 100000
set_option maxHeartbeats 1000000
namespace Lw
open PySem MD L2
/-! ### words walked along a kind -/
def outs (kd : Kd) (s : Nat) : List Nat := (List.range kd.k).filter fun x => (stp kd s x).isSome
abbrev nD (n : Nat) : D := .int ((n : Nat) : Int)
abbrev tN (ns : List Nat) : List D := ns.map nD
theorem ne_nats (a : List Nat) : neM (.lst (tN a)) (.lst []) = some (.bl (!a.isEmpty)) := by
  have h := ne_ints (a.map fun x => ((x : Nat) : Int)) []
  rw [List.map_map, List.map_nil] at h
  have e : (D.int ∘ fun (x : Nat) => ((x : Nat) : Int)) = nD := rfl
  rw [e] at h
  rw [h]
  cases a <;> rfl
noncomputable def wkC : MT := (tstM (opM isNotM (opM subD (opM subD (opM subD (rd 1) (cst (.int 1))) (rd 4)) (rd 7)) (cst .non)))
noncomputable def wkB (one : MF) : MS := (seqM (asgM (nameT 6) (frz (compM (r1M (aCons (opM subD (rd 1) (cst (.int 0))) aNil)) (nameT 7) wkC (rd 7) [7])))
 (ifS (tstM (opM neM (rd 6) (frz (lstM aNil))))
 (seqM (asgM (nameT 7) (callM one (aCons (rd 0) (aCons (rd 6) aNil))))
 (asgM (tupT 2 (consT (nameT 3) (consT (nameT 4) nilT))) (tupM (aCons (opM addM (rd 3) (opM subD (cst (.str "abcd")) (rd 7))) (aCons (opM subD (opM subD (opM subD (rd 1) (cst (.int 1))) (rd 4)) (rd 7)) aNil)))))
 nxM))
theorem wk_comp {kd : Kd} (ok : kd.Ok) {s : Nat} (hs : s < kd.rows.length) (st : S) (x2 x3 x5 x6 : Sl) (xs : List Nat) (h : ∀ x ∈ xs, x < kd.k) :
    compL (nameT 7) wkC (rd 7) [.val .deck, .val (tK kd), x2, x3, .val (nD s), x5, x6, .un] (tN xs) st = some (tN (xs.filter fun x => (stp kd s x).isSome), st) := by
  induction xs with
  | nil => rfl
  | cons x xs ih =>
    have hx := h x List.mem_cons_self
    have ih := ih fun y hy => h y (List.mem_cons_of_mem _ hy)
    have e1 := item_D ok hs hx
    rw [show tN (x :: xs) = nD x :: tN xs from rfl, v_compL]
    unfold wkC at ih ⊢
    cases hst : stp kd s x with
    | none =>
      rw [hst] at e1
      simp [row_D hs, e1, ih, hst]
    | some s' =>
      rw [hst] at e1
      simp [row_D hs, e1, ih, hst]
structure WkI (kd : Kd) (x2 : Sl) (j : Nat) (env : Sg) : Prop where
  ex : ∃ w s x5 x6 x7, env = [.val .deck, .val (tK kd), x2, .val (.str (W w)), .val (nD s), x5, x6, x7] ∧ Lets kd.k w ∧ walk kd 0 w = some s ∧ s < kd.rows.length ∧ w.length ≤ j
theorem wk_turn {draw : MF} (hD : IsDraw draw) {kd : Kd} (ok : kd.Ok) (x2 : Sl) (d : D) (j : Nat) (hj : j ≤ 1000) (env : Sg) (hi : WkI kd x2 j env) : ∃ e, nameT 5 d env = some e ∧ Yes 1 (wkB (oneM draw) e) fun fl => ∃ e', fl = .nx e' ∧ WkI kd x2 (j + 1) e' := by
  obtain ⟨w, s, x5, x6, x7, rfl, hw, hwk, hs, hl⟩ := hi.ex
  refine ⟨_, rfl, ?_⟩
  have hk4 := ok.k4
  intro st h0 hn
  have e1 := wk_comp ok hs st x2 (.val (.str (W w))) (.val d) x6 (List.range kd.k) fun x hx => List.mem_range.mp hx
  have ea : asgM (nameT 6) (frz (compM (r1M (aCons (opM subD (rd 1) (cst (.int 0))) aNil)) (nameT 7) wkC (rd 7) [7])) [.val .deck, .val (tK kd), x2, .val (.str (W w)), .val (nD s), .val d, x6, x7] st =
      some (.nx [.val .deck, .val (tK kd), x2, .val (.str (W w)), .val (nD s), .val d, .val (.lst (tN (outs kd s))), x7], st) := by
    generalize wkC = B at e1
    simp [rng_of (show kd.k ≤ 1000000 by omega), rngD_len, grd_of (show kd.k ≤ 1000000 by omega)]
    rw [rng_map, e1]
    rfl
  have hne := ne_nats (outs kd s)
  have hset : ([Sl.val D.deck, .val (tK kd), x2, .val (.str (W w)), .val (nD s), x5, x6, x7].set 5 (.val d)) = [.val .deck, .val (tK kd), x2, .val (.str (W w)), .val (nD s), .val d, x6, x7] := rfl
  rw [hset]
  by_cases ho : outs kd s = []
  · refine ⟨_, st, ?_, ⟨_, rfl, ⟨w, s, .val d, .val (.lst []), x7, rfl, hw, hwk, hs, by omega⟩⟩, Int.le_refl _, by omega⟩
    rw [ho] at ea hne
    unfold wkB
    rw [v_seqM, ea]
    simp at hne
    simp [grd_of (show 0 ≤ 1000000 by decide), hne]
  · have hlen : (tN (outs kd s)).length ≤ 1000 := by
      rw [List.length_map]
      have : (outs kd s).length ≤ (List.range kd.k).length := List.length_filter_le _ _
      simp at this
      omega
    obtain ⟨y, s1, e2, hy, l1, l2⟩ := one_lst hD (ds := tN (outs kd s)) (fun z => ho (List.map_eq_nil_iff.mp z)) hlen st h0 (by omega)
    obtain ⟨x, hx, rfl⟩ := List.mem_map.mp hy
    obtain ⟨hx1, hx2⟩ := List.mem_filter.mp hx
    have hxk : x < kd.k := List.mem_range.mp hx1
    obtain ⟨s', hs'⟩ := Option.isSome_iff_exists.mp hx2
    have hlt := stp_lt ok hs hs'
    have e3 := item_D ok hs hxk
    rw [hs'] at e3
    have e4 := abcd_at (show x < 4 by omega)
    refine ⟨_, s1, ?_, ⟨_, rfl, ⟨w ++ [97 + x], s', .val d, .val (.lst (tN (outs kd s))), .val (nD x), rfl, hw.snoc hxk, ?_, hlt, by simp; omega⟩⟩, l1, by omega⟩
    · unfold wkB
      rw [v_seqM, ea]
      have hdec : (outs kd s).isEmpty = false := by
        cases h : outs kd s with
        | nil => exact absurd h ho
        | cons a b => rfl
      rw [hdec] at hne
      generalize hLL : tN (outs kd s) = LL at *
      generalize oneM draw = one at e2
      simp [grd_of (show 0 ≤ 1000000 by decide), hne, e2, row_D hs, e3, e4, grd_of (show w.length + 1 ≤ 1000000 by omega), W_app, grd_of (show 2 ≤ 1000000 by decide), optD]
    · rw [walk_snoc, hwk]
      show stp kd s (97 + x - 97) = _
      rw [Nat.add_sub_cancel_left, hs']
noncomputable def walkedB (draw one : MF) : MS := (seqM (asgM (tupT 2 (consT (nameT 3) (consT (nameT 4) nilT))) (tupM (aCons (cst (.str "")) (aCons (cst (.int 0)) aNil))))
 (seqM (forM (r1M (aCons (callM draw (aCons (rd 0) (aCons (opM addM (rd 2) (cst (.int 1))) aNil))) aNil)) (nameT 5) (wkB one))
 (retM (rd 3))))
theorem walked_yes {draw : MF} (hD : IsDraw draw) {kd : Kd} (ok : kd.Ok) {n : Nat} (hn1 : n ≤ 900) : Yes (n + 1) (runM 8 (walkedB draw (oneM draw)) [.deck, tK kd, nD n]) fun d => ∃ ws, d = .str (W ws) ∧ Lets kd.k ws ∧ ws.length ≤ n := by
  intro st h0 hn
  obtain ⟨_, s1, e1, ⟨r, rfl, r1⟩, l1, l2⟩ := hD.yes (m := n + 1) (by omega) (by omega) st h0 (by omega)
  have e1' : draw [.deck, .int (((n : Nat) : Int) + 1)] st = some (.int ((r : Nat) : Int), s1) := e1
  have hF := forL_yesI (t := nameT 5) (b := wkB (oneM draw)) (k := 1) (I := WkI kd (.val (nD n))) (rngD 0 r) 0 [.val .deck, .val (tK kd), .val (nD n), .val (.str (W [])), .val (nD 0), .un, .un, .un]
    ⟨[], 0, .un, .un, .un, rfl, fun c hc => (by cases hc), rfl, ok.m0, Nat.zero_le _⟩ fun d' _ i e hi hI => wk_turn hD ok (.val (nD n)) d' i (by rw [rngD_len] at hi; omega) e hI
  rw [rngD_len] at hF
  obtain ⟨fl, s2, e2, ⟨ee, rfl, hE⟩, l3, l4⟩ := hF s1 (by omega) (by omega)
  obtain ⟨w, s, y5, y6, y7, rfl, hw, hwk, hs, hwl⟩ := hE.ex
  refine ⟨.str (W w), s2, ?_, ⟨w, rfl, hw, by omega⟩, by omega, by omega⟩
  unfold walkedB
  generalize wkB (oneM draw) = B at e2
  rw [← empty_W] at e2
  simp [e1', grd_of (show 2 ≤ 1000000 by decide), rng_of (show r ≤ 1000000 by omega)]
  have e2' : forL (nameT 5) B (rngD 0 r) [Sl.val D.deck, Sl.val (tK kd), Sl.val (nD n), Sl.val (D.str ""), Sl.val (D.int 0), Sl.un, Sl.un, Sl.un] s1 = _ := e2
  rw [e2']
  simp
/-! ### a word with a letter otherwise -/
noncomputable def otherB (draw one : MF) : MS := (seqM (asgM (nameT 3) (callM draw (aCons (rd 0) (aCons (opM addM (cbM lenA (aCons (rd 2) aNil)) (cst (.int 1))) aNil))))
 (retM (slM slAny (opM addM (opM addM (slM slAny (rd 2) noP (prt (rd 3))) (callM one (aCons (rd 0) (aCons (slM slAny (cst (.str "abcd")) noP (prt (rd 1))) aNil)))) (slM slAny (rd 2) (prt (opM addM (rd 3) (callM draw (aCons (rd 0) (aCons (cst (.int 2)) aNil))))) noP)) noP (prt (cst (.int 400))))))
theorem other_yes {draw : MF} (hD : IsDraw draw) {k : Nat} (hk0 : 1 ≤ k) (hk : k ≤ 4) {ws : List Nat} (hw : Lets k ws) (hl : ws.length ≤ 1000) : Yes 3 (runM 4 (otherB draw (oneM draw)) [.deck, nD k, .str (W ws)]) fun d => ∃ vs, d = .str (W vs) ∧ Lets k vs ∧ vs.length ≤ 1001 := by
  intro st h0 hn
  obtain ⟨_, s1, e1, ⟨r, rfl, r1⟩, l1, l2⟩ := hD.yes (m := ws.length + 1) (by omega) (by omega) st h0 (by omega)
  have e1' : draw [.deck, .int (((ws.length : Nat) : Int) + 1)] st = some (.int ((r : Nat) : Int), s1) := e1
  obtain ⟨_, s2, e2, ⟨c, rfl, hc⟩, l3, l4⟩ := let_yes hD hk0 hk s1 (by omega) (by omega)
  obtain ⟨_, s3, e3, ⟨r', rfl, r2⟩, l5, l6⟩ := hD.yes (m := 2) (by omega) (by omega) s2 (by omega) (by omega)
  have e3' : draw [.deck, .int 2] s2 = some (.int ((r' : Nat) : Int), s3) := e3
  have hx : ((r : Nat) : Int) + ((r' : Nat) : Int) = ((r + r' : Nat) : Int) := by omega
  refine ⟨.str (W ((ws.take r ++ [c] ++ ws.drop (r + r')).take 400)), s3, ?_, ⟨_, rfl, fun x hx => ?_, ?_⟩, by omega, by omega⟩
  · unfold otherB
    generalize oneM draw = one at e2
    have h400 : (some (400 : Int)) = some (((400 : Nat) : Nat) : Int) := rfl
    have ht : (ws.take r).length ≤ 1000 := by simp; omega
    have hd' : (ws.drop (r + r')).length ≤ 1000 := by simp; omega
    have g1 : ∀ vs : List Nat, cutS (W vs) none (some (400 : Int)) = W (vs.take 400) := fun vs => cutW_to' (n := 400)
    have g2 : cutS (W ws) (some (((r : Nat) : Int) + ((r' : Nat) : Int))) none = W (ws.drop (r + r')) := by rw [hx]; exact cutW_from'
    have hlen3 : (ws.take r ++ ([c] ++ ws.drop (r + r'))).length ≤ 1000000 := by simp only [List.length_append, List.length_singleton]; omega
    simp [grd_of (show ws.length ≤ 1000000 by omega), e1', cutW_to', grd_of abcd_len, cut_abcd hk, e2, W_app]
    rw [grd_of (by omega)]
    simp [e3', g2, W_app]
    rw [grd_of (by omega)]
    simp [g1]
    rw [grd_of (by omega)]
    simp
  · have hx := List.mem_of_mem_take hx
    rcases List.mem_append.mp hx with z | z
    · rcases List.mem_append.mp z with z | z
      · exact hw x (List.mem_of_mem_take z)
      · rw [List.mem_singleton.mp z]; exact hc
    · exact hw x (List.mem_of_mem_drop z)
  · simp; omega
end Lw

set_option Elab.async false
set_option linter.all false
set_option maxRecDepth 100000
set_option maxHeartbeats 1000000
namespace Lw
open PySem MD
/-! ### data that can be shown -/
structure Sh (d : D) (n b : Nat) : Prop where
  pl : d.pl = true
  sh : d.py.showable = true
  dp : d.py.depth ≤ n
  lf : d.py.leavesShort 40 = true
  bk : d.py.bulk ≤ b
structure Shs (ds : List D) (n b : Nat) : Prop where
  pl : plAll ds = true
  sh : PyData.showableAll (pyAll ds) = true
  dp : PyData.depthAll (pyAll ds) ≤ n
  lf : PyData.leavesShortAll 40 (pyAll ds) = true
  bk : PyData.bulkAll (pyAll ds) ≤ b
theorem Sh.mono {d : D} {n b n' b' : Nat} (h : Sh d n b) (hn : n ≤ n') (hb : b ≤ b') : Sh d n' b' := ⟨h.pl, h.sh, Nat.le_trans h.dp hn, h.lf, Nat.le_trans h.bk hb⟩
theorem Shs.mono {d : List D} {n b n' b' : Nat} (h : Shs d n b) (hn : n ≤ n') (hb : b ≤ b') : Shs d n' b' := ⟨h.pl, h.sh, Nat.le_trans h.dp hn, h.lf, Nat.le_trans h.bk hb⟩
theorem Sh.non : Sh .non 0 0 := ⟨rfl, by simp [D.py, PyData.showable], by simp [D.py, PyData.depth], by simp [D.py, PyData.leavesShort], by simp [D.py, PyData.bulk]⟩
theorem Sh.bl (c : Bool) : Sh (.bl c) 0 0 := ⟨rfl, by simp [D.py, PyData.showable], by simp [D.py, PyData.depth], by simp [D.py, PyData.leavesShort], by simp [D.py, PyData.bulk]⟩
theorem Sh.int {i : Int} (h : i.natAbs < 10 ^ 39) : Sh (.int i) 0 0 := by
  refine ⟨rfl, ?_, by simp [D.py, PyData.depth], ?_, by simp [D.py, PyData.bulk]⟩
  · simp only [D.py, PyData.showable, decide_eq_true_eq]
    by_cases h0 : i.natAbs = 0
    · rw [h0]; decide
    · rw [Nat.log2_lt h0]
      exact Nat.lt_of_lt_of_le h (Nat.le_trans (show 10 ^ 39 ≤ 2 ^ 130 by decide) (Nat.pow_le_pow_right (by decide) (by decide)))
  · simp only [D.py, PyData.leavesShort, decide_eq_true_eq]
    have e := int_text_length_le10 (k := 39) (by decide) h
    show (Str.ofString (toString i)).length ≤ 40
    rw [ofString_length]; exact e
theorem Sh.nat {n : Nat} (h : n ≤ 1000000) : Sh (.int ((n : Nat) : Int)) 0 0 := Sh.int (by
  rw [Int.natAbs_natCast]
  exact Nat.lt_of_le_of_lt h (by decide))
theorem Sh.str {ws : List Nat} (h : ∀ c ∈ ws, c < 128) : Sh (.str (W ws)) 0 ws.length := by
  refine ⟨rfl, by simp [D.py, PyData.showable], by simp [D.py, PyData.depth], ?_, by simp [D.py, PyData.bulk]⟩
  simp only [D.py, PyData.leavesShort, W_list, List.all_eq_true, decide_eq_true_eq]
  exact fun c hc => Nat.lt_trans (h c hc) (by decide)
theorem Shs.nil {n : Nat} : Shs [] n 0 := ⟨rfl, rfl, Nat.zero_le _, rfl, Nat.le_refl _⟩
theorem Shs.cons {d : D} {ds : List D} {n b b' : Nat} (h : Sh d n b) (hs : Shs ds n b') : Shs (d :: ds) n (b + 1 + b') := by
  refine ⟨?_, ?_, ?_, ?_, ?_⟩
  · show (d.pl && plAll ds) = true
    rw [h.pl, hs.pl]; rfl
  · show (d.py.showable && PyData.showableAll (pyAll ds)) = true
    rw [h.sh, hs.sh]; rfl
  · show max d.py.depth (PyData.depthAll (pyAll ds)) ≤ n
    exact Nat.max_le.mpr ⟨h.dp, hs.dp⟩
  · show (d.py.leavesShort 40 && PyData.leavesShortAll 40 (pyAll ds)) = true
    rw [h.lf, hs.lf]; rfl
  · show d.py.bulk + 1 + PyData.bulkAll (pyAll ds) ≤ _
    have := h.bk
    have := hs.bk
    omega
theorem Shs.all {n b : Nat} : ∀ {ds : List D}, (∀ d ∈ ds, Sh d n b) → Shs ds n (ds.length * (b + 1))
  | [], _ => Shs.nil.mono (Nat.le_refl _) (by simp)
  | d :: ds, h => (Shs.cons (h d List.mem_cons_self) (Shs.all fun x hx => h x (List.mem_cons_of_mem _ hx))).mono (Nat.le_refl _) (by
    rw [List.length_cons, Nat.succ_mul]; omega)
theorem Sh.lst {ds : List D} {n b : Nat} (h : Shs ds n b) : Sh (.lst ds) (n + 1) b := by
  refine ⟨h.pl, h.sh, ?_, h.lf, h.bk⟩
  have := h.dp
  simp only [D.py, PyData.depth]
  omega
theorem Sh.tup {ds : List D} {n b : Nat} (h : Shs ds n b) : Sh (.tup ds) (n + 1) b := by
  refine ⟨h.pl, h.sh, ?_, h.lf, h.bk⟩
  have := h.dp
  simp only [D.py, PyData.depth]
  omega
theorem repr_sh {d : D} {n b : Nat} (h : Sh d n b) (hn : n ≤ 60) (hb : b ≤ 20000) : reprM [d] = some (.str d.py.shown) := by
  have h3 : d.py.depth ≤ 60 := Nat.le_trans h.dp hn
  have h4 : d.py.shown.length ≤ sizeLine := by
    have h1 := PyData.shown_le_bulk 40 (by decide) d.py h.lf
    have h2 : (40 + 2) * d.py.bulk ≤ 42 * 20000 := Nat.mul_le_mul (by decide) (Nat.le_trans h.bk hb)
    exact Nat.le_trans h1 (Nat.le_trans (show (40 + 2) * d.py.bulk + 40 ≤ 900000 by omega) (by decide))
  show (if d.pl && d.py.showable && decide (d.py.depth ≤ 60) && decide (d.py.shown.length ≤ sizeLine) then some (D.str d.py.shown) else none) = _
  rw [h.pl, h.sh, decide_eq_true h3, decide_eq_true h4]
  rfl
theorem Sh.opt {o : Option Nat} (h : ∀ s, o = some s → s ≤ 1000000) : Sh (optD o) 0 0 := by
  cases o with
  | none => exact Sh.non
  | some s => exact Sh.nat (h s rfl)
theorem sh_tK {kd : Kd} (ok : kd.Ok) : Sh (tK kd) 3 100 := by
  have m8 := ok.m8
  have k4 := ok.k4
  have hr : Shs (kd.rows.map rowD) 1 (kd.rows.length * 5) := by
    have := Shs.all (ds := kd.rows.map rowD) (n := 1) (b := 4) fun d hd => by
      obtain ⟨r, h1, rfl⟩ := List.mem_map.mp hd
      have e := ok.rl r h1
      refine (Sh.tup (Shs.all (n := 0) (b := 0) fun x hx => ?_)).mono (Nat.le_refl _) (by rw [List.length_map]; omega)
      obtain ⟨o, h2, rfl⟩ := List.mem_map.mp hx
      exact Sh.opt fun s hs => by
        have := ok.rs r h1 s (by rw [← hs]; exact h2)
        omega
    rw [List.length_map] at this
    exact this
  have he : Shs (kd.ends.map D.bl) 0 (kd.ends.length * 1) := by
    have := Shs.all (ds := kd.ends.map D.bl) (n := 0) (b := 0) fun d hd => by
      obtain ⟨c, _, rfl⟩ := List.mem_map.mp hd
      exact Sh.bl c
    rw [List.length_map] at this
    exact this
  have hl := ok.me
  exact (Sh.tup (n := 2) (.cons ((Sh.nat (n := kd.k) (by omega)).mono (Nat.zero_le _) (Nat.le_refl _)) (.cons (Sh.tup hr) (.cons ((Sh.tup he).mono (by decide) (Nat.le_refl _)) .nil)))).mono (Nat.le_refl _) (by omega)
theorem repr_tK {kd : Kd} (ok : kd.Ok) : reprM [tK kd] = some (.str (tK kd).py.shown) := repr_sh (sh_tK ok) (by decide) (by decide)
end Lw

set_option Elab.async false
set_option linter.all false
set_option maxRecDepth 100000
set_option maxHeartbeats 1000000
namespace Lw
open PySem MD L2
/-! ### dicts with whole numbers as keys -/
abbrev nK (n : Nat) : Key := Sum.inl ((n : Nat) : Int)
abbrev tKs (ns : List Nat) : List Key := ns.map nK
theorem nK_inj {a b : Nat} (h : nK a = nK b) : a = b := by injection h with h; omega
theorem hasK_n (ns : List Nat) (a : Nat) : hasK (tKs ns) (nK a) = decide (a ∈ ns) := by
  induction ns with
  | nil => simp [hasK]
  | cons b ns ih =>
    have e : hasK (tKs (b :: ns)) (nK a) = (decide (nK b = nK a) || hasK (tKs ns) (nK a)) := rfl
    rw [e, ih]
    by_cases h : b = a
    · subst h; simp
    · have h2 : ¬ nK b = nK a := fun z => h (nK_inj z)
      have h3 : ¬ a = b := fun z => h z.symm
      simp [h2, h3]
theorem getK_n {α : Type} (ns : List Nat) (xs : List α) (hl : ns.length = xs.length) (a : Nat) : getK (tKs ns) xs (nK a) = if a ∈ ns then xs[ns.idxOf a]? else none := by
  induction ns generalizing xs with
  | nil => simp [getK]
  | cons b ns ih =>
    cases xs with
    | nil => simp at hl
    | cons x xs =>
      have e : getK (tKs (b :: ns)) (x :: xs) (nK a) = if nK b = nK a then some x else getK (tKs ns) xs (nK a) := rfl
      rw [e, ih xs (by simpa using hl)]
      by_cases h : b = a
      · subst h; simp [List.idxOf_cons]
      · have h2 : ¬ nK b = nK a := fun z => h (nK_inj z)
        have h3 : ¬ a = b := fun z => h z.symm
        have h4 : (b == a) = false := by simpa using h
        rw [if_neg h2, List.idxOf_cons, h4]
        simp [h3]
theorem mrg_new {α : Type} (l : List (Nat × α)) : ∀ (ns : List Nat) (xs : List α), (ns ++ l.map (·.1)).Nodup → mrgL (tKs ns) xs (l.map fun p => (nK p.1, p.2)) = (tKs (ns ++ l.map (·.1)), xs ++ l.map (·.2)) := by
  induction l with
  | nil => intro ns xs _; simp [mrgL]
  | cons p l ih =>
    intro ns xs h
    have hn : p.1 ∉ ns := fun z => by
      rw [List.map_cons, List.nodup_append] at h
      exact h.2.2 p.1 z p.1 List.mem_cons_self rfl
    have e1 : putKs (tKs ns) (nK p.1) = tKs (ns ++ [p.1]) := by
      unfold putKs
      rw [hasK_n, decide_eq_false hn]
      simp
    have e2 : putVs (tKs ns) xs (nK p.1) p.2 = xs ++ [p.2] := by
      unfold putVs
      rw [hasK_n, decide_eq_false hn]
      rfl
    have e : mrgL (tKs ns) xs ((p :: l).map fun p => (nK p.1, p.2)) = mrgL (putKs (tKs ns) (nK p.1)) (putVs (tKs ns) xs (nK p.1) p.2) (l.map fun p => (nK p.1, p.2)) := rfl
    rw [e, e1, e2, ih (ns ++ [p.1]) (xs ++ [p.2]) (by simpa using h)]
    simp
theorem prsD_n (l : List (Nat × D)) : prsD (l.map fun p => D.tup [nD p.1, p.2]) = some (l.map fun p => (nK p.1, p.2)) := by
  induction l with
  | nil => rfl
  | cons p l ih =>
    show ((keyOf (nD p.1)).bind fun k => (prsD (l.map fun p => D.tup [nD p.1, p.2])).map ((k, p.2) :: ·)) = _
    rw [ih]
    rfl
theorem dr_at {st : S} {n : Nat} {ds : List D} (h : st.ob[n]? = some (.lst ds)) : dr st (.ref n) = .lst ds := by rw [dr_ref, h]
theorem lstAt_of {st : S} {n : Nat} {ds : List D} (h : st.ob[n]? = some (.lst ds)) : lstAt st n = some ds := by unfold lstAt; rw [h]
theorem put_at {st : S} {n : Nat} {o o' : Ob} (h : st.ob[n]? = some o') : (st.put n o).ob[n]? = some o := by
  have hl : n < st.ob.length := by
    rcases Nat.lt_or_ge n st.ob.length with z | z
    · exact z
    · rw [List.getElem?_eq_none z] at h; cases h
  show (st.ob.set n o)[n]? = _
  rw [List.getElem?_set_self hl]
theorem ad_at' {st : S} {o : Ob} : (st.ad o).ob[st.ob.length]? = some o := by
  show (st.ob ++ [o])[st.ob.length]? = _
  simp
end Lw

set_option Elab.async false
set_option linter.all false
set_option maxRecDepth 100000
set_option maxHeartbeats 1000000
namespace MD
open PySem PySem.Spec PyProof.Rows L2 RZ
/-! ### data that are told by what they read as -/
mutual
theorem D.py_inj : ∀ (d e : D), d.pl = true → e.pl = true → d.py = e.py → d = e
  | .non, .non, _, _, _ => rfl
  | .bl a, .bl b, _, _, h => by simp only [D.py] at h; cases h; rfl
  | .int a, .int b, _, _, h => by simp only [D.py] at h; cases h; rfl
  | .str a, .str b, _, _, h => by simp only [D.py] at h; cases h; rfl
  | .lst a, .lst b, p, q, h => by
    simp only [D.py] at h
    rw [pyAll_inj a b (by simpa [D.pl] using p) (by simpa [D.pl] using q) (PyData.list.inj h)]
  | .tup a, .tup b, p, q, h => by
    simp only [D.py] at h
    rw [pyAll_inj a b (by simpa [D.pl] using p) (by simpa [D.pl] using q) (PyData.tuple.inj h)]
  | .deck, _, p, _, _ => by simp [D.pl] at p
  | .dic _ _, _, p, _, _ => by simp [D.pl] at p
  | .ref _, _, p, _, _ => by simp [D.pl] at p
  | _, .deck, _, p, _ => by simp [D.pl] at p
  | _, .dic _ _, _, p, _ => by simp [D.pl] at p
  | _, .ref _, _, p, _ => by simp [D.pl] at p
  | .non, .bl _, _, _, h => by simp only [D.py] at h; cases h
  | .non, .int _, _, _, h => by simp only [D.py] at h; cases h
  | .non, .str _, _, _, h => by simp only [D.py] at h; cases h
  | .non, .lst _, _, _, h => by simp only [D.py] at h; cases h
  | .non, .tup _, _, _, h => by simp only [D.py] at h; cases h
  | .bl _, .non, _, _, h => by simp only [D.py] at h; cases h
  | .bl _, .int _, _, _, h => by simp only [D.py] at h; cases h
  | .bl _, .str _, _, _, h => by simp only [D.py] at h; cases h
  | .bl _, .lst _, _, _, h => by simp only [D.py] at h; cases h
  | .bl _, .tup _, _, _, h => by simp only [D.py] at h; cases h
  | .int _, .non, _, _, h => by simp only [D.py] at h; cases h
  | .int _, .bl _, _, _, h => by simp only [D.py] at h; cases h
  | .int _, .str _, _, _, h => by simp only [D.py] at h; cases h
  | .int _, .lst _, _, _, h => by simp only [D.py] at h; cases h
  | .int _, .tup _, _, _, h => by simp only [D.py] at h; cases h
  | .str _, .non, _, _, h => by simp only [D.py] at h; cases h
  | .str _, .bl _, _, _, h => by simp only [D.py] at h; cases h
  | .str _, .int _, _, _, h => by simp only [D.py] at h; cases h
  | .str _, .lst _, _, _, h => by simp only [D.py] at h; cases h
  | .str _, .tup _, _, _, h => by simp only [D.py] at h; cases h
  | .lst _, .non, _, _, h => by simp only [D.py] at h; cases h
  | .lst _, .bl _, _, _, h => by simp only [D.py] at h; cases h
  | .lst _, .int _, _, _, h => by simp only [D.py] at h; cases h
  | .lst _, .str _, _, _, h => by simp only [D.py] at h; cases h
  | .lst _, .tup _, _, _, h => by simp only [D.py] at h; cases h
  | .tup _, .non, _, _, h => by simp only [D.py] at h; cases h
  | .tup _, .bl _, _, _, h => by simp only [D.py] at h; cases h
  | .tup _, .int _, _, _, h => by simp only [D.py] at h; cases h
  | .tup _, .str _, _, _, h => by simp only [D.py] at h; cases h
  | .tup _, .lst _, _, _, h => by simp only [D.py] at h; cases h
theorem pyAll_inj : ∀ (ds es : List D), plAll ds = true → plAll es = true → pyAll ds = pyAll es → ds = es
  | [], [], _, _, _ => rfl
  | [], _ :: _, _, _, h => by simp [pyAll] at h
  | _ :: _, [], _, _, h => by simp [pyAll] at h
  | d :: ds, e :: es, p, q, h => by
    simp only [plAll, Bool.and_eq_true] at p q
    simp only [pyAll] at h
    obtain ⟨h1, h2⟩ := List.cons.inj h
    rw [D.py_inj d e p.1 q.1 h1, pyAll_inj ds es p.2 q.2 h2]
end
theorem pyAll_map : ∀ ds : List D, pyAll ds = ds.map D.py
  | [] => rfl
  | d :: ds => by rw [pyAll, pyAll_map ds]; rfl
theorem plAll_mem : ∀ {ds : List D}, plAll ds = true → ∀ d ∈ ds, d.pl = true
  | d :: ds, h, e, he => by
    rw [plAll, Bool.and_eq_true] at h
    rcases List.mem_cons.mp he with rfl | he
    · exact h.1
    · exact plAll_mem h.2 e he
/-! ### sorted(xs), xs a list of data that are alike -/
def allAl (ds : List D) : Bool := ds.all fun d => ds.all fun e => PySem.W.alike d.py e.py
def isCT : D → Bool
  | .tup (_ :: _) => true
  | _ => false
def isSc : D → Bool
  | .int _ => true
  | .str _ => true
  | .bl _ => true
  | _ => false
def sortG (ds : List D) : Bool := plAll ds && allAl ds && (ds.all isCT || ds.all isSc) && ds.all fun d => decide (d.py.depth ≤ 60)
def srtD (ds : List D) : List D := ds.mergeSort (PySem.W.dataLe false D.py)
def rSortD (K : Fg) : List V → Hp → VK → Prop := fun vs H Q => ∃ (a : Addr) (xs : List V) (ds : List D) (P : V → D → Prop), vs = [V.ref a] ∧ SqL K H a xs ∧ PySem.W.EachIs P xs ds ∧ (∀ v d, P v d → Dp K H v d.py) ∧
  PySem.W.AllAlike (ds.map D.py) ∧ PySem.W.Sortable (ds.map D.py) ∧ (∀ d ∈ ds, d.py.depth ≤ 60) ∧ ∀ ys p, PySem.W.EachIs P ys (srtD ds) → H p = none → Q (.ref p) (upd H p (.lst ys))
theorem each_join {P : V → D → Prop} : ∀ {xs : List V} {us : List Value} {ds : List D}, Vals xs us → PySem.W.EachIs P xs ds → PySem.W.EachIs (fun u d => ∃ v, RelV v u ∧ P v d) us ds
  | _, _, _, .nil, .nil => .nil
  | _, _, _, .cons a r, .cons b q => .cons ⟨_, a, b⟩ (each_join r q)
theorem each_split {P : V → D → Prop} : ∀ {us : List Value} {ds : List D}, PySem.W.EachIs (fun u d => ∃ v, RelV v u ∧ P v d) us ds → ∃ ys, Vals ys us ∧ PySem.W.EachIs P ys ds
  | _, _, .nil => ⟨[], .nil, .nil⟩
  | _, _, .cons ⟨v, h1, h2⟩ r => by
    obtain ⟨ys, h3, h4⟩ := each_split r
    exact ⟨v :: ys, .cons h1 h3, .cons h2 h4⟩
theorem call_sortedD {X : Cx} (hu : X.A.units + 64 < cLine) : CallR X (.builtin "sorted") (rSortD X.K) := by
  intro pins s σ H vs us Q I r h
  obtain ⟨a, xs, ds, P, rfl, hs, he, hp, ha, hk, hd, q⟩ := h
  obtain ⟨its, rv, hl, hz⟩ := I.list hs
  rw [Vals.ref1 r]
  have e1 : PySem.W.EachIs (fun u d => ∃ v, RelV v u ∧ P v d) its ds := each_join rv he
  have hlen1 : xs.length = ds.length := he.length
  refine PySem.W.sorted_data (enc := D.py) (bs := ds) (vs := its) hl.isList e1 (e1.mono fun u d ⟨v, r1, p1⟩ => Dp.reads I _ _ _ (hp v d p1) r1) ha hk (by rw [← hlen1]; exact hz) (fun b hb => by have := hd b hb; omega) fun out ho eo => ?_
  obtain ⟨ys, h1, h2⟩ := each_split eo
  obtain ⟨ep, he'⟩ := PyProof.Rows.sortedAll_at s.heap its (List.toArray out)
  have hlen : ys.length ≤ sizeLine := by
    have : ys.length = (srtD ds).length := h2.length
    rw [this]
    unfold srtD
    rw [List.length_mergeSort, ← hlen1]
    exact hz
  exact ⟨.ref _, upd H (s.heap.objs.size + 1) (.lst ys), I.laid (t' := s.toks) (fun _ _ => PyProof.Rows.sortedAll_old) (Nat.le_succ _) ⟨hlen, out, ep, h1, he'⟩, rfl, q _ _ h2 (I.hok.fresh (Nat.le_succ _))⟩
def sortM (f : ME) : MA := fun env st => (f env st).bind fun p => match dr p.2 p.1 with
  | .lst ds => if sortG ds = true then some (srtD ds, p.2) else none
  | _ => none
section
variable {K : Fg} {dk : Dk} {F F' F0 : Fz} {H H' H0 : Hp} {σ : L2.St} {env : Sg} {st : S}
theorem rps_each : ∀ {vs : List V} {ds : List D}, Rps K dk F vs ds → plAll ds = true → PySem.W.EachIs (fun v d => Rp K dk F v d ∧ d.pl = true) vs ds
  | _, _, .nil, _ => .nil
  | _, _, .cons a r, h => by
    rw [plAll, Bool.and_eq_true] at h
    exact .cons ⟨a, h.1⟩ (rps_each r h.2)
theorem each_rps : ∀ {vs : List V} {ds : List D}, PySem.W.EachIs (fun v d => Rp K dk F v d ∧ d.pl = true) vs ds → Rps K dk F vs ds
  | _, _, .nil => .nil
  | _, _, .cons a r => .cons a.1 (each_rps r)
theorem allAl_iff {ds : List D} (h : allAl ds = true) : PySem.W.AllAlike (ds.map D.py) := by
  intro d hd d' hd'
  obtain ⟨x, hx, rfl⟩ := List.mem_map.mp hd
  obtain ⟨y, hy, rfl⟩ := List.mem_map.mp hd'
  unfold allAl at h
  rw [List.all_eq_true] at h
  have h2 := h x hx
  rw [List.all_eq_true] at h2
  exact h2 y hy
theorem sortable_of {ds : List D} (h : (ds.all isCT || ds.all isSc) = true) : PySem.W.Sortable (ds.map D.py) := by
  rcases Bool.or_eq_true_iff.mp h with h | h
  · refine .inl fun d hd => ?_
    obtain ⟨x, hx, rfl⟩ := List.mem_map.mp hd
    have := List.all_eq_true.mp h x hx
    cases x with
    | tup ts =>
      cases ts with
      | nil => cases this
      | cons t ts => exact ⟨t.py, pyAll ts, by rw [D.py, pyAll]⟩
    | _ => cases this
  · refine .inr fun d hd => ?_
    obtain ⟨x, hx, rfl⟩ := List.mem_map.mp hd
    have := List.all_eq_true.mp h x hx
    cases x with
    | int i => exact ⟨fun z => (by rw [D.py] at z; cases z), fun xs z => (by rw [D.py] at z; cases z)⟩
    | str i => exact ⟨fun z => (by rw [D.py] at z; cases z), fun xs z => (by rw [D.py] at z; cases z)⟩
    | bl i => exact ⟨fun z => (by rw [D.py] at z; cases z), fun xs z => (by rw [D.py] at z; cases z)⟩
    | _ => cases this
theorem if_sorted {ta : TA} {f : ME} (ha : ImAW K ta (aCons f aNil)) : ImF K (tCB (rSortD K) ta) (sortM f) := fun dk H0 F0 F σ H env st d st' g e Q q => by
  obtain ⟨⟨x, s1⟩, h1, e⟩ := bnd e
  have h1' : aCons f aNil env st = some ([x], s1) := by
    show (f env st).bind _ = _
    rw [h1]; rfl
  refine ha dk H0 F0 F σ H env st [x] s1 g h1' _ fun vs F1 H1 x1 g1 r1 => ?_
  obtain ⟨v, rfl, r⟩ := (r1.dr g1.wd).one
  dsimp only at e
  generalize dr s1 x = y at e r
  split at e
  · rename_i ds
    split at e
    · rename_i hG
      cases e
      obtain ⟨p, us, rfl, hp, r2⟩ := r.l g1.wd.sub
      unfold sortG at hG
      simp only [Bool.and_eq_true] at hG
      obtain ⟨⟨⟨g1', g2⟩, g3⟩, g4⟩ := hG
      refine ⟨p, us, ds, fun v d => Rp K dk F1 v d ∧ d.pl = true, rfl, SqL.of hp, rps_each r2 g1', fun v d h => h.1.dp g1.wd.sub h.2, allAl_iff g2, sortable_of g3, fun d hd => by simpa using List.all_eq_true.mp g4 d hd, fun ys l hy hl => ?_⟩
      have px : Px F1 H1 F1 (upd H1 l (.lst ys)) := Px.lay g1.wd.sub hl
      exact q l ys F1 _ (x1.trans px.ext) (g1.px px) (x1.back hl) (g1.wd.out hl) upd_same (each_rps hy)
    · cases e
  · cases e
/-! ### zip of two tuples -/
def zipD (xs ys : List D) : List D := List.zipWith (fun x y => .tup [x, y]) xs ys
theorem zipD_get {xs ys : List D} {i : Nat} {d : D} (h : (zipD xs ys)[i]? = some d) : ∃ x y, xs[i]? = some x ∧ ys[i]? = some y ∧ d = .tup [x, y] := by
  unfold zipD at h
  rw [List.getElem?_zipWith] at h
  cases hx : xs[i]? with
  | none => rw [hx] at h; cases h
  | some x =>
    cases hy : ys[i]? with
    | none => rw [hx, hy] at h; cases h
    | some y => rw [hx, hy] at h; cases h; exact ⟨x, y, rfl, rfl, rfl⟩
theorem stdy_zipT {a b : Addr} {vs us : List V} {ds es : List D} (h : SqT K F a vs) (r : Rps K dk F vs ds) (h' : SqT K F b us) (r' : Rps K dk F us es) : Stdy K dk F (ItzT K a b) (zipD ds es) := fun F1 H1 st le w i => by
  have hq : SqT K H1 a vs := w.sub.sqT (le.sqT h)
  have hq' : SqT K H1 b us := w.sub.sqT (le.sqT h')
  refine ⟨fun d hd => ?_, fun hl => ⟨vs, us, hq, hq', ?_⟩⟩
  · obtain ⟨x, y, h1, h2, rfl⟩ := zipD_get hd
    obtain ⟨v, h3, h4⟩ := r.get h1
    obtain ⟨u, h5, h6⟩ := r'.get h2
    refine ⟨⟨vs, us, v, u, hq, hq', h3, h5⟩, fun z H2 hy => ?_⟩
    obtain ⟨T, v', u', rfl, hT, rfl, e1, e2⟩ := hy
    have e1' := e1 vs hq
    have e2' := e2 us hq'
    rw [h3] at e1'
    rw [h5] at e2'
    cases e1'
    cases e2'
    have px : Px F1 H1 (Fz.up F1 T (.tup [v, u])) (upd H1 T (.tup [v, u])) := Px.new w.sub hT
    exact ⟨_, px, .tup (SqT.of Fz.up_same) (.cons ((h4.mono le).mono px.f) (.cons ((h6.mono le).mono px.f) .nil))⟩
  · rw [r.length, r'.length]
    have : (zipD ds es).length = min ds.length es.length := by unfold zipD; rw [List.length_zipWith]
    omega
def zipI (f f' : ME) : MI := fun env st => (f env st).bind fun p => (f' env p.2).bind fun q => match p.1, q.1 with
  | .tup xs, .tup ys => some (zipD xs ys, q.2)
  | _, _ => none
theorem ii_zip {te te' : TE} {f f' : ME} (h : Im K te f) (h' : Im K te' f') : ImI K (iZipA K (tCons te (tCons te' tNil))) (zipI f f') := fun dk H0 F0 F σ H env st ds st' g e R q => by
  obtain ⟨⟨d, s1⟩, h1, e⟩ := bnd e
  obtain ⟨⟨d', s2⟩, h2, e⟩ := bnd e
  dsimp only at e
  split at e
  · cases e
    refine h dk H0 F0 F σ H env st _ s1 g h1 _ fun v F1 H1 x1 g1 r1 => ?_
    refine h' dk H0 F0 F1 σ H1 env s1 _ _ g1 h2 _ fun u F2 H2 x2 g2 r2 => ?_
    have r1' := r1.mono x2.f
    cases r1' with
    | tup a1 a2 =>
      cases r2 with
      | tup b1 b2 => exact ⟨_, _, _, _, rfl, .inr ⟨g2.wd.sub.sqT a1, g2.wd.sub.sqT b1, q _ F2 H2 (x1.trans x2) g2 (stdy_zipT a1 a2 b1 b2)⟩⟩
  · cases e
/-! ### d.setdefault(k, x), d a dict of the store -/
def sdefM (fo fk fx : ME) : ME := fun env st => (fo env st).bind fun o => (refOf o.1).bind fun n => (dicAt o.2 n).bind fun _ => (fk env o.2).bind fun p => (fx env p.2).bind fun r => (dicAt r.2 n).bind fun z => (keyOf p.1).bind fun k =>
  if z.2.length < sizeLine then (match getK z.1 z.2 k with
    | some d => some (d, r.2)
    | none => some (r.1, r.2.put n (.dic false (putKs z.1 k) (putVs z.1 z.2 k r.1)))) else none
theorem im_sdef {to ty tx : TE} {fo fk fx : ME} (ho : Im K to fo) (hk : ImW K ty fk) (hx : Im K tx fx) : Im K (tDSetd to ty tx) (sdefM fo fk fx) := fun dk H0 F0 F σ H env st d st' g e Q q => by
  obtain ⟨⟨o, s1⟩, h1, e⟩ := bnd e
  obtain ⟨n, h2, e⟩ := bnd e
  obtain ⟨z0, h3, e⟩ := bnd e
  obtain ⟨⟨y, s2⟩, h4, e⟩ := bnd e
  obtain ⟨⟨x, s3⟩, h5, e⟩ := bnd e
  obtain ⟨⟨ks, ds⟩, h6, e⟩ := bnd e
  obtain ⟨k, h7, e⟩ := bnd e
  split at e
  · rename_i hz
    have e9 := e
    refine ho dk H0 F0 F σ H env st o s1 g h1 _ fun v F1 H1 x1 g1 r1 => ?_
    have hxo : o = .ref n := refOf_eq h2
    subst hxo
    obtain ⟨a, rfl, ha⟩ := r1.refn
    obtain ⟨vs0, hv0, _, _⟩ := g1.wd.dicAt ha h3
    refine ⟨a, rfl, .inl ⟨_, .inl hv0⟩, ?_⟩
    refine hk dk H0 F0 F1 σ H1 env s1 y s2 g1 h4 _ fun u F2 H2 x2 g2 r2 => ?_
    refine hx dk H0 F0 F2 σ H2 env s2 x s3 g2 h5 _ fun w F3 H3 x3 g3 r3 => ?_
    have ha3 := (x2.f.trans x3.f).at ha
    obtain ⟨vs, hvs, hl, rv⟩ := g3.wd.dicAt ha3 h6
    have x123 := x1.trans (x2.trans x3)
    obtain ⟨i1, i2⟩ := getK_val ks k rv hl
    refine ⟨ks.zip vs, k, hvs, keyOf_rw r2.w h7, ?_, fun v' hv' => ?_, fun hn => ?_⟩
    · have := rv.length
      rw [List.length_zip, hl, Nat.min_self, this]; exact hz
    · cases hg : getK ks ds k with
      | none => rw [i2 hg] at hv'; cases hv'
      | some d1 =>
        obtain ⟨u1, hu1, ru1⟩ := i1 d1 hg
        rw [hu1] at hv'
        cases hv'
        dsimp only at e9
        rw [hg] at e9
        cases e9
        exact q _ F3 H3 x123 g3 ru1
    · cases hg : getK ks ds k with
      | some d1 =>
        obtain ⟨u1, hu1, ru1⟩ := i1 d1 hg
        rw [hu1] at hn
        cases hn
      | none =>
        dsimp only at e9
        rw [hg] at e9
        cases e9
        have nf : ¬ Fro (HO.dK (ks.zip vs)) := by rintro ⟨_, _, z⟩; cases z
        have nf' : ¬ Fro (HO.dK (putK (ks.zip vs) k w)) := by rintro ⟨_, _, z⟩; cases z
        refine q w F3 _ (x123.put ha3 hvs nf nf') (g3.put ha3 hvs nf ?_) r3
        exact .dic (by rw [upd_same]; exact congrArg (fun z => some (HO.dK z)) (put_zip hl)) (put_len hl) (putVs_rps r3 rv)
  · cases e
/-! ### min of a list of data that are alike -/
def minE (x : D) (xs : List D) : D := xs.foldl (fun a y => if PySem.W.dataLt y.py a.py then y else a) x
theorem minE_py : ∀ (xs : List D) (x : D), (minE x xs).py = PySem.W.minD x.py (pyAll xs)
  | [], x => rfl
  | y :: ys, x => by
    show (minE (if PySem.W.dataLt y.py x.py then y else x) ys).py = _
    rw [minE_py ys]
    unfold PySem.W.minD
    rw [pyAll, List.foldl_cons]
    congr 1
    split <;> rfl
theorem minE_mem : ∀ (xs : List D) (x : D), minE x xs ∈ x :: xs
  | [], x => List.mem_singleton.mpr rfl
  | y :: ys, x => by
    have h := minE_mem ys (if PySem.W.dataLt y.py x.py then y else x)
    show minE (if PySem.W.dataLt y.py x.py then y else x) ys ∈ _
    rcases List.mem_cons.mp h with e | h
    · rw [e]
      split <;> simp
    · exact List.mem_cons_of_mem _ (List.mem_cons_of_mem _ h)
def rMinD (K : Fg) : List V → Hp → VK → Prop := fun vs H Q => ∃ (a : Addr) (xs : List V) (x : PyData) (ds : List PyData), vs = [V.ref a] ∧ SqL K H a xs ∧ DpAll K H xs (x :: ds) ∧ PySem.W.AlikeAll (x :: ds) ∧ PyData.depthAll (x :: ds) ≤ 60 ∧
  ∀ (i : Nat) (v : V), xs[i]? = some v → (x :: ds)[i]? = some (PySem.W.minD x ds) → Q v H
theorem vals_get : ∀ {xs : List V} {us : List Value}, Vals xs us → ∀ {i : Nat} {u : Value}, us[i]? = some u → ∃ v, xs[i]? = some v ∧ RelV v u
  | _, _, .nil, i, u, h => by cases h
  | _, _, .cons a r, 0, u, h => by cases h; exact ⟨_, rfl, a⟩
  | _, _, .cons a r, i + 1, u, h => vals_get r (i := i) h
theorem reads_get {h : Heap} : ∀ {us : List Value} {ds : List PyData} {as : List Addr}, ReadsAll h us ds as → ∀ {i : Nat} {u : Value}, us[i]? = some u → ∃ d bs, ds[i]? = some d ∧ Reads h u d bs
  | _, _, _, .nil, i, u, e => by cases e
  | _, _, _, .cons a r, 0, u, e => by cases e; exact ⟨_, _, rfl, a⟩
  | _, _, _, .cons a r, i + 1, u, e => reads_get r (i := i) e
theorem minD_mem : ∀ (ds : List PyData) (x : PyData), PySem.W.minD x ds ∈ x :: ds
  | [], x => List.mem_singleton.mpr rfl
  | y :: ys, x => by
    have h := minD_mem ys (if PySem.W.dataLt y x then y else x)
    show PySem.W.minD (if PySem.W.dataLt y x then y else x) ys ∈ _
    rcases List.mem_cons.mp h with e | h
    · rw [e]
      split <;> simp
    · exact List.mem_cons_of_mem _ (List.mem_cons_of_mem _ h)
theorem call_minD {X : Cx} (hc : X.calm = true) (hu : X.A.units + 64 < cLine) : CallR X (.builtin "min") (rMinD X.K) := by
  intro pins s σ H vs us Q I r h
  obtain ⟨a, xs, x, ds, rfl, hs, hd, ha, hdp, q⟩ := h
  obtain ⟨its, rv, hl, hz⟩ := I.list hs
  rw [Vals.ref1 r]
  obtain ⟨as, hr⟩ := Dp.readsAll I _ _ its hd rv
  refine PySem.W.min_list_data (I.ok.hd hc) hl.isList (by simpa using hr) ha (by omega) fun i v h' tk bs hv hrd hk => ?_
  have hv' : its[i]? = some v := by simpa using hv
  obtain ⟨y, hy, ry⟩ := vals_get rv hv'
  obtain ⟨d, cs, hd1, rd1⟩ := reads_get hr hv'
  have hdm : d ∈ x :: ds := List.mem_of_getElem? hd1
  have e : d = PySem.W.minD x ds := PySem.W.alike_unique _ _ _ _ _ (ha.1 _ hdm _ (minD_mem ds x)) (PySem.W.reads_keeps hk rd1) hrd
  exact ⟨y, H, I.kept hk, ry, q i y hy (by rw [hd1, e])⟩
def minG (ds : List D) : Bool := plAll ds && allAl ds && ds.all (fun d => !nonD d) && decide (PyData.depthAll (pyAll ds) ≤ 60)
def minDM : List D → Option D
  | [.lst (x :: ds)] => if minG (x :: ds) = true then some (minE x ds) else none
  | _ => none
theorem rc_minD : RC K (rMinD K) minDM := by
  intro dk F H st vs ds z w rx hz Q q
  unfold minDM at hz
  split at hz
  · rename_i x es
    split at hz
    · rename_i hG
      cases hz
      unfold minG at hG
      simp only [Bool.and_eq_true, decide_eq_true_eq] at hG
      obtain ⟨⟨⟨g1, g2⟩, g3⟩, g4⟩ := hG
      obtain ⟨v, rfl, r⟩ := rx.one
      obtain ⟨p, us, rfl, hp, r2⟩ := r.l w.sub
      have hal := allAl_iff g2
      refine ⟨p, us, x.py, pyAll es, rfl, SqL.of hp, r2.dp w.sub g1, ⟨fun a ha b hb => hal a (by rw [← pyAll_map]; exact ha) b (by rw [← pyAll_map]; exact hb), fun a ha => ?_⟩, g4, fun i v hv hm => ?_⟩
      · have ha' : a ∈ (x :: es).map D.py := by rw [← pyAll_map]; exact ha
        obtain ⟨d, hd, rfl⟩ := List.mem_map.mp ha'
        have h1 := List.all_eq_true.mp g3 d hd
        have h2 := plAll_mem g1 d hd
        intro z
        cases d <;> simp [D.py, nonD, D.pl] at h1 h2 z
      · obtain ⟨d, hd, rd⟩ := r2.getV hv
        have hm' : ((x :: es).map D.py)[i]? = some (PySem.W.minD x.py (pyAll es)) := by rw [← pyAll_map]; exact hm
        rw [List.getElem?_map, hd] at hm'
        have e1 : d.py = (minE x es).py := by rw [minE_py]; exact Option.some.inj hm'
        have e2 := D.py_inj d _ (plAll_mem g1 d (List.mem_of_getElem? hd)) (plAll_mem g1 _ (minE_mem es x)) e1
        rw [← e2] at q
        exact q _ F H (Px.refl w.sub) rd
    · cases hz
  · cases hz
end
end MD

set_option Elab.async false
set_option linter.all false
set_option maxRecDepth 100000
set_option maxHeartbeats 4000000
namespace Lw
open PySem PySem.Spec PyProof.Rows L2 MD
/-! ### the text -/
def topS (i : Nat) : Stmt := PySem.Challenge.pw_unitlimits_k23_forms_unlike.main.body.getD i (.Pass ⟨0, 0, 0, 0⟩)
abbrev s__law_deck : Stmt := topS 13
theorem sc__law_deck : FnScope ["_law_script", "_law_cell"] ["_law_script"] (defScope s__law_deck) := ⟨rfl, rfl, rfl, by decide +kernel, rfl, by decide +kernel, by decide +kernel⟩
abbrev s__law_draw : Stmt := topS 14
theorem sc__law_draw : FnScope ["_law_deck_here", "_law_many", "_law_cell", "_law_at", "_law_mixed"] ["_law_deck_here", "_law_many"] (defScope s__law_draw) := ⟨rfl, rfl, rfl, by decide +kernel, rfl, by decide +kernel, by decide +kernel⟩
abbrev s__law_one : Stmt := topS 15
theorem sc__law_one : FnScope ["_law_deck_here", "_law_items"] ["_law_deck_here", "_law_items"] (defScope s__law_one) := ⟨rfl, rfl, rfl, by decide +kernel, rfl, by decide +kernel, by decide +kernel⟩
abbrev s__law_kind : Stmt := topS 16
theorem sc__law_kind : FnScope ["_law_deck_here", "_law_letters", "_law_many", "_law_none", "_law_rows", "_law_k", "_law_row", "_law_j"] ["_law_deck_here", "_law_letters", "_law_many"] (defScope s__law_kind) := ⟨rfl, rfl, rfl, by decide +kernel, rfl, by decide +kernel, by decide +kernel⟩
abbrev s__law_line : Stmt := topS 17
theorem sc__law_line : FnScope ["_law_deck_here", "_law_letters", "_law_many", "_law_rows", "_law_k", "_law_row", "_law_j"] ["_law_deck_here", "_law_letters", "_law_many"] (defScope s__law_line) := ⟨rfl, rfl, rfl, by decide +kernel, rfl, by decide +kernel, by decide +kernel⟩
abbrev s__law_rounds : Stmt := topS 24
theorem sc__law_rounds : FnScope ["_law_deck_here", "_law_letters", "_law_rows", "_law_k", "_law_j"] ["_law_deck_here", "_law_letters"] (defScope s__law_rounds) := ⟨rfl, rfl, rfl, by decide +kernel, rfl, by decide +kernel, by decide +kernel⟩
abbrev s__law_form : Stmt := topS 19
theorem sc__law_form : FnScope ["_law_deck_here", "_law_letters", "_law_most", "_law_k"] ["_law_deck_here", "_law_letters"] (defScope s__law_form) := ⟨rfl, rfl, rfl, by decide +kernel, rfl, by decide +kernel, by decide +kernel⟩
abbrev s__law_word : Stmt := topS 18
theorem sc__law_word : FnScope ["_law_deck_here", "_law_letters", "_law_most", "_law_k"] ["_law_deck_here", "_law_letters", "_law_most"] (defScope s__law_word) := ⟨rfl, rfl, rfl, by decide +kernel, rfl, by decide +kernel, by decide +kernel⟩
abbrev s__law_layer : Stmt := topS 22
theorem sc__law_layer : FnScope ["_law_kind_here", "_law_gaps", "_law_layer_here", "_law_found", "_law_word_here", "_law_number", "_law_state", "_law_j", "_law_item", "_law_later", "_law_first", "_law_row"] ["_law_kind_here", "_law_gaps", "_law_layer_here"] (defScope s__law_layer) := ⟨rfl, rfl, rfl, by decide +kernel, rfl, by decide +kernel, by decide +kernel⟩
abbrev s__law_first_unlike : Stmt := topS 23
theorem sc__law_first_unlike : FnScope ["_law_kind_here", "_law_one_here", "_law_other", "_law_gaps", "_law_layer_here", "_law_many", "_law_words", "_law_j", "_law_row"] ["_law_kind_here", "_law_one_here", "_law_other"] (defScope s__law_first_unlike) := ⟨rfl, rfl, rfl, by decide +kernel, rfl, by decide +kernel, by decide +kernel⟩
abbrev s_worth : Stmt := topS 6
theorem sc_worth : FnScope ["form", "word", "letter"] ["form", "word"] (defScope s_worth) := ⟨rfl, rfl, rfl, by decide +kernel, rfl, by decide +kernel, by decide +kernel⟩
abbrev s__law_worth : Stmt := topS 21
theorem sc__law_worth : FnScope ["_law_form_here", "_law_word_here", "_law_found", "_law_letter"] ["_law_form_here", "_law_word_here"] (defScope s__law_worth) := ⟨rfl, rfl, rfl, by decide +kernel, rfl, by decide +kernel, by decide +kernel⟩
abbrev s_met_from : Stmt := topS 2
theorem sc_met_from : FnScope ["nexts", "states", "found", "waiting", "item", "state"] ["nexts", "states"] (defScope s_met_from) := ⟨rfl, rfl, rfl, by decide +kernel, rfl, by decide +kernel, by decide +kernel⟩
abbrev s_used : Stmt := topS 3
theorem sc_used : FnScope ["kind", "rows", "ends", "ahead", "before", "state", "row", "item", "met", "alive", "end"] ["kind"] (defScope s_used) := ⟨rfl, rfl, rfl, by decide +kernel, rfl, by decide +kernel, by decide +kernel⟩
abbrev s_steps_of : Stmt := topS 4
theorem sc_steps_of : FnScope ["kind", "states", "found", "state", "k", "item"] ["kind"] (defScope s_steps_of) := ⟨rfl, rfl, rfl, by decide +kernel, rfl, by decide +kernel, by decide +kernel⟩
abbrev s_is_nought : Stmt := topS 10
theorem sc_is_nought : FnScope ["kind", "steps", "form", "numbers", "waiting", "state", "k", "item", "number"] ["kind", "steps", "form"] (defScope s_is_nought) := ⟨rfl, rfl, rfl, by decide +kernel, rfl, by decide +kernel, by decide +kernel⟩
abbrev s_wrong_words : Stmt := topS 9
theorem sc_wrong_words : FnScope ["kind", "layer", "found", "state", "number", "word"] ["kind", "layer"] (defScope s_wrong_words) := ⟨rfl, rfl, rfl, by decide +kernel, rfl, by decide +kernel, by decide +kernel⟩
abbrev s_added : Stmt := topS 7
theorem sc_added : FnScope ["one", "other", "number", "word"] ["one", "other"] (defScope s_added) := ⟨rfl, rfl, rfl, by decide +kernel, rfl, by decide +kernel, by decide +kernel⟩
abbrev s_next_worths : Stmt := topS 8
theorem sc_next_worths : FnScope ["steps", "form", "layer", "rows", "state", "number", "word", "found", "k", "item"] ["steps", "form", "layer"] (defScope s_next_worths) := ⟨rfl, rfl, rfl, by decide +kernel, rfl, by decide +kernel, by decide +kernel⟩
abbrev s_unlike : Stmt := topS 11
theorem sc_unlike : FnScope ["kind", "one", "other", "form", "steps", "layer", "first", "second"] ["kind", "one", "other"] (defScope s_unlike) := ⟨rfl, rfl, rfl, by decide +kernel, rfl, by decide +kernel, by decide +kernel⟩
abbrev s_law : Stmt := topS 25
theorem sc_law : FnScope ["_law_script", "_law_deck_here", "_law_turn", "_law_letters", "_law_many", "_law_kinds", "_law_one_here", "_law_other", "_law_at", "_law_step", "_law_near", "_law_kept", "_law_kind_here", "_law_form_here", "_law_due", "_law_k", "_law_word_here"] ["_law_script"] (defScope s_law) := ⟨rfl, rfl, rfl, by decide +kernel, rfl, by decide +kernel, by decide +kernel⟩
structure Txt (K : Fg) (mg : Str → Option Value) : Prop where
  n_len : mg "len" = none
  n_range : mg "range" = none
  n_tuple : mg "tuple" = none
  n_sorted : mg "sorted" = none
  n_list : mg "list" = none
  n_sum : mg "sum" = none
  c_LETTERS : ∃ t, mg "LETTERS" = some (.str "abcd" t)
  n_enumerate : mg "enumerate" = none
  n_zip : mg "zip" = none
  n_min : mg "min" = none
  n_repr : mg "repr" = none
  n_int : mg "int" = none
  n_abs : mg "abs" = none
/-! ### mirrors -/
def dc : DC := ⟨2147483563, 8117, 3, 2147483629⟩
def m__law_draw : MF := drawM dc
noncomputable def b__law_one : MS :=
 (retM (opM subD (rd 1) (callM m__law_draw (aCons (rd 0) (aCons (cbM lenA (aCons (rd 1) aNil)) aNil)))))
noncomputable def m__law_one : MF := runM 2 b__law_one
noncomputable def b__law_kind : MS :=
 (seqM (asgM (nameT 3) (callM m__law_one (aCons (rd 0) (aCons (frz (lstM (aCons (cst (.int 2)) (aCons (cst (.int 4)) (aCons (cst (.int 9)) aNil))))) aNil))))
 (seqM (ownM 4 (lstM aNil))
 (seqM (forM (r1M (aCons (rd 2) aNil)) (nameT 5)
 (seqM (asgM (nameT 6) (frz (compM (r1M (aCons (rd 1) aNil)) (nameT 7) yesM (ifM (tstM (opM gtM (callM m__law_draw (aCons (rd 0) (aCons (rd 3) aNil))) (cst (.int 0)))) (callM m__law_draw (aCons (rd 0) (aCons (rd 2) aNil))) (cst .non)) [7])))
 (appM 4 (cbM tupleM (aCons (rd 6) aNil)))))
 (retM (tupM (aCons (rd 1) (aCons (cbM tupleM (aCons (rdW 4) aNil)) (aCons (cbM tupleM (aCons (frz (compM (r1M (aCons (rd 2) aNil)) (nameT 5) yesM (opM gtM (callM m__law_draw (aCons (rd 0) (aCons (cst (.int 3)) aNil))) (cst (.int 0))) [5])) aNil)) aNil))))))))
noncomputable def m__law_kind : MF := runM 8 b__law_kind
noncomputable def b__law_line : MS :=
 (seqM (ownM 3 (lstM aNil))
 (seqM (forM (r1M (aCons (rd 2) aNil)) (nameT 4)
 (seqM (ownM 5 (compM (r1M (aCons (rd 1) aNil)) (nameT 6) yesM (ifM (andM (tstM (opM ltA (opM addM (rd 4) (cst (.int 1))) (rd 2))) (tstM (opM gtM (callM m__law_draw (aCons (rd 0) (aCons (cst (.int 4)) aNil))) (cst (.int 0))))) (opM addM (rd 4) (cst (.int 1))) (cst .non)) [6]))
 (seqM (ifS (tstM (opM ltA (opM addM (rd 4) (cst (.int 1))) (rd 2)))
 (lsetM 5 (callM m__law_draw (aCons (rd 0) (aCons (rd 1) aNil))) (opM addM (rd 4) (cst (.int 1))))
 nxM)
 (appM 3 (cbM tupleM (aCons (rdW 5) aNil))))))
 (retM (tupM (aCons (rd 1) (aCons (cbM tupleM (aCons (rdW 3) aNil)) (aCons (cbM tupleM (aCons (frz (compM (r1M (aCons (rd 2) aNil)) (nameT 4) yesM (orV (opM eqM (rd 4) (opM subM (rd 2) (cst (.int 1)))) (opM eqM (callM m__law_draw (aCons (rd 0) (aCons (cst (.int 3)) aNil))) (cst (.int 0)))) [4])) aNil)) aNil)))))))
noncomputable def m__law_line : MF := runM 7 b__law_line
noncomputable def b__law_rounds : MS :=
 (seqM (ownM 2 (lstM aNil))
 (seqM (forM (r1M (aCons (rd 1) aNil)) (nameT 3)
 (appM 2 (cbM tupleM (aCons (frz (compM (r1M (aCons (rd 1) aNil)) (nameT 4) yesM (ifM (tstM (opM eqM (rd 4) (rd 3))) (opM modM (opM addM (rd 3) (cst (.int 1))) (rd 1)) (cst .non)) [4])) aNil))))
 (retM (tupM (aCons (rd 1) (aCons (cbM tupleM (aCons (rdW 2) aNil)) (aCons (opM addM (tupM (aCons (cst (.bl true)) aNil)) (opM mulA (tupM (aCons (cst (.bl false)) aNil)) (opM subM (rd 1) (cst (.int 1))))) aNil)))))))
noncomputable def m__law_rounds : MF := runM 5 b__law_rounds
noncomputable def b__law_form : MS :=
 (seqM (asgM (nameT 2) (callM m__law_one (aCons (rd 0) (aCons (frz (lstM (aCons (cst (.int 1)) (aCons (cst (.int 3)) (aCons (cst (.int 9)) (aCons (cst (.int 99)) aNil)))))) aNil))))
 (retM (cbM tupleM (aCons (frz (compM (r1M (aCons (rd 1) aNil)) (nameT 3) yesM (opM subM (callM m__law_draw (aCons (rd 0) (aCons (opM addM (opM mulA (cst (.int 2)) (rd 2)) (cst (.int 1))) aNil))) (rd 2)) [3])) aNil))))
noncomputable def m__law_form : MF := runM 4 b__law_form
noncomputable def b__law_word : MS :=
 (retM (m1M joinM (cst (.str "")) (frz (compM (r1M (aCons (callM m__law_draw (aCons (rd 0) (aCons (opM addM (rd 2) (cst (.int 1))) aNil))) aNil)) (nameT 3) yesM (callM m__law_one (aCons (rd 0) (aCons (slM slAny (cst (.str "abcd")) noP (prt (rd 1))) aNil))) [3]))))
noncomputable def m__law_word : MF := runM 4 b__law_word
noncomputable def b__law_layer : MS :=
 (seqM (asgM (nameT 3) (stoK newK))
 (seqM (forM (seqI (rd 2)) (tupT 3 (consT (nameT 4) (consT (nameT 5) (consT (nameT 6) nilT))))
 (forM (r1M (aCons (opM subD (rd 0) (cst (.int 0))) aNil)) (nameT 7)
 (seqM (asgM (nameT 8) (opM subD (opM subD (opM subD (rd 0) (cst (.int 1))) (rd 6)) (rd 7)))
 (ifS (tstM (opM isNotM (rd 8) (cst .non)))
 (sappM (sdefM (rd 3) (rd 8) (stoL (lstM aNil))) (tupM (aCons (opM addM (rd 4) (opM subD (cst (.str "abcd")) (rd 7))) (aCons (opM addM (rd 5) (opM subD (rd 1) (rd 7))) (aCons (rd 8) aNil)))))
 nxM))))
 (seqM (ownM 9 (lstM aNil))
 (seqM (forM (seqI (frz (sortM (frz (listM (aCons (rd 3) aNil)))))) (nameT 6)
 (seqM (asgM (nameT 10) (opM subD (opM subD (rd 3) (rd 6)) (cst (.int 0))))
 (seqM (appM 9 (rd 10))
 (extM 9 (slM slAny (frz (compR (opM subD (rd 3) (rd 6)) (nameT 11) (tstM (opM neM (opM subD (rd 11) (cst (.int 1))) (opM subD (rd 10) (cst (.int 1))))) (rd 11) [11])) noP (prt (cst (.int 1))))))))
 (retM (frz (sortM (rdW 9))))))))
noncomputable def m__law_layer : MF := runM 12 b__law_layer
noncomputable def b__law_first_unlike : MS :=
 (seqM (parM 3 4 (aCons (frz (compM (r1M (aCons (opM subD (rd 0) (cst (.int 0))) aNil)) (nameT 7) yesM (opM subM (opM subD (rd 1) (rd 7)) (opM subD (rd 2) (rd 7))) [7])) (aCons (frz (lstM (aCons (tupM (aCons (cst (.str "")) (aCons (cst (.int 0)) (aCons (cst (.int 0)) aNil)))) aNil))) aNil)))
 (seqM (forM (r1M (aCons (opM addM (opM mulA (cst (.int 3)) (cbM lenA (aCons (opM subD (rd 0) (cst (.int 1))) aNil))) (cst (.int 1))) aNil)) (nameT 5)
 (seqM (asgM (nameT 6) (frz (compM (seqI (rd 4)) (nameT 8) (andM (truM (opM subD (opM subD (rd 0) (cst (.int 2))) (opM subD (rd 8) (cst (.int 2))))) (tstM (opM neM (opM subD (rd 8) (cst (.int 1))) (cst (.int 0))))) (opM subD (rd 8) (cst (.int 0))) [8])))
 (seqM (ifS (tstM (opM neM (rd 6) (frz (lstM aNil))))
 (retM (opM subD (rd 6) (cst (.int 0))))
 nxM)
 (asgM (nameT 4) (callM m__law_layer (aCons (rd 0) (aCons (rd 3) (aCons (rd 4) aNil))))))))
 (retM (cst .non))))
noncomputable def m__law_first_unlike : MF := runM 9 b__law_first_unlike
noncomputable def b_worth : MS :=
 (retM (cbM sumM (aCons (frz (compM (seqI (rd 1)) (nameT 2) yesM (opM subD (rd 0) (m1M sindexM (cst (.str "abcd")) (rd 2))) [2])) aNil)))
noncomputable def m_worth : MF := runM 3 b_worth
noncomputable def b__law_worth : MS :=
 (seqM (asgM (nameT 2) (cst (.int 0)))
 (seqM (forM (seqI (rd 1)) (nameT 3)
 (asgM (nameT 2) (opM addM (rd 2) (opM subD (rd 0) (m1M sindexM (cst (.str "abcd")) (rd 3))))))
 (retM (rd 2))))
noncomputable def m__law_worth : MF := runM 4 b__law_worth
noncomputable def b_met_from : MS :=
 (seqM (ownK 2 (dcM (seqI (rd 1)) (nameT 5) yesM (rd 5) (cst (.bl true)) [5]))
 (seqM (asgM (nameT 3) (stoL (listM (aCons (rd 1) aNil))))
 (seqM (whM (tstM (opM neM (rd 3) (frz (lstM aNil))))
 (forR (opM subD (rd 0) (spopM (rd 3))) (nameT 4)
 (ifS (tstM (opM (cntD true) (rd 4) (rdW 2)))
 (seqM (dputM 2 (rd 4) (cst (.bl true)))
 (sappM (rd 3) (rd 4)))
 nxM)))
 (frzM 2 (retM (rd 2))))))
noncomputable def m_met_from : MF := runM 6 b_met_from
noncomputable def b_used : MS :=
 (seqM (parM 1 2 (aCons (opM subD (rd 0) (cst (.int 1))) (aCons (opM subD (rd 0) (cst (.int 2))) aNil)))
 (seqM (asgM (nameT 3) (frz (compM (seqI (rd 1)) (nameT 6) yesM (frz (compM (seqI (rd 6)) (nameT 7) (tstM (opM isNotM (rd 7) (cst .non))) (rd 7) [7])) [6])))
 (seqM (asgM (nameT 4) (frz (compM (seqI (rd 1)) (nameT 6) yesM (stoL (lstM aNil)) [6])))
 (seqM (forM (enumI (rd 3)) (tupT 2 (consT (nameT 5) (consT (nameT 6) nilT)))
 (forM (seqI (rd 6)) (nameT 7)
 (sappM (opM subD (rd 4) (rd 7)) (rd 5))))
 (seqM (asgM (tupT 2 (consT (nameT 8) (consT (nameT 9) nilT))) (tupM (aCons (callM m_met_from (aCons (rd 3) (aCons (frz (lstM (aCons (cst (.int 0)) aNil))) aNil))) (aCons (callM m_met_from (aCons (rd 4) (aCons (frz (compM (enumI (rd 2)) (tupT 2 (consT (nameT 5) (consT (nameT 10) nilT))) (truM (rd 10)) (rd 5) [5, 10])) aNil))) aNil))))
 (retM (cbM tupleM (aCons (frz (compM (r1M (aCons (cbM lenA (aCons (rd 1) aNil)) aNil)) (nameT 5) (andM (tstM (opM (cntD false) (rd 5) (rd 8))) (tstM (opM (cntD false) (rd 5) (rd 9)))) (rd 5) [5])) aNil))))))))
noncomputable def m_used : MF := runM 11 b_used
noncomputable def b_steps_of : MS :=
 (seqM (asgM (nameT 1) (callM m_used (aCons (rd 0) aNil)))
 (seqM (ownK 2 newK)
 (seqM (forM (seqI (rd 1)) (nameT 3)
 (dputM 2 (rd 3) (frz (compM (enumI (opM subD (opM subD (rd 0) (cst (.int 1))) (rd 3))) (tupT 2 (consT (nameT 4) (consT (nameT 5) nilT))) (tstM (opM (cntD false) (rd 5) (rd 1))) (tupM (aCons (rd 4) (aCons (rd 5) aNil))) [4, 5]))))
 (frzM 2 (retM (rd 2))))))
noncomputable def m_steps_of : MF := runM 6 b_steps_of
noncomputable def b_is_nought : MS :=
 (seqM (par2 3 4 (xK (dispK (pCons (cst (.int 0)) (cst (.int 0)) pNil))) (xV (stoL (lstM (aCons (cst (.int 0)) aNil)))))
 (seqM (whM (tstM (opM neM (rd 4) (frz (lstM aNil))))
 (seqM (asgM (nameT 5) (spopM (rd 4)))
 (seqM (ifS (andM (truM (opM subD (opM subD (rd 0) (cst (.int 2))) (rd 5))) (tstM (opM neM (opM subD (rdW 3) (rd 5)) (cst (.int 0)))))
 (retM (cst (.bl false)))
 nxM)
 (forM (seqI (opM subD (rd 1) (rd 5))) (tupT 2 (consT (nameT 6) (consT (nameT 7) nilT)))
 (seqM (asgM (nameT 8) (opM addM (opM subD (rdW 3) (rd 5)) (opM subD (rd 2) (rd 6))))
 (seqM (ifS (tstM (opM (cntD true) (rd 7) (rdW 3)))
 (seqM (dputM 3 (rd 7) (rd 8))
 (sappM (rd 4) (rd 7)))
 nxM)
 (ifS (tstM (opM neM (opM subD (rdW 3) (rd 7)) (rd 8)))
 (retM (cst (.bl false)))
 nxM)))))))
 (retM (cst (.bl true)))))
noncomputable def m_is_nought : MF := runM 9 b_is_nought
noncomputable def b_wrong_words : MS :=
 (seqM (ownM 2 (lstM aNil))
 (seqM (forK (rd 1) (nameT 3)
 (ifS (truM (opM subD (opM subD (rd 0) (cst (.int 2))) (rd 3)))
 (extM 2 (frz (compM (seqI (opM subD (rd 1) (rd 3))) (tupT 2 (consT (nameT 4) (consT (nameT 5) nilT))) (tstM (opM neM (rd 4) (cst (.int 0)))) (rd 5) [4, 5])))
 nxM))
 (frzM 2 (retM (rd 2)))))
noncomputable def m_wrong_words : MF := runM 6 b_wrong_words
noncomputable def b_added : MS :=
 (retM (ifM (orM (tstM (opM eqM (cbM lenA (aCons (rd 0) aNil)) (cst (.int 2)))) (tstM (opM (cntD false) (opM subD (rd 1) (cst (.int 0))) (frz (compM (seqI (rd 0)) (tupT 2 (consT (nameT 2) (consT (nameT 3) nilT))) yesM (rd 2) [2, 3]))))) (rd 0) (opM addM (rd 0) (frz (lstM (aCons (rd 1) aNil))))))
noncomputable def m_added : MF := runM 4 b_added
noncomputable def b_next_worths : MS :=
 (seqM (ownM 3 (lstM aNil))
 (seqM (forK (rd 2) (nameT 4)
 (forM (seqI (opM subD (rd 2) (rd 4))) (tupT 2 (consT (nameT 5) (consT (nameT 6) nilT)))
 (extM 3 (frz (compM (seqI (opM subD (rd 0) (rd 4))) (tupT 2 (consT (nameT 8) (consT (nameT 9) nilT))) yesM (tupM (aCons (opM addM (rd 6) (opM subD (cst (.str "abcd")) (rd 8))) (aCons (opM addM (rd 5) (opM subD (rd 1) (rd 8))) (aCons (rd 9) aNil)))) [8, 9])))))
 (seqM (ownK 7 newK)
 (seqM (forM (seqI (frz (sortM (rdW 3)))) (tupT 3 (consT (nameT 6) (consT (nameT 5) (consT (nameT 4) nilT))))
 (dputM 7 (rd 4) (callM m_added (aCons (get2M (rdW 7) (rd 4) (frz (lstM aNil))) (aCons (tupM (aCons (rd 5) (aCons (rd 6) aNil))) aNil)))))
 (frzM 7 (retM (rd 7)))))))
noncomputable def m_next_worths : MF := runM 10 b_next_worths
noncomputable def b_unlike : MS :=
 (seqM (parM 3 4 (aCons (frz (compM (zipI (rd 1) (rd 2)) (tupT 2 (consT (nameT 6) (consT (nameT 7) nilT))) yesM (opM subM (rd 6) (rd 7)) [6, 7])) (aCons (callM m_steps_of (aCons (rd 0) aNil)) aNil)))
 (seqM (ifS (orM (tstM (opM (cntD true) (cst (.int 0)) (rd 4))) (truM (callM m_is_nought (aCons (rd 0) (aCons (rd 4) (aCons (rd 3) aNil))))))
 (retM (cst .non))
 nxM)
 (seqM (asgM (nameT 5) (frzK (dispK (pCons (cst (.int 0)) (frz (lstM (aCons (tupM (aCons (cst (.int 0)) (aCons (cst (.str "")) aNil))) aNil))) pNil))))
 (seqM (whM (tstM (opM eqM (callM m_wrong_words (aCons (rd 0) (aCons (rd 5) aNil))) (frz (lstM aNil))))
 (asgM (nameT 5) (callM m_next_worths (aCons (rd 4) (aCons (rd 3) (aCons (rd 5) aNil))))))
 (retM (cbM minDM (aCons (callM m_wrong_words (aCons (rd 0) (aCons (rd 5) aNil))) aNil)))))))
noncomputable def m_unlike : MF := runM 8 b_unlike
noncomputable def b_law : MS :=
 (seqM (forM (r1M (aCons (cst (.int 6)) aNil)) (nameT 2)
 (seqM (parM 3 4 (aCons (opM addM (cst (.int 1)) (callM m__law_draw (aCons (rd 1) (aCons (cst (.int 4)) aNil)))) (aCons (opM addM (cst (.int 1)) (callM m__law_draw (aCons (rd 1) (aCons (cst (.int 8)) aNil)))) aNil)))
 (seqM (asgM (nameT 5) (frz (lstM (aCons (callM m__law_kind (aCons (rd 1) (aCons (rd 3) (aCons (rd 4) aNil)))) (aCons (callM m__law_line (aCons (rd 1) (aCons (rd 3) (aCons (rd 4) aNil)))) (aCons (callM m__law_rounds (aCons (rd 1) (aCons (rd 3) aNil))) aNil))))))
 (seqM (par3M 6 7 8 (aCons (callM m__law_form (aCons (rd 1) (aCons (rd 3) aNil))) (aCons (callM m__law_form (aCons (rd 1) (aCons (rd 3) aNil))) (aCons (callM m__law_draw (aCons (rd 1) (aCons (rd 3) aNil))) aNil))))
 (seqM (asgM (nameT 9) (ifM (tstM (opM gtM (opM subD (rd 6) (rd 8)) (cst (.int 0)))) (unM (unI fun i => .int (-i)) (cst (.int 1))) (cst (.int 1))))
 (seqM (asgM (nameT 10) (opM addM (opM addM (slM slAny (rd 6) noP (prt (rd 8))) (tupM (aCons (opM addM (opM subD (rd 6) (rd 8)) (rd 9)) aNil))) (slM slAny (rd 6) (prt (opM addM (rd 8) (cst (.int 1)))) noP)))
 (seqM (asgM (nameT 11) (cbM reprM (aCons (frz (lstM (aCons (rd 5) (aCons (rd 6) (aCons (rd 10) aNil))))) aNil)))
 (seqM (forM (seqI (rd 5)) (nameT 12)
 (forM (seqI (frz (lstM (aCons (rd 7) (aCons (rd 6) (aCons (rd 10) (aCons (revT (rd 6)) (aCons (opM addM (slM slAny (rd 6) (prt (cst (.int 1))) noP) (slM slAny (rd 6) noP (prt (cst (.int 1))))) aNil)))))))) (nameT 13)
 (seqM (asgM (nameT 14) (callM m__law_first_unlike (aCons (rd 12) (aCons (rd 6) (aCons (rd 13) aNil)))))
 (ifS (tstM (opM neM (cbM reprM (aCons (frz (lstM (aCons (callM m_unlike (aCons (rd 12) (aCons (rd 6) (aCons (rd 13) aNil)))) (aCons (callM m_unlike (aCons (rd 12) (aCons (rd 13) (aCons (rd 6) aNil)))) aNil)))) aNil)) (cbM reprM (aCons (frz (lstM (aCons (rd 14) (aCons (rd 14) aNil)))) aNil))))
 (retM (cst (.bl false)))
 nxM))))
 (seqM (forM (r1M (aCons (cst (.int 4)) aNil)) (nameT 15)
 (seqM (asgM (nameT 16) (callM m__law_word (aCons (rd 1) (aCons (rd 3) (aCons (ifM (tstM (opM eqM (rd 15) (cst (.int 0)))) (cst (.int 400)) (cst (.int 9))) aNil)))))
 (ifS (tstM (opM neM (cbM reprM (aCons (callM m_worth (aCons (rd 6) (aCons (rd 16) aNil))) aNil)) (cbM reprM (aCons (callM m__law_worth (aCons (rd 6) (aCons (rd 16) aNil))) aNil))))
 (retM (cst (.bl false)))
 nxM)))
 (ifS (tstM (opM neM (cbM reprM (aCons (frz (lstM (aCons (rd 5) (aCons (rd 6) (aCons (rd 10) aNil))))) aNil)) (rd 11)))
 (retM (cst (.bl false)))
 nxM))))))))))
 (retM (opM eqM (cbM reprM (aCons (frz (lstM (aCons (callM m_worth (aCons (tupM (aCons (unM (unI fun i => .int (-i)) (cst (.int 99))) aNil)) (aCons (opM mulS (cst (.str "a")) (cst (.int 400))) aNil))) (aCons (callM m_worth (aCons (tupM (aCons (cst (.int 5)) (aCons (cst (.int 5)) aNil))) (aCons (cst (.str "")) aNil))) aNil)))) aNil)) (cst (.str "[-39600, 0]")))))
/-! ### the defs keep them -/
section
variable {P : Program} {w : World} {K : Fg} {mg : Str → Option Value} {base : Heap}
theorem ok__law_deck (T : Txt K mg) {f : Addr} {fd : FuncData} (Fn : Fun K "_law_deck" "_law_deck" s__law_deck f fd)  : FnG P w K mg base 1 f fd ["_law_script"] (spDeck K) :=
  fn_deck Fn sc__law_deck rfl rfl fun cdv A outer s H E => by
  refine (pss_one (ps_ret (pe_lst (pa_cons (pe_lc (own := [("_law_cell", 1)]) (g := gName 1) rfl sc__law_deck.nd (pi_list (pe_slice sl_list (pv 0) po_none (po_some pe_int))) (blkOk_by (own := [("_law_cell", 1)]) (N := ["_law_script", "_law_cell"]) (sc := defScope s__law_deck) (by decide +kernel)) (fun _ _ _ _ _ => pg_name (i := 1) sc__law_deck.nd rfl (Or.inl rfl)) (fun _ _ _ _ _ => pts_nil) (fun _ _ _ _ _ => pe_callB call_abs (by rfl) T.n_abs (by decide +kernel) (pa_cons (pv 1) pa_nil))) (pa_cons pe_int pa_nil)))))
theorem ok__law_draw (T : Txt K mg) {f : Addr} {fd : FuncData} (Fn : Fun K "_law_draw" "_law_draw" s__law_draw f fd)  : FnG P w K mg base 1 f fd ["_law_deck_here", "_law_many"] (spD K 2 m__law_draw) :=
  fn_draw (c := dc) (by unfold DC.ok dc; decide) Fn sc__law_draw rfl rfl fun cdv A outer s H E => by
  refine (pss_cons (ps_asg (pe_op op_add (pe_ix ix_seq (pv 0) pe_int (fun _ _ => rfl)) pe_int) (pg_sub (pv 0) pe_int set_list))
 (pss_cons (ps_asg (pe_tup (pa_cons pe_int (pa_cons (pe_un un_neg pe_int) pa_nil))) (pg_tup rfl (pgs_cons (pg_name (i := 2) sc__law_draw.nd rfl (Or.inl rfl)) (pgs_cons (pg_name (i := 3) sc__law_draw.nd rfl (Or.inl rfl)) pgs_nil))))
 (pss_cons (ps_if (pt_cmpR op_gt (pe_callB call_len (by rfl) T.n_len (by decide +kernel) (pa_cons (pe_ix ix_seq (pv 0) pe_int (fun _ _ => rfl)) pa_nil)) pe_int (nomark _))
   (pss_cons (ps_set (i := 3) sc__law_draw.nd rfl (Or.inl rfl) (pe_op op_mod (pe_callTy call_int1 (by rfl) T.n_int (by decide +kernel) (pa_cons (pe_ix ix_seq (pv 0) pe_int (fun _ _ => rfl)) pa_nil)) (pe_callB call_len (by rfl) T.n_len (by decide +kernel) (pa_cons (pe_ix ix_seq (pv 0) pe_int (fun _ _ => rfl)) pa_nil)))) (pss_one (ps_set (i := 2) sc__law_draw.nd rfl (Or.inl rfl) (pe_ix ix_seq (pe_ix ix_seq (pv 0) pe_int (fun _ _ => rfl)) (pv 3) (fun _ _ => rfl))))) pss_nil)
 (pss_cons (ps_if (pt_cmpR op_ge (pv 2) (pe_op op_pow pe_int pe_int) (nomark _))
   (pss_cons (ps_asg (pe_op op_fdiv (pe_callTy call_int1 (by rfl) T.n_int (by decide +kernel) (pa_cons (pv 2) pa_nil)) (pv 1)) (pg_sub (pe_ix ix_seq (pv 0) pe_int (fun _ _ => rfl)) (pv 3) set_list)) (pss_one (ps_ret (pe_op op_mod (pe_callTy call_int1 (by rfl) T.n_int (by decide +kernel) (pa_cons (pv 2) pa_nil)) (pv 1))))) pss_nil)
 (pss_cons (ps_set (i := 4) sc__law_draw.nd rfl (Or.inl rfl) (pe_op op_add (pe_op op_add (pe_op op_mod (pe_callTy call_int1 (by rfl) T.n_int (by decide +kernel) (pa_cons (pv 2) pa_nil)) pe_int) (pe_op op_mul pe_int (pe_ix ix_seq (pv 0) pe_int (fun _ _ => rfl)))) pe_int))
 (pss_one (ps_ret (pe_op op_mod (pe_callTy call_int1 (by rfl) T.n_int (by decide +kernel) (pa_cons (pe_op op_mod (pe_callTy call_int1 (by rfl) T.n_int (by decide +kernel) (pa_cons (pe_op op_pow (pv 4) pe_int) pa_nil)) pe_int) pa_nil)) (pv 1)))))))))
theorem ok__law_one (T : Txt K mg) {f : Addr} {fd : FuncData} (Fn : Fun K "_law_one" "_law_one" s__law_one f fd) (c__law_draw : Cal P w K mg base 1 "_law_draw" ["_law_deck_here", "_law_many"] (spD K 2 m__law_draw)) : FnG P w K mg base 2 f fd ["_law_deck_here", "_law_items"] (spD K 2 m__law_one) :=
  fnD Fn sc__law_one (by decide) fun cdv A outer s H E hr gd => ⟨_, (pss_one (ps_ret (pe_sub (units1 hr.units) (pv 1) (pe_callC c__law_draw hr gd (by rfl) (pa_cons (pv 0) (pa_cons (pe_callB call_lenA (by rfl) T.n_len (by decide +kernel) (pa_cons (pv 1) pa_nil)) pa_nil)))))),
 (is_ret (im_sub ((im_var 1)).w ((im_call (ia_cons (im_var 0) (ia_cons (im_cb rc_lenA (iaw_cons ((im_var 1)).w iaw_nil)) ia_nil)) (an_cons (an_cons an_nil)))).w))⟩
theorem ok__law_kind (T : Txt K mg) {f : Addr} {fd : FuncData} (Fn : Fun K "_law_kind" "_law_kind" s__law_kind f fd) (c__law_one : Cal P w K mg base 2 "_law_one" ["_law_deck_here", "_law_items"] (spD K 2 m__law_one)) (c__law_draw : Cal P w K mg base 1 "_law_draw" ["_law_deck_here", "_law_many"] (spD K 2 m__law_draw)) : FnG P w K mg base 3 f fd ["_law_deck_here", "_law_letters", "_law_many"] (spD K 3 m__law_kind) :=
  fnD Fn sc__law_kind (by decide) fun cdv A outer s H E hr gd => ⟨_, (pss_cons (ps_set (i := 3) sc__law_kind.nd rfl (Or.inr rfl) (pe_callC c__law_one hr gd (by rfl) (pa_cons (pv 0) (pa_cons (pe_lst (pa_cons pe_int (pa_cons pe_int (pa_cons pe_int pa_nil)))) pa_nil))))
 (pss_cons (ps_set (i := 4) sc__law_kind.nd rfl (Or.inl rfl) (pe_lst pa_nil))
 (pss_cons (ps_for PassesOwn.never rfl (pi_range1 (by rfl) T.n_range (pa_cons (pv 2) pa_nil)) (pg_name (i := 5) sc__law_kind.nd rfl (Or.inl rfl))
 (pss_cons (ps_setLc (i := 6) (own := [("_law_j", 7)]) (g := (gName 7)) rfl sc__law_kind.nd rfl rfl (sw_true rfl rfl rfl (by decide +kernel)) (pi_range1 (by rfl) T.n_range (pa_cons (pv 1) pa_nil)) (blkOk_by (own := [("_law_j", 7)]) (N := ["_law_deck_here", "_law_letters", "_law_many", "_law_none", "_law_rows", "_law_k", "_law_row", "_law_j"]) (sc := defScope s__law_kind) (by decide +kernel)) (fun _ _ _ _ _ => (pg_name (i := 7) sc__law_kind.nd rfl (Or.inl rfl))) (fun _ _ _ _ _ => pts_nil) (fun _ _ _ _ _ => (pe_ifExp (pt_cmpR op_gt (pe_callC c__law_draw hr gd (by rfl) (pa_cons (pv 0) (pa_cons (pv 3) pa_nil))) pe_int (nomark _)) (pe_callC c__law_draw hr gd (by rfl) (pa_cons (pv 0) (pa_cons (pv 2) pa_nil))) pe_non)))
 (pss_one (ps_expr (pe_bm PySem.F.plainAttrs_list PySem.F.slot_list_append PySem.F.type_list_append mt_append (pv 4) (pa_cons (pe_callTy (call_tupA rfl) (by rfl) T.n_tuple (by decide +kernel) (pa_cons (pv 6) pa_nil)) pa_nil))))))
 (pss_one (ps_ret (pe_tup (pa_cons (pv 1) (pa_cons (pe_callTy (call_tupA rfl) (by rfl) T.n_tuple (by decide +kernel) (pa_cons (pv 4) pa_nil)) (pa_cons (pe_callTy (call_tupA rfl) (by rfl) T.n_tuple (by decide +kernel) (pa_cons (pe_lc (own := [("_law_k", 5)]) (g := (gName 5)) rfl sc__law_kind.nd (pi_range1 (by rfl) T.n_range (pa_cons (pv 2) pa_nil)) (blkOk_by (own := [("_law_k", 5)]) (N := ["_law_deck_here", "_law_letters", "_law_many", "_law_none", "_law_rows", "_law_k", "_law_row", "_law_j"]) (sc := defScope s__law_kind) (by decide +kernel)) (fun _ _ _ _ _ => (pg_name (i := 5) sc__law_kind.nd rfl (Or.inl rfl))) (fun _ _ _ _ _ => pts_nil) (fun _ _ _ _ _ => (pe_cmpR op_gt (pe_callC c__law_draw hr gd (by rfl) (pa_cons (pv 0) (pa_cons pe_int pa_nil))) pe_int (nomark _)))) pa_nil)) pa_nil))))))))),
 (is_seq (is_asg (im_call (ia_cons (im_var 0) (ia_cons ((if_lst (ia_cons im_int (ia_cons im_int (ia_cons im_int ia_nil))))).im ia_nil)) (an_cons (an_cons an_nil))) (ig_name 3))
 (is_seq (is_own 4 (if_lst ia_nil))
 (is_seq (is_for (ii_range1 (iaw_cons ((im_var 2)).w iaw_nil)) (ig_name 5)
 (is_seq (is_asg ((if_comp (vs := [7]) (ii_range1 (iaw_cons ((im_var 1)).w iaw_nil)) (ig_name 7) it_yes (im_if (it_test (im_op ro_gt ((im_call (ia_cons (im_var 0) (ia_cons (im_var 3) ia_nil)) (an_cons (an_cons an_nil)))).w (im_int).w)) (im_call (ia_cons (im_var 0) (ia_cons (im_var 2) ia_nil)) (an_cons (an_cons an_nil))) im_non) (by decide))).im (ig_name 6))
 (is_app 4 (im_cb rc_tupA (iaw_cons ((im_var 6)).w iaw_nil)))))
 (is_ret (im_tup (ia_cons (im_var 1) (ia_cons (im_cb rc_tupA (iaw_cons (im_own 4) iaw_nil)) (ia_cons (im_cb rc_tupA (iaw_cons ((if_comp (vs := [5]) (ii_range1 (iaw_cons ((im_var 2)).w iaw_nil)) (ig_name 5) it_yes (im_op ro_gt ((im_call (ia_cons (im_var 0) (ia_cons im_int ia_nil)) (an_cons (an_cons an_nil)))).w (im_int).w) (by decide))).w iaw_nil)) ia_nil))))))))⟩
theorem ok__law_line (T : Txt K mg) {f : Addr} {fd : FuncData} (Fn : Fun K "_law_line" "_law_line" s__law_line f fd) (c__law_draw : Cal P w K mg base 1 "_law_draw" ["_law_deck_here", "_law_many"] (spD K 2 m__law_draw)) : FnG P w K mg base 2 f fd ["_law_deck_here", "_law_letters", "_law_many"] (spD K 3 m__law_line) :=
  fnD Fn sc__law_line (by decide) fun cdv A outer s H E hr gd => ⟨_, (pss_cons (ps_set (i := 3) sc__law_line.nd rfl (Or.inl rfl) (pe_lst pa_nil))
 (pss_cons (ps_for PassesOwn.never rfl (pi_range1 (by rfl) T.n_range (pa_cons (pv 2) pa_nil)) (pg_name (i := 4) sc__law_line.nd rfl (Or.inr rfl))
 (pss_cons (ps_setLc (i := 5) (own := [("_law_j", 6)]) (g := (gName 6)) rfl sc__law_line.nd rfl rfl (sw_true rfl rfl rfl (by decide +kernel)) (pi_range1 (by rfl) T.n_range (pa_cons (pv 1) pa_nil)) (blkOk_by (own := [("_law_j", 6)]) (N := ["_law_deck_here", "_law_letters", "_law_many", "_law_rows", "_law_k", "_law_row", "_law_j"]) (sc := defScope s__law_line) (by decide +kernel)) (fun _ _ _ _ _ => (pg_name (i := 6) sc__law_line.nd rfl (Or.inl rfl))) (fun _ _ _ _ _ => pts_nil) (fun _ _ _ _ _ => (pe_ifExp (PW.pt (pw_and (pt_cmpR (op_ltA hr.units) (pe_op op_addA (pv 4) pe_int) (pv 2) (nomark _)) (pw_and1 (pt_cmpR op_gt (pe_callC c__law_draw hr gd (by rfl) (pa_cons (pv 0) (pa_cons pe_int pa_nil))) pe_int (nomark _))))) (pe_op op_addA (pv 4) pe_int) pe_non)))
 (pss_cons (ps_if (pt_cmpR (op_ltA hr.units) (pe_op op_addA (pv 4) pe_int) (pv 2) (nomark _))
 (pss_one (ps_asg (pe_op op_addA (pv 4) pe_int) (pg_sub (pv 5) (pe_callC c__law_draw hr gd (by rfl) (pa_cons (pv 0) (pa_cons (pv 1) pa_nil))) set_list)))
 pss_nil)
 (pss_one (ps_expr (pe_bm PySem.F.plainAttrs_list PySem.F.slot_list_append PySem.F.type_list_append mt_append (pv 3) (pa_cons (pe_callTy (call_tupA rfl) (by rfl) T.n_tuple (by decide +kernel) (pa_cons (pv 5) pa_nil)) pa_nil)))))))
 (pss_one (ps_ret (pe_tup (pa_cons (pv 1) (pa_cons (pe_callTy (call_tupA rfl) (by rfl) T.n_tuple (by decide +kernel) (pa_cons (pv 3) pa_nil)) (pa_cons (pe_callTy (call_tupA rfl) (by rfl) T.n_tuple (by decide +kernel) (pa_cons (pe_lc (own := [("_law_k", 4)]) (g := (gName 4)) rfl sc__law_line.nd (pi_range1 (by rfl) T.n_range (pa_cons (pv 2) pa_nil)) (blkOk_by (own := [("_law_k", 4)]) (N := ["_law_deck_here", "_law_letters", "_law_many", "_law_rows", "_law_k", "_law_row", "_law_j"]) (sc := defScope s__law_line) (by decide +kernel)) (fun _ _ _ _ _ => (pg_name (i := 4) sc__law_line.nd rfl (Or.inl rfl))) (fun _ _ _ _ _ => pts_nil) (fun _ _ _ _ _ => (L2.pe_or (pe_cmpR (op_eqA hr.units) (pv 4) (pe_op op_sub (pv 2) pe_int) (nomark _)) (pe_one (pe_cmpR (op_eqA hr.units) (pe_callC c__law_draw hr gd (by rfl) (pa_cons (pv 0) (pa_cons pe_int pa_nil))) pe_int (nomark _)))))) pa_nil)) pa_nil)))))))),
 (is_seq (is_own 3 (if_lst ia_nil))
 (is_seq (is_for (ii_range1 (iaw_cons ((im_var 2)).w iaw_nil)) (ig_name 4)
 (is_seq (is_own 5 (if_comp (vs := [6]) (ii_range1 (iaw_cons ((im_var 1)).w iaw_nil)) (ig_name 6) it_yes (im_if (it_and (it_test (im_op ro_ltA ((im_op ro_addA ((im_var 4)).w (im_int).w)).w ((im_var 2)).w)) (it_test (im_op ro_gt ((im_call (ia_cons (im_var 0) (ia_cons im_int ia_nil)) (an_cons (an_cons an_nil)))).w (im_int).w))) (im_op ro_addA ((im_var 4)).w (im_int).w) im_non) (by decide)))
 (is_seq (is_if (it_test (im_op ro_ltA ((im_op ro_addA ((im_var 4)).w (im_int).w)).w ((im_var 2)).w))
 (is_lset 5 ((im_call (ia_cons (im_var 0) (ia_cons (im_var 1) ia_nil)) (an_cons (an_cons an_nil)))).w (im_op ro_addA ((im_var 4)).w (im_int).w))
 is_next)
 (is_app 3 (im_cb rc_tupA (iaw_cons (im_own 5) iaw_nil))))))
 (is_ret (im_tup (ia_cons (im_var 1) (ia_cons (im_cb rc_tupA (iaw_cons (im_own 3) iaw_nil)) (ia_cons (im_cb rc_tupA (iaw_cons ((if_comp (vs := [4]) (ii_range1 (iaw_cons ((im_var 2)).w iaw_nil)) (ig_name 4) it_yes (im_orV (im_op ro_eq ((im_var 4)).w ((im_op ro_sub ((im_var 2)).w (im_int).w)).w) (im_op ro_eq ((im_call (ia_cons (im_var 0) (ia_cons im_int ia_nil)) (an_cons (an_cons an_nil)))).w (im_int).w)) (by decide))).w iaw_nil)) ia_nil)))))))⟩
theorem ok__law_rounds (T : Txt K mg) {f : Addr} {fd : FuncData} (Fn : Fun K "_law_rounds" "_law_rounds" s__law_rounds f fd)  : FnG P w K mg base 1 f fd ["_law_deck_here", "_law_letters"] (spD K 2 m__law_rounds) :=
  fnD Fn sc__law_rounds (by decide) fun cdv A outer s H E hr gd => ⟨_, (pss_cons (ps_set (i := 2) sc__law_rounds.nd rfl (Or.inl rfl) (pe_lst pa_nil))
 (pss_cons (ps_for PassesOwn.never rfl (pi_range1 (by rfl) T.n_range (pa_cons (pv 1) pa_nil)) (pg_name (i := 3) sc__law_rounds.nd rfl (Or.inr rfl))
 (pss_one (ps_expr (pe_bm PySem.F.plainAttrs_list PySem.F.slot_list_append PySem.F.type_list_append mt_append (pv 2) (pa_cons (pe_callTy (call_tupA rfl) (by rfl) T.n_tuple (by decide +kernel) (pa_cons (pe_lc (own := [("_law_j", 4)]) (g := (gName 4)) rfl sc__law_rounds.nd (pi_range1 (by rfl) T.n_range (pa_cons (pv 1) pa_nil)) (blkOk_by (own := [("_law_j", 4)]) (N := ["_law_deck_here", "_law_letters", "_law_rows", "_law_k", "_law_j"]) (sc := defScope s__law_rounds) (by decide +kernel)) (fun _ _ _ _ _ => (pg_name (i := 4) sc__law_rounds.nd rfl (Or.inl rfl))) (fun _ _ _ _ _ => pts_nil) (fun _ _ _ _ _ => (pe_ifExp (pt_cmpR (op_eqA hr.units) (pv 4) (pv 3) (nomark _)) (pe_op op_mod (pe_op op_addA (pv 3) pe_int) (pv 1)) pe_non))) pa_nil)) pa_nil)))))
 (pss_one (ps_ret (pe_tup (pa_cons (pv 1) (pa_cons (pe_callTy (call_tupA rfl) (by rfl) T.n_tuple (by decide +kernel) (pa_cons (pv 2) pa_nil)) (pa_cons (pe_op op_addA (pe_tup (pa_cons pe_bl pa_nil)) (pe_op op_mulA (pe_tup (pa_cons pe_bl pa_nil)) (pe_op op_sub (pv 1) pe_int))) pa_nil)))))))),
 (is_seq (is_own 2 (if_lst ia_nil))
 (is_seq (is_for (ii_range1 (iaw_cons ((im_var 1)).w iaw_nil)) (ig_name 3)
 (is_app 2 (im_cb rc_tupA (iaw_cons ((if_comp (vs := [4]) (ii_range1 (iaw_cons ((im_var 1)).w iaw_nil)) (ig_name 4) it_yes (im_if (it_test (im_op ro_eq ((im_var 4)).w ((im_var 3)).w)) (im_op ro_mod ((im_op ro_addA ((im_var 3)).w (im_int).w)).w ((im_var 1)).w) im_non) (by decide))).w iaw_nil))))
 (is_ret (im_tup (ia_cons (im_var 1) (ia_cons (im_cb rc_tupA (iaw_cons (im_own 2) iaw_nil)) (ia_cons (im_op ro_addA ((im_tup (ia_cons im_bl ia_nil))).w ((im_op ro_mulA ((im_tup (ia_cons im_bl ia_nil))).w ((im_op ro_sub ((im_var 1)).w (im_int).w)).w)).w) ia_nil)))))))⟩
theorem ok__law_form (T : Txt K mg) {f : Addr} {fd : FuncData} (Fn : Fun K "_law_form" "_law_form" s__law_form f fd) (c__law_one : Cal P w K mg base 2 "_law_one" ["_law_deck_here", "_law_items"] (spD K 2 m__law_one)) (c__law_draw : Cal P w K mg base 1 "_law_draw" ["_law_deck_here", "_law_many"] (spD K 2 m__law_draw)) : FnG P w K mg base 3 f fd ["_law_deck_here", "_law_letters"] (spD K 2 m__law_form) :=
  fnD Fn sc__law_form (by decide) fun cdv A outer s H E hr gd => ⟨_, (pss_cons (ps_set (i := 2) sc__law_form.nd rfl (Or.inr rfl) (pe_callC c__law_one hr gd (by rfl) (pa_cons (pv 0) (pa_cons (pe_lst (pa_cons pe_int (pa_cons pe_int (pa_cons pe_int (pa_cons pe_int pa_nil))))) pa_nil))))
 (pss_one (ps_ret (pe_callTy (call_tupA rfl) (by rfl) T.n_tuple (by decide +kernel) (pa_cons (pe_lc (own := [("_law_k", 3)]) (g := (gName 3)) rfl sc__law_form.nd (pi_range1 (by rfl) T.n_range (pa_cons (pv 1) pa_nil)) (blkOk_by (own := [("_law_k", 3)]) (N := ["_law_deck_here", "_law_letters", "_law_most", "_law_k"]) (sc := defScope s__law_form) (by decide +kernel)) (fun _ _ _ _ _ => (pg_name (i := 3) sc__law_form.nd rfl (Or.inl rfl))) (fun _ _ _ _ _ => pts_nil) (fun _ _ _ _ _ => (pe_op op_sub (pe_callC c__law_draw hr gd (by rfl) (pa_cons (pv 0) (pa_cons (pe_op op_addA (pe_op op_mulA pe_int (pv 2)) pe_int) pa_nil))) (pv 2)))) pa_nil))))),
 (is_seq (is_asg (im_call (ia_cons (im_var 0) (ia_cons ((if_lst (ia_cons im_int (ia_cons im_int (ia_cons im_int (ia_cons im_int ia_nil)))))).im ia_nil)) (an_cons (an_cons an_nil))) (ig_name 2))
 (is_ret (im_cb rc_tupA (iaw_cons ((if_comp (vs := [3]) (ii_range1 (iaw_cons ((im_var 1)).w iaw_nil)) (ig_name 3) it_yes (im_op ro_sub ((im_call (ia_cons (im_var 0) (ia_cons (im_op ro_addA ((im_op ro_mulA (im_int).w ((im_var 2)).w)).w (im_int).w) ia_nil)) (an_cons (an_cons an_nil)))).w ((im_var 2)).w) (by decide))).w iaw_nil))))⟩
theorem ok__law_word (T : Txt K mg) {f : Addr} {fd : FuncData} (Fn : Fun K "_law_word" "_law_word" s__law_word f fd) (c__law_draw : Cal P w K mg base 1 "_law_draw" ["_law_deck_here", "_law_many"] (spD K 2 m__law_draw)) (c__law_one : Cal P w K mg base 2 "_law_one" ["_law_deck_here", "_law_items"] (spD K 2 m__law_one)) : FnG P w K mg base 3 f fd ["_law_deck_here", "_law_letters", "_law_most"] (spD K 3 m__law_word) :=
  fnD Fn sc__law_word (by decide) fun cdv A outer s H E hr gd => ⟨_, (pss_one (ps_ret (pe_join pe_str (pe_lc (own := [("_law_k", 3)]) (g := (gName 3)) rfl sc__law_word.nd (pi_range1 (by rfl) T.n_range (pa_cons (pe_callC c__law_draw hr gd (by rfl) (pa_cons (pv 0) (pa_cons (pe_op op_addA (pv 2) pe_int) pa_nil))) pa_nil)) (blkOk_by (own := [("_law_k", 3)]) (N := ["_law_deck_here", "_law_letters", "_law_most", "_law_k"]) (sc := defScope s__law_word) (by decide +kernel)) (fun _ _ _ _ _ => (pg_name (i := 3) sc__law_word.nd rfl (Or.inl rfl))) (fun _ _ _ _ _ => pts_nil) (fun _ _ _ _ _ => (pe_callC c__law_one hr gd (by rfl) (pa_cons (pv 0) (pa_cons (pe_slice sl_any pe_str po_none (po_some (pv 1))) pa_nil)))))))),
 (is_ret (im_m1 rm_join (im_str).w ((if_comp (vs := [3]) (ii_range1 (iaw_cons ((im_call (ia_cons (im_var 0) (ia_cons (im_op ro_addA ((im_var 2)).w (im_int).w) ia_nil)) (an_cons (an_cons an_nil)))).w iaw_nil)) (ig_name 3) it_yes (im_call (ia_cons (im_var 0) (ia_cons (im_sl rs_any (im_str).w io_none (io_some ((im_var 1)).w)) ia_nil)) (an_cons (an_cons an_nil))) (by decide))).w))⟩
theorem ok__law_layer (T : Txt K mg) {f : Addr} {fd : FuncData} (Fn : Fun K "_law_layer" "_law_layer" s__law_layer f fd)  : FnG P w K mg base 1 f fd ["_law_kind_here", "_law_gaps", "_law_layer_here"] (spD K 3 m__law_layer) :=
  fnD Fn sc__law_layer (by decide) fun cdv A outer s H E hr gd => ⟨_, (pss_cons (ps_set (i := 3) sc__law_layer.nd rfl (Or.inl rfl) pe_dnewK)
 (pss_cons (ps_for PassesOwn.never rfl (pi_seq (pv 2)) (pg_tup rfl (pgs_cons (pg_name (i := 4) sc__law_layer.nd rfl (Or.inl rfl)) (pgs_cons (pg_name (i := 5) sc__law_layer.nd rfl (Or.inl rfl)) (pgs_cons (pg_name (i := 6) sc__law_layer.nd rfl (Or.inl rfl)) pgs_nil))))
 (pss_one (ps_for PassesOwn.never rfl (pi_range1 (by rfl) T.n_range (pa_cons (pe_sub (units1 hr.units) (pv 0) pe_int) pa_nil)) (pg_name (i := 7) sc__law_layer.nd rfl (Or.inl rfl))
 (pss_cons (ps_set (i := 8) sc__law_layer.nd rfl (Or.inl rfl) (pe_sub (units1 hr.units) (pe_sub (units1 hr.units) (pe_sub (units1 hr.units) (pv 0) pe_int) (pv 6)) (pv 7)))
 (pss_one (ps_if (pt_cmpR op_notN (pv 8) pe_non (nomark _))
 (pss_one (ps_expr (pe_bm PySem.F.plainAttrs_list PySem.F.slot_list_append PySem.F.type_list_append mt_append (pe_dsetd (pv 3) (pv 8) (pe_lst pa_nil) ⟨by rfl, by rfl, by rfl, by rfl⟩) (pa_cons (pe_tup (pa_cons (pe_op op_addA (pv 4) (pe_sub (units1 hr.units) pe_str (pv 7))) (pa_cons (pe_op op_addA (pv 5) (pe_sub (units1 hr.units) (pv 1) (pv 7))) (pa_cons (pv 8) pa_nil)))) pa_nil))))
 pss_nil))))))
 (pss_cons (ps_set (i := 9) sc__law_layer.nd rfl (Or.inl rfl) (pe_lst pa_nil))
 (pss_cons (ps_for PassesOwn.never rfl (pi_seq (pe_callB (call_sortedD hr.units) (by rfl) T.n_sorted (by decide +kernel) (pa_cons (pe_callTy (call_listA rfl) (by rfl) T.n_list (by decide +kernel) (pa_cons (pv 3) pa_nil)) pa_nil))) (pg_name (i := 6) sc__law_layer.nd rfl (Or.inl rfl))
 (pss_cons (ps_set (i := 10) sc__law_layer.nd rfl (Or.inr rfl) (pe_sub (units1 hr.units) (pe_sub (units1 hr.units) (pv 3) (pv 6)) pe_int))
 (pss_cons (ps_expr (pe_bm PySem.F.plainAttrs_list PySem.F.slot_list_append PySem.F.type_list_append mt_append (pv 9) (pa_cons (pv 10) pa_nil)))
 (pss_one (ps_expr (pe_bm PySem.F.plainAttrs_list PySem.F.slot_list_extend PySem.F.type_list_extend mt_extend (pv 9) (pa_cons (pe_slice sl_any (pe_lc (own := [("_law_row", 11)]) (g := (gName 11)) rfl sc__law_layer.nd (pi_seq (pe_sub (units1 hr.units) (pv 3) (pv 6))) (blkOk_by (own := [("_law_row", 11)]) (N := ["_law_kind_here", "_law_gaps", "_law_layer_here", "_law_found", "_law_word_here", "_law_number", "_law_state", "_law_j", "_law_item", "_law_later", "_law_first", "_law_row"]) (sc := defScope s__law_layer) (by decide +kernel)) (fun _ _ _ _ _ => (pg_name (i := 11) sc__law_layer.nd rfl (Or.inl rfl))) (fun _ _ _ _ _ => (pts_one (pt_cmpR (op_neA hr.units) (pe_sub (units1 hr.units) (pv 11) pe_int) (pe_sub (units1 hr.units) (pv 10) pe_int) (nomark _)))) (fun _ _ _ _ _ => (pv 11))) po_none (po_some pe_int)) pa_nil)))))))
 (pss_one (ps_ret (pe_callB (call_sortedD hr.units) (by rfl) T.n_sorted (by decide +kernel) (pa_cons (pv 9) pa_nil)))))))),
 (is_seq (is_asg (ik_new).sto (ig_name 3))
 (is_seq (is_for (ii_seq (im_var 2)) (ig_tup (igs_cons (ig_name 4) (igs_cons (ig_name 5) (igs_cons (ig_name 6) igs_nil))))
 (is_for (ii_range1 (iaw_cons ((im_sub ((im_var 0)).w (im_int).w)).w iaw_nil)) (ig_name 7)
 (is_seq (is_asg (im_sub ((im_sub ((im_sub ((im_var 0)).w (im_int).w)).w ((im_var 6)).w)).w ((im_var 7)).w) (ig_name 8))
 (is_if (it_test (im_op ro_isNot ((im_var 8)).w (im_non).w))
 (is_sapp (im_sdef (im_var 3) ((im_var 8)).w ((if_lst ia_nil)).sto) (im_tup (ia_cons (im_op ro_addA ((im_var 4)).w ((im_sub (im_str).w ((im_var 7)).w)).w) (ia_cons (im_op ro_addA ((im_var 5)).w ((im_sub ((im_var 1)).w ((im_var 7)).w)).w) (ia_cons (im_var 8) ia_nil)))))
 is_next))))
 (is_seq (is_own 9 (if_lst ia_nil))
 (is_seq (is_for (ii_seq ((if_sorted (iaw_cons ((if_list (iaw_cons ((im_var 3)).w iaw_nil))).w iaw_nil))).im) (ig_name 6)
 (is_seq (is_asg (im_sub ((im_sub ((im_var 3)).w ((im_var 6)).w)).w (im_int).w) (ig_name 10))
 (is_seq (is_app 9 (im_var 10))
 (is_ext 9 ((im_sl rs_any ((if_compR (vs := [11]) (im_sub ((im_var 3)).w ((im_var 6)).w) (ig_name 11) (it_test (im_op ro_ne ((im_sub ((im_var 11)).w (im_int).w)).w ((im_sub ((im_var 10)).w (im_int).w)).w)) (im_var 11) (by decide))).w io_none (io_some (im_int).w))).w))))
 (is_ret ((if_sorted (iaw_cons (im_own 9) iaw_nil))).im)))))⟩
theorem ok__law_first_unlike (T : Txt K mg) {f : Addr} {fd : FuncData} (Fn : Fun K "_law_first_unlike" "_law_first_unlike" s__law_first_unlike f fd) (c__law_layer : Cal P w K mg base 1 "_law_layer" ["_law_kind_here", "_law_gaps", "_law_layer_here"] (spD K 3 m__law_layer)) : FnG P w K mg base 2 f fd ["_law_kind_here", "_law_one_here", "_law_other"] (spD K 3 m__law_first_unlike) :=
  fnD Fn sc__law_first_unlike (by decide) fun cdv A outer s H E hr gd => ⟨_, (pss_cons (ps_par (i := 3) (j := 4) rfl sc__law_first_unlike.nd rfl rfl (by decide) rfl rfl (pa_cons (pe_lc (own := [("_law_j", 7)]) (g := (gName 7)) rfl sc__law_first_unlike.nd (pi_range1 (by rfl) T.n_range (pa_cons (pe_sub (units1 hr.units) (pv 0) pe_int) pa_nil)) (blkOk_by (own := [("_law_j", 7)]) (N := ["_law_kind_here", "_law_one_here", "_law_other", "_law_gaps", "_law_layer_here", "_law_many", "_law_words", "_law_j", "_law_row"]) (sc := defScope s__law_first_unlike) (by decide +kernel)) (fun _ _ _ _ _ => (pg_name (i := 7) sc__law_first_unlike.nd rfl (Or.inl rfl))) (fun _ _ _ _ _ => pts_nil) (fun _ _ _ _ _ => (pe_op op_sub (pe_sub (units1 hr.units) (pv 1) (pv 7)) (pe_sub (units1 hr.units) (pv 2) (pv 7))))) (pa_cons (pe_lst (pa_cons (pe_tup (pa_cons pe_str (pa_cons pe_int (pa_cons pe_int pa_nil)))) pa_nil)) pa_nil)) (by rfl))
 (pss_cons (ps_for PassesOwn.never rfl (pi_range1 (by rfl) T.n_range (pa_cons (pe_op op_addA (pe_op op_mulA pe_int (pe_callB call_lenA (by rfl) T.n_len (by decide +kernel) (pa_cons (pe_sub (units1 hr.units) (pv 0) pe_int) pa_nil))) pe_int) pa_nil)) (pg_name (i := 5) sc__law_first_unlike.nd rfl (Or.inl rfl))
 (pss_cons (ps_setLc (i := 6) (own := [("_law_row", 8)]) (g := (gName 8)) rfl sc__law_first_unlike.nd rfl rfl (sw_true rfl rfl rfl (by decide +kernel)) (pi_seq (pv 4)) (blkOk_by (own := [("_law_row", 8)]) (N := ["_law_kind_here", "_law_one_here", "_law_other", "_law_gaps", "_law_layer_here", "_law_many", "_law_words", "_law_j", "_law_row"]) (sc := defScope s__law_first_unlike) (by decide +kernel)) (fun _ _ _ _ _ => (pg_name (i := 8) sc__law_first_unlike.nd rfl (Or.inl rfl))) (fun _ _ _ _ _ => (pts_one (PW.pt (pw_and (pt_truth (pe_sub (units1 hr.units) (pe_sub (units1 hr.units) (pv 0) pe_int) (pe_sub (units1 hr.units) (pv 8) pe_int)) (by intro _; rfl)) (pw_and1 (pt_cmpR (op_neA hr.units) (pe_sub (units1 hr.units) (pv 8) pe_int) pe_int (nomark _))))))) (fun _ _ _ _ _ => (pe_sub (units1 hr.units) (pv 8) pe_int)))
 (pss_cons (ps_if (pt_cmpR (op_neA hr.units) (pv 6) (pe_lst pa_nil) (nomark _))
 (pss_one (ps_ret (pe_sub (units1 hr.units) (pv 6) pe_int)))
 pss_nil)
 (pss_one (ps_set (i := 4) sc__law_first_unlike.nd rfl (Or.inl rfl) (pe_callC c__law_layer hr gd (by rfl) (pa_cons (pv 0) (pa_cons (pv 3) (pa_cons (pv 4) pa_nil)))))))))
 (pss_one (ps_ret pe_non)))),
 (is_seq (is_par 3 4 (ia_cons ((if_comp (vs := [7]) (ii_range1 (iaw_cons ((im_sub ((im_var 0)).w (im_int).w)).w iaw_nil)) (ig_name 7) it_yes (im_op ro_sub ((im_sub ((im_var 1)).w ((im_var 7)).w)).w ((im_sub ((im_var 2)).w ((im_var 7)).w)).w) (by decide))).im (ia_cons ((if_lst (ia_cons (im_tup (ia_cons im_str (ia_cons im_int (ia_cons im_int ia_nil)))) ia_nil))).im ia_nil)))
 (is_seq (is_for (ii_range1 (iaw_cons ((im_op ro_addA ((im_op ro_mulA (im_int).w ((im_cb rc_lenA (iaw_cons ((im_sub ((im_var 0)).w (im_int).w)).w iaw_nil))).w)).w (im_int).w)).w iaw_nil)) (ig_name 5)
 (is_seq (is_asg ((if_comp (vs := [8]) (ii_seq (im_var 4)) (ig_name 8) (it_and (it_truth ((im_sub ((im_sub ((im_var 0)).w (im_int).w)).w ((im_sub ((im_var 8)).w (im_int).w)).w)).w) (it_test (im_op ro_ne ((im_sub ((im_var 8)).w (im_int).w)).w (im_int).w))) (im_sub ((im_var 8)).w (im_int).w) (by decide))).im (ig_name 6))
 (is_seq (is_if (it_test (im_op ro_ne ((im_var 6)).w ((if_lst ia_nil)).w))
 (is_ret (im_sub ((im_var 6)).w (im_int).w))
 is_next)
 (is_asg (im_call (ia_cons (im_var 0) (ia_cons (im_var 3) (ia_cons (im_var 4) ia_nil))) (an_cons (an_cons (an_cons an_nil)))) (ig_name 4)))))
 (is_ret im_non)))⟩
theorem ok_worth (T : Txt K mg) {f : Addr} {fd : FuncData} (Fn : Fun K "worth" "worth" s_worth f fd)  : FnG P w K mg base 1 f fd ["form", "word"] (spD K 2 m_worth) :=
  fnD Fn sc_worth (by decide) fun cdv A outer s H E hr gd => ⟨_, (pss_one (ps_ret (pe_callB (cr_sum rfl) (by rfl) T.n_sum (by decide +kernel) (pa_cons (pe_lc (own := [("letter", 2)]) (g := (gName 2)) rfl sc_worth.nd (pi_seq (pv 1)) (blkOk_by (own := [("letter", 2)]) (N := ["form", "word", "letter"]) (sc := defScope s_worth) (by decide +kernel)) (fun _ _ _ _ _ => (pg_name (i := 2) sc_worth.nd rfl (Or.inl rfl))) (fun _ _ _ _ _ => pts_nil) (fun _ _ _ _ _ => (pe_sub (units1 hr.units) (pv 0) (pe_m1 PySem.F.slot_str_index PySem.F.type_str_index mt_sindex (pe_gstr (by rfl) T.c_LETTERS) (pv 2))))) pa_nil)))),
 (is_ret (im_cb rc_sum (iaw_cons ((if_comp (vs := [2]) (ii_seq (im_var 1)) (ig_name 2) it_yes (im_sub ((im_var 0)).w ((im_m1 rm_sindex (im_str).w ((im_var 2)).w)).w) (by decide))).w iaw_nil)))⟩
theorem ok__law_worth (T : Txt K mg) {f : Addr} {fd : FuncData} (Fn : Fun K "_law_worth" "_law_worth" s__law_worth f fd)  : FnG P w K mg base 1 f fd ["_law_form_here", "_law_word_here"] (spD K 2 m__law_worth) :=
  fnD Fn sc__law_worth (by decide) fun cdv A outer s H E hr gd => ⟨_, (pss_cons (ps_set (i := 2) sc__law_worth.nd rfl (Or.inl rfl) pe_int)
 (pss_cons (ps_for PassesOwn.never rfl (pi_seq (pv 1)) (pg_name (i := 3) sc__law_worth.nd rfl (Or.inl rfl))
 (pss_one (ps_set (i := 2) sc__law_worth.nd rfl (Or.inl rfl) (pe_op op_addA (pv 2) (pe_sub (units1 hr.units) (pv 0) (pe_m1 PySem.F.slot_str_index PySem.F.type_str_index mt_sindex pe_str (pv 3)))))))
 (pss_one (ps_ret (pv 2))))),
 (is_seq (is_asg im_int (ig_name 2))
 (is_seq (is_for (ii_seq (im_var 1)) (ig_name 3)
 (is_asg (im_op ro_addA ((im_var 2)).w ((im_sub ((im_var 0)).w ((im_m1 rm_sindex (im_str).w ((im_var 3)).w)).w)).w) (ig_name 2)))
 (is_ret (im_var 2))))⟩
theorem ok_met_from (T : Txt K mg) {f : Addr} {fd : FuncData} (Fn : Fun K "met_from" "met_from" s_met_from f fd)  : FnG P w K mg base 1 f fd ["nexts", "states"] (spD K 2 m_met_from) :=
  fnD Fn sc_met_from (by decide) fun cdv A outer s H E hr gd => ⟨_, (pss_cons (ps_setDc (i := 2) (own := [("state", 5)]) (g := (gName 5)) rfl sc_met_from.nd rfl rfl (sw_trueD rfl rfl rfl (by decide +kernel)) (pi_seq (pv 1)) (blkOk_by (own := [("state", 5)]) (N := ["nexts", "states", "found", "waiting", "item", "state"]) (sc := defScope s_met_from) (by decide +kernel)) (fun _ _ _ _ _ => (pg_name (i := 5) sc_met_from.nd rfl (Or.inl rfl))) (fun _ _ _ _ _ => pts_nil) (fun _ _ _ _ _ => (pv 5)) (fun _ _ _ _ _ => pe_bl))
 (pss_cons (ps_set (i := 3) sc_met_from.nd rfl (Or.inl rfl) (pe_callTy (call_listA rfl) (by rfl) T.n_list (by decide +kernel) (pa_cons (pv 1) pa_nil)))
 (pss_cons (ps_while PassesOwn.never (pt_cmpR (op_neA hr.units) (pv 3) (pe_lst pa_nil) (nomark _))
 (pss_one (ps_for PassesOwn.never rfl (pi_seq (pe_sub (units1 hr.units) (pv 0) (pe_bm0 PySem.F.plainAttrs_list PySem.F.slot_list_pop PySem.F.type_list_pop mt_pop (pv 3)))) (pg_name (i := 4) sc_met_from.nd rfl (Or.inl rfl))
 (pss_one (ps_if (pt_notIn (units1 hr.units) (pv 4) (pv 2))
 (pss_cons (ps_dput (units1 hr.units) (pv 2) (pv 4) pe_bl (by rfl))
 (pss_one (ps_expr (pe_bm PySem.F.plainAttrs_list PySem.F.slot_list_append PySem.F.type_list_append mt_append (pv 3) (pa_cons (pv 4) pa_nil)))))
 pss_nil)))))
 (pss_one (ps_ret (pv 2)))))),
 (is_seq (is_ownK 2 (ik_dc (vs := [5]) (ii_seq (im_var 1)) (ig_name 5) it_yes (im_var 5) im_bl (by decide)))
 (is_seq (is_asg ((if_list (iaw_cons ((im_var 1)).w iaw_nil))).sto (ig_name 3))
 (is_seq (is_while (it_test (im_op ro_ne ((im_var 3)).w ((if_lst ia_nil)).w))
 (is_forR (im_sub ((im_var 0)).w ((im_spop (im_var 3))).w) (ig_name 4)
 (is_if (it_test (im_notIn ((im_var 4)).w (im_own 2)))
 (is_seq (is_dput 2 ((im_var 4)).w im_bl)
 (is_sapp (im_var 3) (im_var 4)))
 is_next)))
 (is_frz 2 (is_ret (im_var 2))))))⟩
theorem ok_used (T : Txt K mg) {f : Addr} {fd : FuncData} (Fn : Fun K "used" "used" s_used f fd) (c_met_from : Cal P w K mg base 1 "met_from" ["nexts", "states"] (spD K 2 m_met_from)) : FnG P w K mg base 2 f fd ["kind"] (spD K 1 m_used) :=
  fnD Fn sc_used (by decide) fun cdv A outer s H E hr gd => ⟨_, (pss_cons (ps_par (i := 1) (j := 2) rfl sc_used.nd rfl rfl (by decide) rfl rfl (pa_cons (pe_sub (units1 hr.units) (pv 0) pe_int) (pa_cons (pe_sub (units1 hr.units) (pv 0) pe_int) pa_nil)) (by rfl))
 (pss_cons (ps_setLc (i := 3) (own := [("row", 6)]) (g := (gName 6)) rfl sc_used.nd rfl rfl (sw_true rfl rfl rfl (by decide +kernel)) (pi_seq (pv 1)) (blkOk_by (own := [("row", 6)]) (N := ["kind", "rows", "ends", "ahead", "before", "state", "row", "item", "met", "alive", "end"]) (sc := defScope s_used) (by decide +kernel)) (fun _ _ _ _ _ => (pg_name (i := 6) sc_used.nd rfl (Or.inl rfl))) (fun _ _ _ _ _ => pts_nil) (fun _ _ _ _ _ => (pe_lc (own := [("item", 7)]) (g := (gName 7)) rfl sc_used.nd (pi_seq (pv 6)) (blkOk_by (own := [("item", 7)]) (by kernel_rfl)) (fun _ _ _ _ _ => (pg_name (i := 7) sc_used.nd rfl (Or.inl rfl))) (fun _ _ _ _ _ => (pts_one (pt_cmpR op_notN (pv 7) pe_non (nomark _)))) (fun _ _ _ _ _ => (pv 7)))))
 (pss_cons (ps_setLc (i := 4) (own := [("row", 6)]) (g := (gName 6)) rfl sc_used.nd rfl rfl (sw_true rfl rfl rfl (by decide +kernel)) (pi_seq (pv 1)) (blkOk_by (own := [("row", 6)]) (N := ["kind", "rows", "ends", "ahead", "before", "state", "row", "item", "met", "alive", "end"]) (sc := defScope s_used) (by decide +kernel)) (fun _ _ _ _ _ => (pg_name (i := 6) sc_used.nd rfl (Or.inl rfl))) (fun _ _ _ _ _ => pts_nil) (fun _ _ _ _ _ => (pe_lst pa_nil)))
 (pss_cons (ps_for PassesOwn.never rfl (pi_enumA (by rfl) T.n_enumerate (pa_cons (pv 3) pa_nil)) (pg_tup rfl (pgs_cons (pg_name (i := 5) sc_used.nd rfl (Or.inl rfl)) (pgs_cons (pg_name (i := 6) sc_used.nd rfl (Or.inl rfl)) pgs_nil)))
 (pss_one (ps_for PassesOwn.never rfl (pi_seq (pv 6)) (pg_name (i := 7) sc_used.nd rfl (Or.inl rfl))
 (pss_one (ps_expr (pe_bm PySem.F.plainAttrs_list PySem.F.slot_list_append PySem.F.type_list_append mt_append (pe_sub (units1 hr.units) (pv 4) (pv 7)) (pa_cons (pv 5) pa_nil)))))))
 (pss_cons (ps_asg (pe_tup (pa_cons (pe_callC c_met_from hr gd (by rfl) (pa_cons (pv 3) (pa_cons (pe_lst (pa_cons pe_int pa_nil)) pa_nil))) (pa_cons (pe_callC c_met_from hr gd (by rfl) (pa_cons (pv 4) (pa_cons (pe_lc (own := [("state", 5), ("end", 10)]) (g := (gTup _ 2 (gCons (gName 5) (gCons (gName 10) gNil)))) rfl sc_used.nd (pi_enumA (by rfl) T.n_enumerate (pa_cons (pv 2) pa_nil)) (blkOk_by (own := [("state", 5), ("end", 10)]) (N := ["kind", "rows", "ends", "ahead", "before", "state", "row", "item", "met", "alive", "end"]) (sc := defScope s_used) (by decide +kernel)) (fun _ _ _ _ _ => (pg_tup rfl (pgs_cons (pg_name (i := 5) sc_used.nd rfl (Or.inl rfl)) (pgs_cons (pg_name (i := 10) sc_used.nd rfl (Or.inl rfl)) pgs_nil)))) (fun _ _ _ _ _ => (pts_one (pt_truth (pv 10) (by intro _; rfl)))) (fun _ _ _ _ _ => (pv 5))) pa_nil))) pa_nil))) (pg_tup rfl (pgs_cons (pg_name (i := 8) sc_used.nd rfl (Or.inr rfl)) (pgs_cons (pg_name (i := 9) sc_used.nd rfl (Or.inr rfl)) pgs_nil))))
 (pss_one (ps_ret (pe_callTy (call_tupA rfl) (by rfl) T.n_tuple (by decide +kernel) (pa_cons (pe_lc (own := [("state", 5)]) (g := (gName 5)) rfl sc_used.nd (pi_range1 (by rfl) T.n_range (pa_cons (pe_callB call_lenA (by rfl) T.n_len (by decide +kernel) (pa_cons (pv 1) pa_nil)) pa_nil)) (blkOk_by (own := [("state", 5)]) (N := ["kind", "rows", "ends", "ahead", "before", "state", "row", "item", "met", "alive", "end"]) (sc := defScope s_used) (by decide +kernel)) (fun _ _ _ _ _ => (pg_name (i := 5) sc_used.nd rfl (Or.inl rfl))) (fun _ _ _ _ _ => (pts_one (PW.pt (pw_and (pt_in (units1 hr.units) (pv 5) (pv 8)) (pw_and1 (pt_in (units1 hr.units) (pv 5) (pv 9))))))) (fun _ _ _ _ _ => (pv 5))) pa_nil))))))))),
 (is_seq (is_par 1 2 (ia_cons (im_sub ((im_var 0)).w (im_int).w) (ia_cons (im_sub ((im_var 0)).w (im_int).w) ia_nil)))
 (is_seq (is_asg ((if_comp (vs := [6]) (ii_seq (im_var 1)) (ig_name 6) it_yes ((if_comp (vs := [7]) (ii_seq (im_var 6)) (ig_name 7) (it_test (im_op ro_isNot ((im_var 7)).w (im_non).w)) (im_var 7) (by decide))).im (by decide))).im (ig_name 3))
 (is_seq (is_asg ((if_comp (vs := [6]) (ii_seq (im_var 1)) (ig_name 6) it_yes ((if_lst ia_nil)).sto (by decide))).im (ig_name 4))
 (is_seq (is_for (ii_enum (im_var 3)) (ig_tup (igs_cons (ig_name 5) (igs_cons (ig_name 6) igs_nil)))
 (is_for (ii_seq (im_var 6)) (ig_name 7)
 (is_sapp (im_sub ((im_var 4)).w ((im_var 7)).w) (im_var 5))))
 (is_seq (is_asg (im_tup (ia_cons (im_call (ia_cons (im_var 3) (ia_cons ((if_lst (ia_cons im_int ia_nil))).im ia_nil)) (an_cons (an_cons an_nil))) (ia_cons (im_call (ia_cons (im_var 4) (ia_cons ((if_comp (vs := [5, 10]) (ii_enum (im_var 2)) (ig_tup (igs_cons (ig_name 5) (igs_cons (ig_name 10) igs_nil))) (it_truth ((im_var 10)).w) (im_var 5) (by decide))).im ia_nil)) (an_cons (an_cons an_nil))) ia_nil))) (ig_tup (igs_cons (ig_name 8) (igs_cons (ig_name 9) igs_nil))))
 (is_ret (im_cb rc_tupA (iaw_cons ((if_comp (vs := [5]) (ii_range1 (iaw_cons ((im_cb rc_lenA (iaw_cons ((im_var 1)).w iaw_nil))).w iaw_nil)) (ig_name 5) (it_and (it_test (im_in ((im_var 5)).w ((im_var 8)).w)) (it_test (im_in ((im_var 5)).w ((im_var 9)).w))) (im_var 5) (by decide))).w iaw_nil))))))))⟩
theorem ok_steps_of (T : Txt K mg) {f : Addr} {fd : FuncData} (Fn : Fun K "steps_of" "steps_of" s_steps_of f fd) (c_used : Cal P w K mg base 2 "used" ["kind"] (spD K 1 m_used)) : FnG P w K mg base 3 f fd ["kind"] (spD K 1 m_steps_of) :=
  fnD Fn sc_steps_of (by decide) fun cdv A outer s H E hr gd => ⟨_, (pss_cons (ps_set (i := 1) sc_steps_of.nd rfl (Or.inr rfl) (pe_callC c_used hr gd (by rfl) (pa_cons (pv 0) pa_nil)))
 (pss_cons (ps_set (i := 2) sc_steps_of.nd rfl (Or.inl rfl) pe_dnewK)
 (pss_cons (ps_for PassesOwn.never rfl (pi_seq (pv 1)) (pg_name (i := 3) sc_steps_of.nd rfl (Or.inl rfl))
 (pss_one (ps_dput (units1 hr.units) (pv 2) (pv 3) (pe_lc (own := [("k", 4), ("item", 5)]) (g := (gTup _ 2 (gCons (gName 4) (gCons (gName 5) gNil)))) rfl sc_steps_of.nd (pi_enumA (by rfl) T.n_enumerate (pa_cons (pe_sub (units1 hr.units) (pe_sub (units1 hr.units) (pv 0) pe_int) (pv 3)) pa_nil)) (blkOk_by (own := [("k", 4), ("item", 5)]) (N := ["kind", "states", "found", "state", "k", "item"]) (sc := defScope s_steps_of) (by decide +kernel)) (fun _ _ _ _ _ => (pg_tup rfl (pgs_cons (pg_name (i := 4) sc_steps_of.nd rfl (Or.inl rfl)) (pgs_cons (pg_name (i := 5) sc_steps_of.nd rfl (Or.inl rfl)) pgs_nil)))) (fun _ _ _ _ _ => (pts_one (pt_in (units1 hr.units) (pv 5) (pv 1)))) (fun _ _ _ _ _ => (pe_tup (pa_cons (pv 4) (pa_cons (pv 5) pa_nil))))) (by rfl))))
 (pss_one (ps_ret (pv 2)))))),
 (is_seq (is_asg (im_call (ia_cons (im_var 0) ia_nil) (an_cons an_nil)) (ig_name 1))
 (is_seq (is_ownK 2 ik_new)
 (is_seq (is_for (ii_seq (im_var 1)) (ig_name 3)
 (is_dput 2 ((im_var 3)).w ((if_comp (vs := [4, 5]) (ii_enum (im_sub ((im_sub ((im_var 0)).w (im_int).w)).w ((im_var 3)).w)) (ig_tup (igs_cons (ig_name 4) (igs_cons (ig_name 5) igs_nil))) (it_test (im_in ((im_var 5)).w ((im_var 1)).w)) (im_tup (ia_cons (im_var 4) (ia_cons (im_var 5) ia_nil))) (by decide))).im))
 (is_frz 2 (is_ret (im_var 2))))))⟩
theorem ok_is_nought (T : Txt K mg) {f : Addr} {fd : FuncData} (Fn : Fun K "is_nought" "is_nought" s_is_nought f fd)  : FnG P w K mg base 1 f fd ["kind", "steps", "form"] (spD K 3 m_is_nought) :=
  fnD Fn sc_is_nought (by decide) fun cdv A outer s H E hr gd => ⟨_, (pss_cons (ps_par (i := 3) (j := 4) rfl sc_is_nought.nd rfl rfl (by decide) rfl rfl (pa_cons (pe_disp (pps_cons pe_int pe_int pps_nil) (by rfl) (by rfl) (fun z => nomatch z) (by decide)) (pa_cons (pe_lst (pa_cons pe_int pa_nil)) pa_nil)) (by rfl))
 (pss_cons (ps_while PassesOwn.never (pt_cmpR (op_neA hr.units) (pv 4) (pe_lst pa_nil) (nomark _))
 (pss_cons (ps_set (i := 5) sc_is_nought.nd rfl (Or.inl rfl) (pe_bm0 PySem.F.plainAttrs_list PySem.F.slot_list_pop PySem.F.type_list_pop mt_pop (pv 4)))
 (pss_cons (ps_if (PW.pt (pw_and (pt_truth (pe_sub (units1 hr.units) (pe_sub (units1 hr.units) (pv 0) pe_int) (pv 5)) (by intro _; rfl)) (pw_and1 (pt_cmpR (op_neA hr.units) (pe_sub (units1 hr.units) (pv 3) (pv 5)) pe_int (nomark _)))))
 (pss_one (ps_ret pe_bl))
 pss_nil)
 (pss_one (ps_for PassesOwn.never rfl (pi_seq (pe_sub (units1 hr.units) (pv 1) (pv 5))) (pg_tup rfl (pgs_cons (pg_name (i := 6) sc_is_nought.nd rfl (Or.inl rfl)) (pgs_cons (pg_name (i := 7) sc_is_nought.nd rfl (Or.inl rfl)) pgs_nil)))
 (pss_cons (ps_set (i := 8) sc_is_nought.nd rfl (Or.inl rfl) (pe_op op_addA (pe_sub (units1 hr.units) (pv 3) (pv 5)) (pe_sub (units1 hr.units) (pv 2) (pv 6))))
 (pss_cons (ps_if (pt_notIn (units1 hr.units) (pv 7) (pv 3))
 (pss_cons (ps_dput (units1 hr.units) (pv 3) (pv 7) (pv 8) (by rfl))
 (pss_one (ps_expr (pe_bm PySem.F.plainAttrs_list PySem.F.slot_list_append PySem.F.type_list_append mt_append (pv 4) (pa_cons (pv 7) pa_nil)))))
 pss_nil)
 (pss_one (ps_if (pt_cmpR (op_neA hr.units) (pe_sub (units1 hr.units) (pv 3) (pv 7)) (pv 8) (nomark _))
 (pss_one (ps_ret pe_bl))
 pss_nil)))))))))
 (pss_one (ps_ret pe_bl)))),
 (is_seq (is_par2 3 4 ((ik_disp (ip_cons im_int im_int ip_nil))).x (((if_lst (ia_cons im_int ia_nil))).sto).x)
 (is_seq (is_while (it_test (im_op ro_ne ((im_var 4)).w ((if_lst ia_nil)).w))
 (is_seq (is_asg (im_spop (im_var 4)) (ig_name 5))
 (is_seq (is_if (it_and (it_truth ((im_sub ((im_sub ((im_var 0)).w (im_int).w)).w ((im_var 5)).w)).w) (it_test (im_op ro_ne ((im_sub (im_own 3) ((im_var 5)).w)).w (im_int).w)))
 (is_ret im_bl)
 is_next)
 (is_for (ii_seq (im_sub ((im_var 1)).w ((im_var 5)).w)) (ig_tup (igs_cons (ig_name 6) (igs_cons (ig_name 7) igs_nil)))
 (is_seq (is_asg (im_op ro_addA ((im_sub (im_own 3) ((im_var 5)).w)).w ((im_sub ((im_var 2)).w ((im_var 6)).w)).w) (ig_name 8))
 (is_seq (is_if (it_test (im_notIn ((im_var 7)).w (im_own 3)))
 (is_seq (is_dput 3 ((im_var 7)).w (im_var 8))
 (is_sapp (im_var 4) (im_var 7)))
 is_next)
 (is_if (it_test (im_op ro_ne ((im_sub (im_own 3) ((im_var 7)).w)).w ((im_var 8)).w))
 (is_ret im_bl)
 is_next)))))))
 (is_ret im_bl)))⟩
theorem ok_wrong_words (T : Txt K mg) {f : Addr} {fd : FuncData} (Fn : Fun K "wrong_words" "wrong_words" s_wrong_words f fd)  : FnG P w K mg base 1 f fd ["kind", "layer"] (spD K 2 m_wrong_words) :=
  fnD Fn sc_wrong_words (by decide) fun cdv A outer s H E hr gd => ⟨_, (pss_cons (ps_set (i := 2) sc_wrong_words.nd rfl (Or.inl rfl) (pe_lst pa_nil))
 (pss_cons (ps_or (ps_lock (ps_for PassesOwn.never rfl (pi_keys (pv 1)) (pg_name (i := 3) sc_wrong_words.nd rfl (Or.inl rfl))
 (pss_one (ps_if (pt_truth (pe_sub (units1 hr.units) (pe_sub (units1 hr.units) (pv 0) pe_int) (pv 3)) (by intro _; rfl))
 (pss_one (ps_expr (pe_bm PySem.F.plainAttrs_list PySem.F.slot_list_extend PySem.F.type_list_extend mt_extend (pv 2) (pa_cons (pe_lc (own := [("number", 4), ("word", 5)]) (g := (gTup _ 2 (gCons (gName 4) (gCons (gName 5) gNil)))) rfl sc_wrong_words.nd (pi_seq (pe_sub (units1 hr.units) (pv 1) (pv 3))) (blkOk_by (own := [("number", 4), ("word", 5)]) (N := ["kind", "layer", "found", "state", "number", "word"]) (sc := defScope s_wrong_words) (by decide +kernel)) (fun _ _ _ _ _ => (pg_tup rfl (pgs_cons (pg_name (i := 4) sc_wrong_words.nd rfl (Or.inl rfl)) (pgs_cons (pg_name (i := 5) sc_wrong_words.nd rfl (Or.inl rfl)) pgs_nil)))) (fun _ _ _ _ _ => (pts_one (pt_cmpR (op_neA hr.units) (pv 4) pe_int (nomark _)))) (fun _ _ _ _ _ => (pv 5))) pa_nil))))
 pss_nil)))) (ps_for PassesOwn.never rfl (pi_keys (pv 1)) (pg_name (i := 3) sc_wrong_words.nd rfl (Or.inl rfl))
 (pss_one (ps_if (pt_truth (pe_sub (units1 hr.units) (pe_sub (units1 hr.units) (pv 0) pe_int) (pv 3)) (by intro _; rfl))
 (pss_one (ps_expr (pe_bm PySem.F.plainAttrs_list PySem.F.slot_list_extend PySem.F.type_list_extend mt_extend (pv 2) (pa_cons (pe_lc (own := [("number", 4), ("word", 5)]) (g := (gTup _ 2 (gCons (gName 4) (gCons (gName 5) gNil)))) rfl sc_wrong_words.nd (pi_seq (pe_sub (units1 hr.units) (pv 1) (pv 3))) (blkOk_by (own := [("number", 4), ("word", 5)]) (N := ["kind", "layer", "found", "state", "number", "word"]) (sc := defScope s_wrong_words) (by decide +kernel)) (fun _ _ _ _ _ => (pg_tup rfl (pgs_cons (pg_name (i := 4) sc_wrong_words.nd rfl (Or.inl rfl)) (pgs_cons (pg_name (i := 5) sc_wrong_words.nd rfl (Or.inl rfl)) pgs_nil)))) (fun _ _ _ _ _ => (pts_one (pt_cmpR (op_neA hr.units) (pv 4) pe_int (nomark _)))) (fun _ _ _ _ _ => (pv 5))) pa_nil))))
 pss_nil))))
 (pss_one (ps_ret (pv 2))))),
 (is_seq (is_own 2 (if_lst ia_nil))
 (is_seq (is_forK (pth_var 1) (ig_name 3)
 (is_if (it_truth ((im_sub ((im_sub ((im_var 0)).w (im_int).w)).w ((im_var 3)).w)).w)
 (is_ext 2 ((if_comp (vs := [4, 5]) (ii_seq (im_sub ((im_var 1)).w ((im_var 3)).w)) (ig_tup (igs_cons (ig_name 4) (igs_cons (ig_name 5) igs_nil))) (it_test (im_op ro_ne ((im_var 4)).w (im_int).w)) (im_var 5) (by decide))).w)
 is_next))
 (is_frz 2 (is_ret (im_var 2)))))⟩
theorem ok_added (T : Txt K mg) {f : Addr} {fd : FuncData} (Fn : Fun K "added" "added" s_added f fd)  : FnG P w K mg base 1 f fd ["one", "other"] (spD K 2 m_added) :=
  fnD Fn sc_added (by decide) fun cdv A outer s H E hr gd => ⟨_, (pss_one (ps_ret (pe_ifExp (PW.pt (pw_or (pt_cmpR (op_eqA hr.units) (pe_callB call_lenA (by rfl) T.n_len (by decide +kernel) (pa_cons (pv 0) pa_nil)) pe_int (nomark _)) (pw_or1 (pt_in (units1 hr.units) (pe_sub (units1 hr.units) (pv 1) pe_int) (pe_lc (own := [("number", 2), ("word", 3)]) (g := (gTup _ 2 (gCons (gName 2) (gCons (gName 3) gNil)))) rfl sc_added.nd (pi_seq (pv 0)) (blkOk_by (own := [("number", 2), ("word", 3)]) (N := ["one", "other", "number", "word"]) (sc := defScope s_added) (by decide +kernel)) (fun _ _ _ _ _ => (pg_tup rfl (pgs_cons (pg_name (i := 2) sc_added.nd rfl (Or.inl rfl)) (pgs_cons (pg_name (i := 3) sc_added.nd rfl (Or.inl rfl)) pgs_nil)))) (fun _ _ _ _ _ => pts_nil) (fun _ _ _ _ _ => (pv 2))))))) (pv 0) (pe_op op_addA (pv 0) (pe_lst (pa_cons (pv 1) pa_nil)))))),
 (is_ret (im_if (it_or (it_test (im_op ro_eq ((im_cb rc_lenA (iaw_cons ((im_var 0)).w iaw_nil))).w (im_int).w)) (it_test (im_in ((im_sub ((im_var 1)).w (im_int).w)).w ((if_comp (vs := [2, 3]) (ii_seq (im_var 0)) (ig_tup (igs_cons (ig_name 2) (igs_cons (ig_name 3) igs_nil))) it_yes (im_var 2) (by decide))).w))) (im_var 0) (im_op ro_addA ((im_var 0)).w ((if_lst (ia_cons (im_var 1) ia_nil))).w)))⟩
theorem ok_next_worths (T : Txt K mg) {f : Addr} {fd : FuncData} (Fn : Fun K "next_worths" "next_worths" s_next_worths f fd) (c_added : Cal P w K mg base 1 "added" ["one", "other"] (spD K 2 m_added)) : FnG P w K mg base 2 f fd ["steps", "form", "layer"] (spD K 3 m_next_worths) :=
  fnD Fn sc_next_worths (by decide) fun cdv A outer s H E hr gd => ⟨_, (pss_cons (ps_set (i := 3) sc_next_worths.nd rfl (Or.inl rfl) (pe_lst pa_nil))
 (pss_cons (ps_or (ps_lock (ps_for PassesOwn.never rfl (pi_keys (pv 2)) (pg_name (i := 4) sc_next_worths.nd rfl (Or.inl rfl))
 (pss_one (ps_for PassesOwn.never rfl (pi_seq (pe_sub (units1 hr.units) (pv 2) (pv 4))) (pg_tup rfl (pgs_cons (pg_name (i := 5) sc_next_worths.nd rfl (Or.inr rfl)) (pgs_cons (pg_name (i := 6) sc_next_worths.nd rfl (Or.inr rfl)) pgs_nil)))
 (pss_one (ps_expr (pe_bm PySem.F.plainAttrs_list PySem.F.slot_list_extend PySem.F.type_list_extend mt_extend (pv 3) (pa_cons (pe_lc (own := [("k", 8), ("item", 9)]) (g := (gTup _ 2 (gCons (gName 8) (gCons (gName 9) gNil)))) rfl sc_next_worths.nd (pi_seq (pe_sub (units1 hr.units) (pv 0) (pv 4))) (blkOk_by (own := [("k", 8), ("item", 9)]) (N := ["steps", "form", "layer", "rows", "state", "number", "word", "found", "k", "item"]) (sc := defScope s_next_worths) (by decide +kernel)) (fun _ _ _ _ _ => (pg_tup rfl (pgs_cons (pg_name (i := 8) sc_next_worths.nd rfl (Or.inl rfl)) (pgs_cons (pg_name (i := 9) sc_next_worths.nd rfl (Or.inl rfl)) pgs_nil)))) (fun _ _ _ _ _ => pts_nil) (fun _ _ _ _ _ => (pe_tup (pa_cons (pe_op op_addA (pv 6) (pe_sub (units1 hr.units) (pe_gstr (by rfl) T.c_LETTERS) (pv 8))) (pa_cons (pe_op op_addA (pv 5) (pe_sub (units1 hr.units) (pv 1) (pv 8))) (pa_cons (pv 9) pa_nil)))))) pa_nil)))))))) (ps_for PassesOwn.never rfl (pi_keys (pv 2)) (pg_name (i := 4) sc_next_worths.nd rfl (Or.inl rfl))
 (pss_one (ps_for PassesOwn.never rfl (pi_seq (pe_sub (units1 hr.units) (pv 2) (pv 4))) (pg_tup rfl (pgs_cons (pg_name (i := 5) sc_next_worths.nd rfl (Or.inr rfl)) (pgs_cons (pg_name (i := 6) sc_next_worths.nd rfl (Or.inr rfl)) pgs_nil)))
 (pss_one (ps_expr (pe_bm PySem.F.plainAttrs_list PySem.F.slot_list_extend PySem.F.type_list_extend mt_extend (pv 3) (pa_cons (pe_lc (own := [("k", 8), ("item", 9)]) (g := (gTup _ 2 (gCons (gName 8) (gCons (gName 9) gNil)))) rfl sc_next_worths.nd (pi_seq (pe_sub (units1 hr.units) (pv 0) (pv 4))) (blkOk_by (own := [("k", 8), ("item", 9)]) (N := ["steps", "form", "layer", "rows", "state", "number", "word", "found", "k", "item"]) (sc := defScope s_next_worths) (by decide +kernel)) (fun _ _ _ _ _ => (pg_tup rfl (pgs_cons (pg_name (i := 8) sc_next_worths.nd rfl (Or.inl rfl)) (pgs_cons (pg_name (i := 9) sc_next_worths.nd rfl (Or.inl rfl)) pgs_nil)))) (fun _ _ _ _ _ => pts_nil) (fun _ _ _ _ _ => (pe_tup (pa_cons (pe_op op_addA (pv 6) (pe_sub (units1 hr.units) (pe_gstr (by rfl) T.c_LETTERS) (pv 8))) (pa_cons (pe_op op_addA (pv 5) (pe_sub (units1 hr.units) (pv 1) (pv 8))) (pa_cons (pv 9) pa_nil)))))) pa_nil))))))))
 (pss_cons (ps_set (i := 7) sc_next_worths.nd rfl (Or.inl rfl) pe_dnewK)
 (pss_cons (ps_for PassesOwn.never rfl (pi_seq (pe_callB (call_sortedD hr.units) (by rfl) T.n_sorted (by decide +kernel) (pa_cons (pv 3) pa_nil))) (pg_tup rfl (pgs_cons (pg_name (i := 6) sc_next_worths.nd rfl (Or.inr rfl)) (pgs_cons (pg_name (i := 5) sc_next_worths.nd rfl (Or.inr rfl)) (pgs_cons (pg_name (i := 4) sc_next_worths.nd rfl (Or.inl rfl)) pgs_nil))))
 (pss_one (ps_dput (units1 hr.units) (pv 7) (pv 4) (pe_callC c_added hr gd (by rfl) (pa_cons (pe_dget2 (units1 hr.units) (pv 7) (pv 4) (pe_lst pa_nil) ⟨by rfl, by rfl, by rfl, by rfl⟩) (pa_cons (pe_tup (pa_cons (pv 5) (pa_cons (pv 6) pa_nil))) pa_nil))) (by rfl))))
 (pss_one (ps_ret (pv 7))))))),
 (is_seq (is_own 3 (if_lst ia_nil))
 (is_seq (is_forK (pth_var 2) (ig_name 4)
 (is_for (ii_seq (im_sub ((im_var 2)).w ((im_var 4)).w)) (ig_tup (igs_cons (ig_name 5) (igs_cons (ig_name 6) igs_nil)))
 (is_ext 3 ((if_comp (vs := [8, 9]) (ii_seq (im_sub ((im_var 0)).w ((im_var 4)).w)) (ig_tup (igs_cons (ig_name 8) (igs_cons (ig_name 9) igs_nil))) it_yes (im_tup (ia_cons (im_op ro_addA ((im_var 6)).w ((im_sub (im_str).w ((im_var 8)).w)).w) (ia_cons (im_op ro_addA ((im_var 5)).w ((im_sub ((im_var 1)).w ((im_var 8)).w)).w) (ia_cons (im_var 9) ia_nil)))) (by decide))).w)))
 (is_seq (is_ownK 7 ik_new)
 (is_seq (is_for (ii_seq ((if_sorted (iaw_cons (im_own 3) iaw_nil))).im) (ig_tup (igs_cons (ig_name 6) (igs_cons (ig_name 5) (igs_cons (ig_name 4) igs_nil))))
 (is_dput 7 ((im_var 4)).w (im_call (ia_cons (im_get2 (im_own 7) ((im_var 4)).w ((if_lst ia_nil)).im) (ia_cons (im_tup (ia_cons (im_var 5) (ia_cons (im_var 6) ia_nil))) ia_nil)) (an_cons (an_cons an_nil)))))
 (is_frz 7 (is_ret (im_var 7)))))))⟩
theorem ok_unlike (T : Txt K mg) {f : Addr} {fd : FuncData} (Fn : Fun K "unlike" "unlike" s_unlike f fd) (c_steps_of : Cal P w K mg base 3 "steps_of" ["kind"] (spD K 1 m_steps_of)) (c_is_nought : Cal P w K mg base 1 "is_nought" ["kind", "steps", "form"] (spD K 3 m_is_nought)) (c_wrong_words : Cal P w K mg base 1 "wrong_words" ["kind", "layer"] (spD K 2 m_wrong_words)) (c_next_worths : Cal P w K mg base 2 "next_worths" ["steps", "form", "layer"] (spD K 3 m_next_worths)) : FnG P w K mg base 4 f fd ["kind", "one", "other"] (spD K 3 m_unlike) :=
  fnD Fn sc_unlike (by decide) fun cdv A outer s H E hr gd => ⟨_, (pss_cons (ps_par (i := 3) (j := 4) rfl sc_unlike.nd rfl rfl (by decide) rfl rfl (pa_cons (pe_lc (own := [("first", 6), ("second", 7)]) (g := (gTup _ 2 (gCons (gName 6) (gCons (gName 7) gNil)))) rfl sc_unlike.nd (RZ.pi_zipA (by rfl) T.n_zip (pa_cons (pv 1) (pa_cons (pv 2) pa_nil))) (blkOk_by (own := [("first", 6), ("second", 7)]) (N := ["kind", "one", "other", "form", "steps", "layer", "first", "second"]) (sc := defScope s_unlike) (by decide +kernel)) (fun _ _ _ _ _ => (pg_tup rfl (pgs_cons (pg_name (i := 6) sc_unlike.nd rfl (Or.inl rfl)) (pgs_cons (pg_name (i := 7) sc_unlike.nd rfl (Or.inl rfl)) pgs_nil)))) (fun _ _ _ _ _ => pts_nil) (fun _ _ _ _ _ => (pe_op op_sub (pv 6) (pv 7)))) (pa_cons (pe_callC c_steps_of hr gd (by rfl) (pa_cons (pv 0) pa_nil)) pa_nil)) (by rfl))
 (pss_cons (ps_if (PW.pt (pw_or (pt_notIn (units1 hr.units) pe_int (pv 4)) (pw_or1 (pt_truth (pe_callC c_is_nought hr gd (by rfl) (pa_cons (pv 0) (pa_cons (pv 4) (pa_cons (pv 3) pa_nil)))) (by intro _; rfl)))))
 (pss_one (ps_ret pe_non))
 pss_nil)
 (pss_cons (ps_set (i := 5) sc_unlike.nd rfl (Or.inl rfl) (pe_disp (pps_cons pe_int (pe_lst (pa_cons (pe_tup (pa_cons pe_int (pa_cons pe_str pa_nil))) pa_nil)) pps_nil) (by rfl) (by rfl) (fun z => nomatch z) (by decide)))
 (pss_cons (ps_while PassesOwn.never (pt_cmpR (op_eqA hr.units) (pe_callC c_wrong_words hr gd (by rfl) (pa_cons (pv 0) (pa_cons (pv 5) pa_nil))) (pe_lst pa_nil) (nomark _))
 (pss_one (ps_set (i := 5) sc_unlike.nd rfl (Or.inl rfl) (pe_callC c_next_worths hr gd (by rfl) (pa_cons (pv 4) (pa_cons (pv 3) (pa_cons (pv 5) pa_nil)))))))
 (pss_one (ps_ret (pe_callB (call_minD rfl hr.units) (by rfl) T.n_min (by decide +kernel) (pa_cons (pe_callC c_wrong_words hr gd (by rfl) (pa_cons (pv 0) (pa_cons (pv 5) pa_nil))) pa_nil)))))))),
 (is_seq (is_par 3 4 (ia_cons ((if_comp (vs := [6, 7]) (ii_zip (im_var 1) (im_var 2)) (ig_tup (igs_cons (ig_name 6) (igs_cons (ig_name 7) igs_nil))) it_yes (im_op ro_sub ((im_var 6)).w ((im_var 7)).w) (by decide))).im (ia_cons (im_call (ia_cons (im_var 0) ia_nil) (an_cons an_nil)) ia_nil)))
 (is_seq (is_if (it_or (it_test (im_notIn (im_int).w ((im_var 4)).w)) (it_truth ((im_call (ia_cons (im_var 0) (ia_cons (im_var 4) (ia_cons (im_var 3) ia_nil))) (an_cons (an_cons (an_cons an_nil))))).w))
 (is_ret im_non)
 is_next)
 (is_seq (is_asg ((ik_disp (ip_cons im_int ((if_lst (ia_cons (im_tup (ia_cons im_int (ia_cons im_str ia_nil))) ia_nil))).im ip_nil))).im (ig_name 5))
 (is_seq (is_while (it_test (im_op ro_eq ((im_call (ia_cons (im_var 0) (ia_cons (im_var 5) ia_nil)) (an_cons (an_cons an_nil)))).w ((if_lst ia_nil)).w))
 (is_asg (im_call (ia_cons (im_var 4) (ia_cons (im_var 3) (ia_cons (im_var 5) ia_nil))) (an_cons (an_cons (an_cons an_nil)))) (ig_name 5)))
 (is_ret (im_cb rc_minD (iaw_cons ((im_call (ia_cons (im_var 0) (ia_cons (im_var 5) ia_nil)) (an_cons (an_cons an_nil)))).w iaw_nil)))))))⟩
theorem ok_law (T : Txt K mg) {f : Addr} {fd : FuncData} (Fn : Fun K "law" "law" s_law f fd) (c__law_deck : Cal P w K mg base 1 "_law_deck" ["_law_script"] (spDeck K)) (c__law_draw : Cal P w K mg base 1 "_law_draw" ["_law_deck_here", "_law_many"] (spD K 2 m__law_draw)) (c__law_kind : Cal P w K mg base 3 "_law_kind" ["_law_deck_here", "_law_letters", "_law_many"] (spD K 3 m__law_kind)) (c__law_line : Cal P w K mg base 2 "_law_line" ["_law_deck_here", "_law_letters", "_law_many"] (spD K 3 m__law_line)) (c__law_rounds : Cal P w K mg base 1 "_law_rounds" ["_law_deck_here", "_law_letters"] (spD K 2 m__law_rounds)) (c__law_form : Cal P w K mg base 3 "_law_form" ["_law_deck_here", "_law_letters"] (spD K 2 m__law_form)) (c__law_first_unlike : Cal P w K mg base 2 "_law_first_unlike" ["_law_kind_here", "_law_one_here", "_law_other"] (spD K 3 m__law_first_unlike)) (c_unlike : Cal P w K mg base 4 "unlike" ["kind", "one", "other"] (spD K 3 m_unlike)) (c__law_word : Cal P w K mg base 3 "_law_word" ["_law_deck_here", "_law_letters", "_law_most"] (spD K 3 m__law_word)) (c_worth : Cal P w K mg base 1 "worth" ["form", "word"] (spD K 2 m_worth)) (c__law_worth : Cal P w K mg base 1 "_law_worth" ["_law_form_here", "_law_word_here"] (spD K 2 m__law_worth)) (hb : ∀ ns : List Int, ns.length ≤ 63 → ∃ s1, b_law (env0 17) ⟨ns.map absI, 0, []⟩ = some (.rt (.bl true), s1)) : FnG P w K mg base 5 f fd ["_law_script"] (spLaw K) :=
  fn_law Fn sc_law (by decide) rfl hb fun cdv A outer s H E hr gd => ⟨_, pss_cons (ps_set (i := 1) sc_law.nd rfl (Or.inl rfl) (pe_callC c__law_deck hr gd (by rfl) (pa_cons (pv 0) pa_nil)))
 (pss_cons (ps_for PassesOwn.never rfl (pi_range1 (by rfl) T.n_range (pa_cons pe_int pa_nil)) (pg_name (i := 2) sc_law.nd rfl (Or.inl rfl))
 (pss_cons (ps_par (i := 3) (j := 4) rfl sc_law.nd rfl rfl (by decide) rfl rfl (pa_cons (pe_op op_addA pe_int (pe_callC c__law_draw hr gd (by rfl) (pa_cons (pv 1) (pa_cons pe_int pa_nil)))) (pa_cons (pe_op op_addA pe_int (pe_callC c__law_draw hr gd (by rfl) (pa_cons (pv 1) (pa_cons pe_int pa_nil)))) pa_nil)) (by rfl))
 (pss_cons (ps_set (i := 5) sc_law.nd rfl (Or.inl rfl) (pe_lst (pa_cons (pe_callC c__law_kind hr gd (by rfl) (pa_cons (pv 1) (pa_cons (pv 3) (pa_cons (pv 4) pa_nil)))) (pa_cons (pe_callC c__law_line hr gd (by rfl) (pa_cons (pv 1) (pa_cons (pv 3) (pa_cons (pv 4) pa_nil)))) (pa_cons (pe_callC c__law_rounds hr gd (by rfl) (pa_cons (pv 1) (pa_cons (pv 3) pa_nil))) pa_nil)))))
 (pss_cons (ps_par3 (i := 6) (j := 7) (l := 8) rfl sc_law.nd rfl rfl rfl (by decide) (by decide) (by decide) rfl rfl rfl (pa_cons (pe_callC c__law_form hr gd (by rfl) (pa_cons (pv 1) (pa_cons (pv 3) pa_nil))) (pa_cons (pe_callC c__law_form hr gd (by rfl) (pa_cons (pv 1) (pa_cons (pv 3) pa_nil))) (pa_cons (pe_callC c__law_draw hr gd (by rfl) (pa_cons (pv 1) (pa_cons (pv 3) pa_nil))) pa_nil))) (by rfl))
 (pss_cons (ps_set (i := 9) sc_law.nd rfl (Or.inl rfl) (pe_ifExp (pt_cmpR op_gt (pe_sub (units1 hr.units) (pv 6) (pv 8)) pe_int (nomark _)) (pe_un un_neg pe_int) pe_int))
 (pss_cons (ps_set (i := 10) sc_law.nd rfl (Or.inl rfl) (pe_op op_addA (pe_op op_addA (pe_slice sl_any (pv 6) po_none (po_some (pv 8))) (pe_tup (pa_cons (pe_op op_addA (pe_sub (units1 hr.units) (pv 6) (pv 8)) (pv 9)) pa_nil))) (pe_slice sl_any (pv 6) (po_some (pe_op op_addA (pv 8) pe_int)) po_none)))
 (pss_cons (ps_set (i := 11) sc_law.nd rfl (Or.inl rfl) (pe_callB (call_reprD gd hr.units) (by rfl) T.n_repr (by decide +kernel) (pa_cons (pe_lst (pa_cons (pv 5) (pa_cons (pv 6) (pa_cons (pv 10) pa_nil)))) pa_nil)))
 (pss_cons (ps_for PassesOwn.never rfl (pi_seq (pv 5)) (pg_name (i := 12) sc_law.nd rfl (Or.inl rfl))
 (pss_one (ps_for PassesOwn.never rfl (pi_seq (pe_lst (pa_cons (pv 7) (pa_cons (pv 6) (pa_cons (pv 10) (pa_cons (pe_revT (pv 6)) (pa_cons (pe_op op_addA (pe_slice sl_any (pv 6) (po_some pe_int) po_none) (pe_slice sl_any (pv 6) po_none (po_some pe_int))) pa_nil))))))) (pg_name (i := 13) sc_law.nd rfl (Or.inl rfl))
 (pss_cons (ps_set (i := 14) sc_law.nd rfl (Or.inl rfl) (pe_callC c__law_first_unlike hr gd (by rfl) (pa_cons (pv 12) (pa_cons (pv 6) (pa_cons (pv 13) pa_nil)))))
 (pss_one (ps_if (pt_cmpR (op_neA hr.units) (pe_callB (call_reprD gd hr.units) (by rfl) T.n_repr (by decide +kernel) (pa_cons (pe_lst (pa_cons (pe_callC c_unlike hr gd (by rfl) (pa_cons (pv 12) (pa_cons (pv 6) (pa_cons (pv 13) pa_nil)))) (pa_cons (pe_callC c_unlike hr gd (by rfl) (pa_cons (pv 12) (pa_cons (pv 13) (pa_cons (pv 6) pa_nil)))) pa_nil))) pa_nil)) (pe_callB (call_reprD gd hr.units) (by rfl) T.n_repr (by decide +kernel) (pa_cons (pe_lst (pa_cons (pv 14) (pa_cons (pv 14) pa_nil))) pa_nil)) (nomark _))
 (pss_one (ps_ret pe_bl))
 pss_nil))))))
 (pss_cons (ps_for PassesOwn.never rfl (pi_range1 (by rfl) T.n_range (pa_cons pe_int pa_nil)) (pg_name (i := 15) sc_law.nd rfl (Or.inl rfl))
 (pss_cons (ps_set (i := 16) sc_law.nd rfl (Or.inl rfl) (pe_callC c__law_word hr gd (by rfl) (pa_cons (pv 1) (pa_cons (pv 3) (pa_cons (pe_ifExp (pt_cmpR (op_eqA hr.units) (pv 15) pe_int (nomark _)) pe_int pe_int) pa_nil)))))
 (pss_one (ps_if (pt_cmpR (op_neA hr.units) (pe_callB (call_reprD gd hr.units) (by rfl) T.n_repr (by decide +kernel) (pa_cons (pe_callC c_worth hr gd (by rfl) (pa_cons (pv 6) (pa_cons (pv 16) pa_nil))) pa_nil)) (pe_callB (call_reprD gd hr.units) (by rfl) T.n_repr (by decide +kernel) (pa_cons (pe_callC c__law_worth hr gd (by rfl) (pa_cons (pv 6) (pa_cons (pv 16) pa_nil))) pa_nil)) (nomark _))
 (pss_one (ps_ret pe_bl))
 pss_nil))))
 (pss_one (ps_if (pt_cmpR (op_neA hr.units) (pe_callB (call_reprD gd hr.units) (by rfl) T.n_repr (by decide +kernel) (pa_cons (pe_lst (pa_cons (pv 5) (pa_cons (pv 6) (pa_cons (pv 10) pa_nil)))) pa_nil)) (pv 11) (nomark _))
 (pss_one (ps_ret pe_bl))
 pss_nil)))))))))))
 (pss_one (ps_ret (pe_cmpR (op_eqA hr.units) (pe_callB (call_reprD gd hr.units) (by rfl) T.n_repr (by decide +kernel) (pa_cons (pe_lst (pa_cons (pe_callC c_worth hr gd (by rfl) (pa_cons (pe_tup (pa_cons (pe_un un_neg pe_int) pa_nil)) (pa_cons (pe_op op_mulS pe_str pe_int) pa_nil))) (pa_cons (pe_callC c_worth hr gd (by rfl) (pa_cons (pe_tup (pa_cons pe_int (pa_cons pe_int pa_nil))) (pa_cons pe_str pa_nil))) pa_nil))) pa_nil)) pe_str (nomark _))))),
 (is_seq (is_for (ii_range1 (iaw_cons (im_int).w iaw_nil)) (ig_name 2)
 (is_seq (is_par 3 4 (ia_cons (im_op ro_addA (im_int).w ((im_call (ia_cons (im_var 1) (ia_cons im_int ia_nil)) (an_cons (an_cons an_nil)))).w) (ia_cons (im_op ro_addA (im_int).w ((im_call (ia_cons (im_var 1) (ia_cons im_int ia_nil)) (an_cons (an_cons an_nil)))).w) ia_nil)))
 (is_seq (is_asg ((if_lst (ia_cons (im_call (ia_cons (im_var 1) (ia_cons (im_var 3) (ia_cons (im_var 4) ia_nil))) (an_cons (an_cons (an_cons an_nil)))) (ia_cons (im_call (ia_cons (im_var 1) (ia_cons (im_var 3) (ia_cons (im_var 4) ia_nil))) (an_cons (an_cons (an_cons an_nil)))) (ia_cons (im_call (ia_cons (im_var 1) (ia_cons (im_var 3) ia_nil)) (an_cons (an_cons an_nil))) ia_nil))))).im (ig_name 5))
 (is_seq (is_par3 6 7 8 (ia_cons (im_call (ia_cons (im_var 1) (ia_cons (im_var 3) ia_nil)) (an_cons (an_cons an_nil))) (ia_cons (im_call (ia_cons (im_var 1) (ia_cons (im_var 3) ia_nil)) (an_cons (an_cons an_nil))) (ia_cons (im_call (ia_cons (im_var 1) (ia_cons (im_var 3) ia_nil)) (an_cons (an_cons an_nil))) ia_nil))))
 (is_seq (is_asg (im_if (it_test (im_op ro_gt ((im_sub ((im_var 6)).w ((im_var 8)).w)).w (im_int).w)) (im_neg (im_int).w) im_int) (ig_name 9))
 (is_seq (is_asg (im_op ro_addA ((im_op ro_addA ((im_sl rs_any ((im_var 6)).w io_none (io_some ((im_var 8)).w))).w ((im_tup (ia_cons (im_op ro_addA ((im_sub ((im_var 6)).w ((im_var 8)).w)).w ((im_var 9)).w) ia_nil))).w)).w ((im_sl rs_any ((im_var 6)).w (io_some ((im_op ro_addA ((im_var 8)).w (im_int).w)).w) io_none)).w) (ig_name 10))
 (is_seq (is_asg (im_cb rc_repr (iaw_cons ((if_lst (ia_cons (im_var 5) (ia_cons (im_var 6) (ia_cons (im_var 10) ia_nil))))).w iaw_nil)) (ig_name 11))
 (is_seq (is_for (ii_seq (im_var 5)) (ig_name 12)
 (is_for (ii_seq ((if_lst (ia_cons (im_var 7) (ia_cons (im_var 6) (ia_cons (im_var 10) (ia_cons (im_revT ((im_var 6)).w) (ia_cons (im_op ro_addA ((im_sl rs_any ((im_var 6)).w (io_some (im_int).w) io_none)).w ((im_sl rs_any ((im_var 6)).w io_none (io_some (im_int).w))).w) ia_nil))))))).im) (ig_name 13)
 (is_seq (is_asg (im_call (ia_cons (im_var 12) (ia_cons (im_var 6) (ia_cons (im_var 13) ia_nil))) (an_cons (an_cons (an_cons an_nil)))) (ig_name 14))
 (is_if (it_test (im_op ro_ne ((im_cb rc_repr (iaw_cons ((if_lst (ia_cons (im_call (ia_cons (im_var 12) (ia_cons (im_var 6) (ia_cons (im_var 13) ia_nil))) (an_cons (an_cons (an_cons an_nil)))) (ia_cons (im_call (ia_cons (im_var 12) (ia_cons (im_var 13) (ia_cons (im_var 6) ia_nil))) (an_cons (an_cons (an_cons an_nil)))) ia_nil)))).w iaw_nil))).w ((im_cb rc_repr (iaw_cons ((if_lst (ia_cons (im_var 14) (ia_cons (im_var 14) ia_nil)))).w iaw_nil))).w))
 (is_ret im_bl)
 is_next))))
 (is_seq (is_for (ii_range1 (iaw_cons (im_int).w iaw_nil)) (ig_name 15)
 (is_seq (is_asg (im_call (ia_cons (im_var 1) (ia_cons (im_var 3) (ia_cons (im_if (it_test (im_op ro_eq ((im_var 15)).w (im_int).w)) im_int im_int) ia_nil))) (an_cons (an_cons (an_cons an_nil)))) (ig_name 16))
 (is_if (it_test (im_op ro_ne ((im_cb rc_repr (iaw_cons ((im_call (ia_cons (im_var 6) (ia_cons (im_var 16) ia_nil)) (an_cons (an_cons an_nil)))).w iaw_nil))).w ((im_cb rc_repr (iaw_cons ((im_call (ia_cons (im_var 6) (ia_cons (im_var 16) ia_nil)) (an_cons (an_cons an_nil)))).w iaw_nil))).w))
 (is_ret im_bl)
 is_next)))
 (is_if (it_test (im_op ro_ne ((im_cb rc_repr (iaw_cons ((if_lst (ia_cons (im_var 5) (ia_cons (im_var 6) (ia_cons (im_var 10) ia_nil))))).w iaw_nil))).w ((im_var 11)).w))
 (is_ret im_bl)
 is_next))))))))))
 (is_ret (im_op ro_eq ((im_cb rc_repr (iaw_cons ((if_lst (ia_cons (im_call (ia_cons (im_tup (ia_cons (im_neg (im_int).w) ia_nil)) (ia_cons (im_op ro_mulS (im_str).w (im_int).w) ia_nil)) (an_cons (an_cons an_nil))) (ia_cons (im_call (ia_cons (im_tup (ia_cons im_int (ia_cons im_int ia_nil))) (ia_cons im_str ia_nil)) (an_cons (an_cons an_nil))) ia_nil)))).w iaw_nil))).w (im_str).w)))⟩
end
/-! ### what the top has written -/
theorem all_mk {l : PySem.W.OpenLaw} {w : World} {K : Fg} {h : Heap} {mg : Str → Option Value} {fa : Addr} (hb : ∀ ns : List Int, ns.length ≤ 63 → ∃ s1, b_law (env0 17) ⟨ns.map absI, 0, []⟩ = some (.rt (.bl true), s1)) (X : K.In h) (G : h.Ns mainGlobals mg) (hfa : mg "law" = some (.ref fa))
    {f__law_deck : Addr} {odx0 anx0 : Option Addr} {slx0 : Array (Option Value)} {ocx0 kVx0 dcx0 pmx0 cdx0 ctx0 : Value} (ax0 : PySem.W.nsIn K mainGlobals "_law_deck" = some (some (.ref f__law_deck))) (lx0 : K.lookup f__law_deck = some ⟨ocx0, odx0, .func (PySem.W.fnOf "_law_deck" "_law_deck" (defArgs s__law_deck) (defBody s__law_deck) (defScope s__law_deck) .none kVx0 dcx0 pmx0 anx0 cdx0 ctx0), slx0⟩) (ccx0 : PySem.W.codeIn K cdx0 "_law_deck" = true) (kx0 : PySem.W.keepIn K (.ref f__law_deck) = true)
    {f__law_draw : Addr} {odx1 anx1 : Option Addr} {slx1 : Array (Option Value)} {ocx1 kVx1 dcx1 pmx1 cdx1 ctx1 : Value} (ax1 : PySem.W.nsIn K mainGlobals "_law_draw" = some (some (.ref f__law_draw))) (lx1 : K.lookup f__law_draw = some ⟨ocx1, odx1, .func (PySem.W.fnOf "_law_draw" "_law_draw" (defArgs s__law_draw) (defBody s__law_draw) (defScope s__law_draw) .none kVx1 dcx1 pmx1 anx1 cdx1 ctx1), slx1⟩) (ccx1 : PySem.W.codeIn K cdx1 "_law_draw" = true) (kx1 : PySem.W.keepIn K (.ref f__law_draw) = true)
    {f__law_one : Addr} {odx2 anx2 : Option Addr} {slx2 : Array (Option Value)} {ocx2 kVx2 dcx2 pmx2 cdx2 ctx2 : Value} (ax2 : PySem.W.nsIn K mainGlobals "_law_one" = some (some (.ref f__law_one))) (lx2 : K.lookup f__law_one = some ⟨ocx2, odx2, .func (PySem.W.fnOf "_law_one" "_law_one" (defArgs s__law_one) (defBody s__law_one) (defScope s__law_one) .none kVx2 dcx2 pmx2 anx2 cdx2 ctx2), slx2⟩) (ccx2 : PySem.W.codeIn K cdx2 "_law_one" = true) (kx2 : PySem.W.keepIn K (.ref f__law_one) = true)
    {f__law_kind : Addr} {odx3 anx3 : Option Addr} {slx3 : Array (Option Value)} {ocx3 kVx3 dcx3 pmx3 cdx3 ctx3 : Value} (ax3 : PySem.W.nsIn K mainGlobals "_law_kind" = some (some (.ref f__law_kind))) (lx3 : K.lookup f__law_kind = some ⟨ocx3, odx3, .func (PySem.W.fnOf "_law_kind" "_law_kind" (defArgs s__law_kind) (defBody s__law_kind) (defScope s__law_kind) .none kVx3 dcx3 pmx3 anx3 cdx3 ctx3), slx3⟩) (ccx3 : PySem.W.codeIn K cdx3 "_law_kind" = true) (kx3 : PySem.W.keepIn K (.ref f__law_kind) = true)
    {f__law_line : Addr} {odx4 anx4 : Option Addr} {slx4 : Array (Option Value)} {ocx4 kVx4 dcx4 pmx4 cdx4 ctx4 : Value} (ax4 : PySem.W.nsIn K mainGlobals "_law_line" = some (some (.ref f__law_line))) (lx4 : K.lookup f__law_line = some ⟨ocx4, odx4, .func (PySem.W.fnOf "_law_line" "_law_line" (defArgs s__law_line) (defBody s__law_line) (defScope s__law_line) .none kVx4 dcx4 pmx4 anx4 cdx4 ctx4), slx4⟩) (ccx4 : PySem.W.codeIn K cdx4 "_law_line" = true) (kx4 : PySem.W.keepIn K (.ref f__law_line) = true)
    {f__law_rounds : Addr} {odx5 anx5 : Option Addr} {slx5 : Array (Option Value)} {ocx5 kVx5 dcx5 pmx5 cdx5 ctx5 : Value} (ax5 : PySem.W.nsIn K mainGlobals "_law_rounds" = some (some (.ref f__law_rounds))) (lx5 : K.lookup f__law_rounds = some ⟨ocx5, odx5, .func (PySem.W.fnOf "_law_rounds" "_law_rounds" (defArgs s__law_rounds) (defBody s__law_rounds) (defScope s__law_rounds) .none kVx5 dcx5 pmx5 anx5 cdx5 ctx5), slx5⟩) (ccx5 : PySem.W.codeIn K cdx5 "_law_rounds" = true) (kx5 : PySem.W.keepIn K (.ref f__law_rounds) = true)
    {f__law_form : Addr} {odx6 anx6 : Option Addr} {slx6 : Array (Option Value)} {ocx6 kVx6 dcx6 pmx6 cdx6 ctx6 : Value} (ax6 : PySem.W.nsIn K mainGlobals "_law_form" = some (some (.ref f__law_form))) (lx6 : K.lookup f__law_form = some ⟨ocx6, odx6, .func (PySem.W.fnOf "_law_form" "_law_form" (defArgs s__law_form) (defBody s__law_form) (defScope s__law_form) .none kVx6 dcx6 pmx6 anx6 cdx6 ctx6), slx6⟩) (ccx6 : PySem.W.codeIn K cdx6 "_law_form" = true) (kx6 : PySem.W.keepIn K (.ref f__law_form) = true)
    {f__law_word : Addr} {odx7 anx7 : Option Addr} {slx7 : Array (Option Value)} {ocx7 kVx7 dcx7 pmx7 cdx7 ctx7 : Value} (ax7 : PySem.W.nsIn K mainGlobals "_law_word" = some (some (.ref f__law_word))) (lx7 : K.lookup f__law_word = some ⟨ocx7, odx7, .func (PySem.W.fnOf "_law_word" "_law_word" (defArgs s__law_word) (defBody s__law_word) (defScope s__law_word) .none kVx7 dcx7 pmx7 anx7 cdx7 ctx7), slx7⟩) (ccx7 : PySem.W.codeIn K cdx7 "_law_word" = true) (kx7 : PySem.W.keepIn K (.ref f__law_word) = true)
    {f__law_layer : Addr} {odx8 anx8 : Option Addr} {slx8 : Array (Option Value)} {ocx8 kVx8 dcx8 pmx8 cdx8 ctx8 : Value} (ax8 : PySem.W.nsIn K mainGlobals "_law_layer" = some (some (.ref f__law_layer))) (lx8 : K.lookup f__law_layer = some ⟨ocx8, odx8, .func (PySem.W.fnOf "_law_layer" "_law_layer" (defArgs s__law_layer) (defBody s__law_layer) (defScope s__law_layer) .none kVx8 dcx8 pmx8 anx8 cdx8 ctx8), slx8⟩) (ccx8 : PySem.W.codeIn K cdx8 "_law_layer" = true) (kx8 : PySem.W.keepIn K (.ref f__law_layer) = true)
    {f__law_first_unlike : Addr} {odx9 anx9 : Option Addr} {slx9 : Array (Option Value)} {ocx9 kVx9 dcx9 pmx9 cdx9 ctx9 : Value} (ax9 : PySem.W.nsIn K mainGlobals "_law_first_unlike" = some (some (.ref f__law_first_unlike))) (lx9 : K.lookup f__law_first_unlike = some ⟨ocx9, odx9, .func (PySem.W.fnOf "_law_first_unlike" "_law_first_unlike" (defArgs s__law_first_unlike) (defBody s__law_first_unlike) (defScope s__law_first_unlike) .none kVx9 dcx9 pmx9 anx9 cdx9 ctx9), slx9⟩) (ccx9 : PySem.W.codeIn K cdx9 "_law_first_unlike" = true) (kx9 : PySem.W.keepIn K (.ref f__law_first_unlike) = true)
    {f_worth : Addr} {odx10 anx10 : Option Addr} {slx10 : Array (Option Value)} {ocx10 kVx10 dcx10 pmx10 cdx10 ctx10 : Value} (ax10 : PySem.W.nsIn K mainGlobals "worth" = some (some (.ref f_worth))) (lx10 : K.lookup f_worth = some ⟨ocx10, odx10, .func (PySem.W.fnOf "worth" "worth" (defArgs s_worth) (defBody s_worth) (defScope s_worth) .none kVx10 dcx10 pmx10 anx10 cdx10 ctx10), slx10⟩) (ccx10 : PySem.W.codeIn K cdx10 "worth" = true) (kx10 : PySem.W.keepIn K (.ref f_worth) = true)
    {f__law_worth : Addr} {odx11 anx11 : Option Addr} {slx11 : Array (Option Value)} {ocx11 kVx11 dcx11 pmx11 cdx11 ctx11 : Value} (ax11 : PySem.W.nsIn K mainGlobals "_law_worth" = some (some (.ref f__law_worth))) (lx11 : K.lookup f__law_worth = some ⟨ocx11, odx11, .func (PySem.W.fnOf "_law_worth" "_law_worth" (defArgs s__law_worth) (defBody s__law_worth) (defScope s__law_worth) .none kVx11 dcx11 pmx11 anx11 cdx11 ctx11), slx11⟩) (ccx11 : PySem.W.codeIn K cdx11 "_law_worth" = true) (kx11 : PySem.W.keepIn K (.ref f__law_worth) = true)
    {f_met_from : Addr} {odx12 anx12 : Option Addr} {slx12 : Array (Option Value)} {ocx12 kVx12 dcx12 pmx12 cdx12 ctx12 : Value} (ax12 : PySem.W.nsIn K mainGlobals "met_from" = some (some (.ref f_met_from))) (lx12 : K.lookup f_met_from = some ⟨ocx12, odx12, .func (PySem.W.fnOf "met_from" "met_from" (defArgs s_met_from) (defBody s_met_from) (defScope s_met_from) .none kVx12 dcx12 pmx12 anx12 cdx12 ctx12), slx12⟩) (ccx12 : PySem.W.codeIn K cdx12 "met_from" = true) (kx12 : PySem.W.keepIn K (.ref f_met_from) = true)
    {f_used : Addr} {odx13 anx13 : Option Addr} {slx13 : Array (Option Value)} {ocx13 kVx13 dcx13 pmx13 cdx13 ctx13 : Value} (ax13 : PySem.W.nsIn K mainGlobals "used" = some (some (.ref f_used))) (lx13 : K.lookup f_used = some ⟨ocx13, odx13, .func (PySem.W.fnOf "used" "used" (defArgs s_used) (defBody s_used) (defScope s_used) .none kVx13 dcx13 pmx13 anx13 cdx13 ctx13), slx13⟩) (ccx13 : PySem.W.codeIn K cdx13 "used" = true) (kx13 : PySem.W.keepIn K (.ref f_used) = true)
    {f_steps_of : Addr} {odx14 anx14 : Option Addr} {slx14 : Array (Option Value)} {ocx14 kVx14 dcx14 pmx14 cdx14 ctx14 : Value} (ax14 : PySem.W.nsIn K mainGlobals "steps_of" = some (some (.ref f_steps_of))) (lx14 : K.lookup f_steps_of = some ⟨ocx14, odx14, .func (PySem.W.fnOf "steps_of" "steps_of" (defArgs s_steps_of) (defBody s_steps_of) (defScope s_steps_of) .none kVx14 dcx14 pmx14 anx14 cdx14 ctx14), slx14⟩) (ccx14 : PySem.W.codeIn K cdx14 "steps_of" = true) (kx14 : PySem.W.keepIn K (.ref f_steps_of) = true)
    {f_is_nought : Addr} {odx15 anx15 : Option Addr} {slx15 : Array (Option Value)} {ocx15 kVx15 dcx15 pmx15 cdx15 ctx15 : Value} (ax15 : PySem.W.nsIn K mainGlobals "is_nought" = some (some (.ref f_is_nought))) (lx15 : K.lookup f_is_nought = some ⟨ocx15, odx15, .func (PySem.W.fnOf "is_nought" "is_nought" (defArgs s_is_nought) (defBody s_is_nought) (defScope s_is_nought) .none kVx15 dcx15 pmx15 anx15 cdx15 ctx15), slx15⟩) (ccx15 : PySem.W.codeIn K cdx15 "is_nought" = true) (kx15 : PySem.W.keepIn K (.ref f_is_nought) = true)
    {f_wrong_words : Addr} {odx16 anx16 : Option Addr} {slx16 : Array (Option Value)} {ocx16 kVx16 dcx16 pmx16 cdx16 ctx16 : Value} (ax16 : PySem.W.nsIn K mainGlobals "wrong_words" = some (some (.ref f_wrong_words))) (lx16 : K.lookup f_wrong_words = some ⟨ocx16, odx16, .func (PySem.W.fnOf "wrong_words" "wrong_words" (defArgs s_wrong_words) (defBody s_wrong_words) (defScope s_wrong_words) .none kVx16 dcx16 pmx16 anx16 cdx16 ctx16), slx16⟩) (ccx16 : PySem.W.codeIn K cdx16 "wrong_words" = true) (kx16 : PySem.W.keepIn K (.ref f_wrong_words) = true)
    {f_added : Addr} {odx17 anx17 : Option Addr} {slx17 : Array (Option Value)} {ocx17 kVx17 dcx17 pmx17 cdx17 ctx17 : Value} (ax17 : PySem.W.nsIn K mainGlobals "added" = some (some (.ref f_added))) (lx17 : K.lookup f_added = some ⟨ocx17, odx17, .func (PySem.W.fnOf "added" "added" (defArgs s_added) (defBody s_added) (defScope s_added) .none kVx17 dcx17 pmx17 anx17 cdx17 ctx17), slx17⟩) (ccx17 : PySem.W.codeIn K cdx17 "added" = true) (kx17 : PySem.W.keepIn K (.ref f_added) = true)
    {f_next_worths : Addr} {odx18 anx18 : Option Addr} {slx18 : Array (Option Value)} {ocx18 kVx18 dcx18 pmx18 cdx18 ctx18 : Value} (ax18 : PySem.W.nsIn K mainGlobals "next_worths" = some (some (.ref f_next_worths))) (lx18 : K.lookup f_next_worths = some ⟨ocx18, odx18, .func (PySem.W.fnOf "next_worths" "next_worths" (defArgs s_next_worths) (defBody s_next_worths) (defScope s_next_worths) .none kVx18 dcx18 pmx18 anx18 cdx18 ctx18), slx18⟩) (ccx18 : PySem.W.codeIn K cdx18 "next_worths" = true) (kx18 : PySem.W.keepIn K (.ref f_next_worths) = true)
    {f_unlike : Addr} {odx19 anx19 : Option Addr} {slx19 : Array (Option Value)} {ocx19 kVx19 dcx19 pmx19 cdx19 ctx19 : Value} (ax19 : PySem.W.nsIn K mainGlobals "unlike" = some (some (.ref f_unlike))) (lx19 : K.lookup f_unlike = some ⟨ocx19, odx19, .func (PySem.W.fnOf "unlike" "unlike" (defArgs s_unlike) (defBody s_unlike) (defScope s_unlike) .none kVx19 dcx19 pmx19 anx19 cdx19 ctx19), slx19⟩) (ccx19 : PySem.W.codeIn K cdx19 "unlike" = true) (kx19 : PySem.W.keepIn K (.ref f_unlike) = true)
    {f_law : Addr} {odx20 anx20 : Option Addr} {slx20 : Array (Option Value)} {ocx20 kVx20 dcx20 pmx20 cdx20 ctx20 : Value} (ax20 : PySem.W.nsIn K mainGlobals "law" = some (some (.ref f_law))) (lx20 : K.lookup f_law = some ⟨ocx20, odx20, .func (PySem.W.fnOf "law" "law" (defArgs s_law) (defBody s_law) (defScope s_law) .none kVx20 dcx20 pmx20 anx20 cdx20 ctx20), slx20⟩) (ccx20 : PySem.W.codeIn K cdx20 "law" = true) (kx20 : PySem.W.keepIn K (.ref f_law) = true)
    (z_n_len : PySem.W.nsIn K mainGlobals "len" = some none)
    (z_n_range : PySem.W.nsIn K mainGlobals "range" = some none)
    (z_n_tuple : PySem.W.nsIn K mainGlobals "tuple" = some none)
    (z_n_sorted : PySem.W.nsIn K mainGlobals "sorted" = some none)
    (z_n_list : PySem.W.nsIn K mainGlobals "list" = some none)
    (z_n_sum : PySem.W.nsIn K mainGlobals "sum" = some none)
    {t_c_LETTERS : Tok} (z_c_LETTERS : PySem.W.nsIn K mainGlobals "LETTERS" = some (some (.str "abcd" t_c_LETTERS)))
    (z_n_enumerate : PySem.W.nsIn K mainGlobals "enumerate" = some none)
    (z_n_zip : PySem.W.nsIn K mainGlobals "zip" = some none)
    (z_n_min : PySem.W.nsIn K mainGlobals "min" = some none)
    (z_n_repr : PySem.W.nsIn K mainGlobals "repr" = some none)
    (z_n_int : PySem.W.nsIn K mainGlobals "int" = some none)
    (z_n_abs : PySem.W.nsIn K mainGlobals "abs" = some none) :
    ∃ fd : FuncData, (∀ (s : Shared) (v : Value), BindsTo s fd ⟨[v], []⟩ [("_law_script", v)]) ∧ ∀ base : Heap, K.In base → base.Ns mainGlobals mg → FnG l.prog w K mg base 5 fa fd ["_law_script"] (spLaw K) := by
  have e := hfa.symm.trans (PySem.W.mg_of X G ax20)
  cases e
  have T : Txt K mg := ⟨PySem.W.mg_none_of X G z_n_len, PySem.W.mg_none_of X G z_n_range, PySem.W.mg_none_of X G z_n_tuple, PySem.W.mg_none_of X G z_n_sorted, PySem.W.mg_none_of X G z_n_list, PySem.W.mg_none_of X G z_n_sum, ⟨_, PySem.W.mg_of X G z_c_LETTERS⟩, PySem.W.mg_none_of X G z_n_enumerate, PySem.W.mg_none_of X G z_n_zip, PySem.W.mg_none_of X G z_n_min, PySem.W.mg_none_of X G z_n_repr, PySem.W.mg_none_of X G z_n_int, PySem.W.mg_none_of X G z_n_abs⟩
  refine ⟨PySem.W.fnOf "law" "law" (defArgs s_law) (defBody s_law) (defScope s_law) .none kVx20 dcx20 pmx20 anx20 cdx20 ctx20, fun s v => .of_eq rfl, fun base _ _ => ?_⟩
  have F__law_deck := fun_mk (st := s__law_deck) lx0 ccx0 kx0
  have b__law_deck := F__law_deck.binds (ps := ["_law_script"]) fun _ _ _ _ _ _ us hl => match us, hl with | [_], _ => rfl
  have C__law_deck : Cal l.prog w K mg base 1 "_law_deck" ["_law_script"] (spDeck K) := ⟨_, _, ok__law_deck T F__law_deck , PySem.W.mg_of X G ax0, F__law_deck.kp, b__law_deck⟩
  have F__law_draw := fun_mk (st := s__law_draw) lx1 ccx1 kx1
  have b__law_draw := F__law_draw.binds (ps := ["_law_deck_here", "_law_many"]) fun _ _ _ _ _ _ us hl => match us, hl with | [_, _], _ => rfl
  have C__law_draw : Cal l.prog w K mg base 1 "_law_draw" ["_law_deck_here", "_law_many"] (spD K 2 m__law_draw) := ⟨_, _, ok__law_draw T F__law_draw , PySem.W.mg_of X G ax1, F__law_draw.kp, b__law_draw⟩
  have F__law_one := fun_mk (st := s__law_one) lx2 ccx2 kx2
  have b__law_one := F__law_one.binds (ps := ["_law_deck_here", "_law_items"]) fun _ _ _ _ _ _ us hl => match us, hl with | [_, _], _ => rfl
  have C__law_one : Cal l.prog w K mg base 2 "_law_one" ["_law_deck_here", "_law_items"] (spD K 2 m__law_one) := ⟨_, _, ok__law_one T F__law_one C__law_draw, PySem.W.mg_of X G ax2, F__law_one.kp, b__law_one⟩
  have F__law_kind := fun_mk (st := s__law_kind) lx3 ccx3 kx3
  have b__law_kind := F__law_kind.binds (ps := ["_law_deck_here", "_law_letters", "_law_many"]) fun _ _ _ _ _ _ us hl => match us, hl with | [_, _, _], _ => rfl
  have C__law_kind : Cal l.prog w K mg base 3 "_law_kind" ["_law_deck_here", "_law_letters", "_law_many"] (spD K 3 m__law_kind) := ⟨_, _, ok__law_kind T F__law_kind C__law_one C__law_draw, PySem.W.mg_of X G ax3, F__law_kind.kp, b__law_kind⟩
  have F__law_line := fun_mk (st := s__law_line) lx4 ccx4 kx4
  have b__law_line := F__law_line.binds (ps := ["_law_deck_here", "_law_letters", "_law_many"]) fun _ _ _ _ _ _ us hl => match us, hl with | [_, _, _], _ => rfl
  have C__law_line : Cal l.prog w K mg base 2 "_law_line" ["_law_deck_here", "_law_letters", "_law_many"] (spD K 3 m__law_line) := ⟨_, _, ok__law_line T F__law_line C__law_draw, PySem.W.mg_of X G ax4, F__law_line.kp, b__law_line⟩
  have F__law_rounds := fun_mk (st := s__law_rounds) lx5 ccx5 kx5
  have b__law_rounds := F__law_rounds.binds (ps := ["_law_deck_here", "_law_letters"]) fun _ _ _ _ _ _ us hl => match us, hl with | [_, _], _ => rfl
  have C__law_rounds : Cal l.prog w K mg base 1 "_law_rounds" ["_law_deck_here", "_law_letters"] (spD K 2 m__law_rounds) := ⟨_, _, ok__law_rounds T F__law_rounds , PySem.W.mg_of X G ax5, F__law_rounds.kp, b__law_rounds⟩
  have F__law_form := fun_mk (st := s__law_form) lx6 ccx6 kx6
  have b__law_form := F__law_form.binds (ps := ["_law_deck_here", "_law_letters"]) fun _ _ _ _ _ _ us hl => match us, hl with | [_, _], _ => rfl
  have C__law_form : Cal l.prog w K mg base 3 "_law_form" ["_law_deck_here", "_law_letters"] (spD K 2 m__law_form) := ⟨_, _, ok__law_form T F__law_form C__law_one C__law_draw, PySem.W.mg_of X G ax6, F__law_form.kp, b__law_form⟩
  have F__law_word := fun_mk (st := s__law_word) lx7 ccx7 kx7
  have b__law_word := F__law_word.binds (ps := ["_law_deck_here", "_law_letters", "_law_most"]) fun _ _ _ _ _ _ us hl => match us, hl with | [_, _, _], _ => rfl
  have C__law_word : Cal l.prog w K mg base 3 "_law_word" ["_law_deck_here", "_law_letters", "_law_most"] (spD K 3 m__law_word) := ⟨_, _, ok__law_word T F__law_word C__law_draw C__law_one, PySem.W.mg_of X G ax7, F__law_word.kp, b__law_word⟩
  have F__law_layer := fun_mk (st := s__law_layer) lx8 ccx8 kx8
  have b__law_layer := F__law_layer.binds (ps := ["_law_kind_here", "_law_gaps", "_law_layer_here"]) fun _ _ _ _ _ _ us hl => match us, hl with | [_, _, _], _ => rfl
  have C__law_layer : Cal l.prog w K mg base 1 "_law_layer" ["_law_kind_here", "_law_gaps", "_law_layer_here"] (spD K 3 m__law_layer) := ⟨_, _, ok__law_layer T F__law_layer , PySem.W.mg_of X G ax8, F__law_layer.kp, b__law_layer⟩
  have F__law_first_unlike := fun_mk (st := s__law_first_unlike) lx9 ccx9 kx9
  have b__law_first_unlike := F__law_first_unlike.binds (ps := ["_law_kind_here", "_law_one_here", "_law_other"]) fun _ _ _ _ _ _ us hl => match us, hl with | [_, _, _], _ => rfl
  have C__law_first_unlike : Cal l.prog w K mg base 2 "_law_first_unlike" ["_law_kind_here", "_law_one_here", "_law_other"] (spD K 3 m__law_first_unlike) := ⟨_, _, ok__law_first_unlike T F__law_first_unlike C__law_layer, PySem.W.mg_of X G ax9, F__law_first_unlike.kp, b__law_first_unlike⟩
  have F_worth := fun_mk (st := s_worth) lx10 ccx10 kx10
  have b_worth := F_worth.binds (ps := ["form", "word"]) fun _ _ _ _ _ _ us hl => match us, hl with | [_, _], _ => rfl
  have C_worth : Cal l.prog w K mg base 1 "worth" ["form", "word"] (spD K 2 m_worth) := ⟨_, _, ok_worth T F_worth , PySem.W.mg_of X G ax10, F_worth.kp, b_worth⟩
  have F__law_worth := fun_mk (st := s__law_worth) lx11 ccx11 kx11
  have b__law_worth := F__law_worth.binds (ps := ["_law_form_here", "_law_word_here"]) fun _ _ _ _ _ _ us hl => match us, hl with | [_, _], _ => rfl
  have C__law_worth : Cal l.prog w K mg base 1 "_law_worth" ["_law_form_here", "_law_word_here"] (spD K 2 m__law_worth) := ⟨_, _, ok__law_worth T F__law_worth , PySem.W.mg_of X G ax11, F__law_worth.kp, b__law_worth⟩
  have F_met_from := fun_mk (st := s_met_from) lx12 ccx12 kx12
  have b_met_from := F_met_from.binds (ps := ["nexts", "states"]) fun _ _ _ _ _ _ us hl => match us, hl with | [_, _], _ => rfl
  have C_met_from : Cal l.prog w K mg base 1 "met_from" ["nexts", "states"] (spD K 2 m_met_from) := ⟨_, _, ok_met_from T F_met_from , PySem.W.mg_of X G ax12, F_met_from.kp, b_met_from⟩
  have F_used := fun_mk (st := s_used) lx13 ccx13 kx13
  have b_used := F_used.binds (ps := ["kind"]) fun _ _ _ _ _ _ us hl => match us, hl with | [_], _ => rfl
  have C_used : Cal l.prog w K mg base 2 "used" ["kind"] (spD K 1 m_used) := ⟨_, _, ok_used T F_used C_met_from, PySem.W.mg_of X G ax13, F_used.kp, b_used⟩
  have F_steps_of := fun_mk (st := s_steps_of) lx14 ccx14 kx14
  have b_steps_of := F_steps_of.binds (ps := ["kind"]) fun _ _ _ _ _ _ us hl => match us, hl with | [_], _ => rfl
  have C_steps_of : Cal l.prog w K mg base 3 "steps_of" ["kind"] (spD K 1 m_steps_of) := ⟨_, _, ok_steps_of T F_steps_of C_used, PySem.W.mg_of X G ax14, F_steps_of.kp, b_steps_of⟩
  have F_is_nought := fun_mk (st := s_is_nought) lx15 ccx15 kx15
  have b_is_nought := F_is_nought.binds (ps := ["kind", "steps", "form"]) fun _ _ _ _ _ _ us hl => match us, hl with | [_, _, _], _ => rfl
  have C_is_nought : Cal l.prog w K mg base 1 "is_nought" ["kind", "steps", "form"] (spD K 3 m_is_nought) := ⟨_, _, ok_is_nought T F_is_nought , PySem.W.mg_of X G ax15, F_is_nought.kp, b_is_nought⟩
  have F_wrong_words := fun_mk (st := s_wrong_words) lx16 ccx16 kx16
  have b_wrong_words := F_wrong_words.binds (ps := ["kind", "layer"]) fun _ _ _ _ _ _ us hl => match us, hl with | [_, _], _ => rfl
  have C_wrong_words : Cal l.prog w K mg base 1 "wrong_words" ["kind", "layer"] (spD K 2 m_wrong_words) := ⟨_, _, ok_wrong_words T F_wrong_words , PySem.W.mg_of X G ax16, F_wrong_words.kp, b_wrong_words⟩
  have F_added := fun_mk (st := s_added) lx17 ccx17 kx17
  have b_added := F_added.binds (ps := ["one", "other"]) fun _ _ _ _ _ _ us hl => match us, hl with | [_, _], _ => rfl
  have C_added : Cal l.prog w K mg base 1 "added" ["one", "other"] (spD K 2 m_added) := ⟨_, _, ok_added T F_added , PySem.W.mg_of X G ax17, F_added.kp, b_added⟩
  have F_next_worths := fun_mk (st := s_next_worths) lx18 ccx18 kx18
  have b_next_worths := F_next_worths.binds (ps := ["steps", "form", "layer"]) fun _ _ _ _ _ _ us hl => match us, hl with | [_, _, _], _ => rfl
  have C_next_worths : Cal l.prog w K mg base 2 "next_worths" ["steps", "form", "layer"] (spD K 3 m_next_worths) := ⟨_, _, ok_next_worths T F_next_worths C_added, PySem.W.mg_of X G ax18, F_next_worths.kp, b_next_worths⟩
  have F_unlike := fun_mk (st := s_unlike) lx19 ccx19 kx19
  have b_unlike := F_unlike.binds (ps := ["kind", "one", "other"]) fun _ _ _ _ _ _ us hl => match us, hl with | [_, _, _], _ => rfl
  have C_unlike : Cal l.prog w K mg base 4 "unlike" ["kind", "one", "other"] (spD K 3 m_unlike) := ⟨_, _, ok_unlike T F_unlike C_steps_of C_is_nought C_wrong_words C_next_worths, PySem.W.mg_of X G ax19, F_unlike.kp, b_unlike⟩
  have F_law := fun_mk (st := s_law) lx20 ccx20 kx20
  exact ok_law T F_law C__law_deck C__law_draw C__law_kind C__law_line C__law_rounds C__law_form C__law_first_unlike C_unlike C__law_word C_worth C__law_worth hb
end Lw

set_option Elab.async false
set_option linter.all false
set_option maxRecDepth 100000
set_option maxHeartbeats 1000000
namespace Lw
open PySem MD L2
/-! ### what is met from some states -/
inductive Rc (nx : Nat → List Nat) (S : List Nat) : Nat → Prop
  | base {s : Nat} : s ∈ S → Rc nx S s
  | step {s t : Nat} : Rc nx S s → t ∈ nx s → Rc nx S t
def addS : List Nat → List Nat → List Nat → List Nat × List Nat
  | F, W, [] => (F, W)
  | F, W, x :: xs => if x ∈ F then addS F W xs else addS (F ++ [x]) (W ++ [x]) xs
theorem addS_spec (xs : List Nat) : ∀ (F W : List Nat), ∃ new, addS F W xs = (F ++ new, W ++ new) ∧ (∀ x ∈ xs, x ∈ F ++ new) ∧ (∀ y ∈ new, y ∈ xs) ∧ (F.Nodup → (F ++ new).Nodup) := by
  induction xs with
  | nil => intro F W; exact ⟨[], by simp [addS], by simp, by simp, by simp⟩
  | cons x xs ih =>
    intro F W
    by_cases h : x ∈ F
    · obtain ⟨new, e, h1, h2, h3⟩ := ih F W
      refine ⟨new, by rw [addS, if_pos h, e], fun y hy => ?_, fun y hy => List.mem_cons_of_mem _ (h2 y hy), h3⟩
      rcases List.mem_cons.mp hy with rfl | z
      · exact List.mem_append_left _ h
      · exact h1 y z
    · obtain ⟨new, e, h1, h2, h3⟩ := ih (F ++ [x]) (W ++ [x])
      refine ⟨x :: new, by rw [addS, if_neg h, e]; simp, fun y hy => ?_, fun y hy => ?_, fun hn => ?_⟩
      · rcases List.mem_cons.mp hy with rfl | z
        · simp
        · have := h1 y z; simpa using this
      · rcases List.mem_cons.mp hy with rfl | z
        · simp
        · exact List.mem_cons_of_mem _ (h2 y z)
      · have : (F ++ [x]).Nodup := by
          rw [List.nodup_append]
          refine ⟨hn, by simp, fun a ha b hb => ?_⟩
          rw [List.mem_singleton.mp hb]
          exact fun z => h (z ▸ ha)
        have := h3 this
        simpa using this
structure MetI (nx : Nat → List Nat) (m : Nat) (S F W : List Nat) : Prop where
  nd : F.Nodup
  lt : ∀ f ∈ F, f < m
  rc : ∀ f ∈ F, Rc nx S f
  sub : ∀ s ∈ S, s ∈ F
  wf : ∀ w ∈ W, w ∈ F
  cl : ∀ f ∈ F, f ∉ W → ∀ t ∈ nx f, t ∈ F
theorem nodup_le {m : Nat} : ∀ {F : List Nat}, F.Nodup → (∀ f ∈ F, f < m) → F.length ≤ m := by
  induction m with
  | zero =>
    intro F _ hl
    cases F with
    | nil => simp
    | cons a F => exact absurd (hl a List.mem_cons_self) (by omega)
  | succ m ih =>
    intro F hn hl
    have h1 := ih (hn.erase m) fun f hf => by
      obtain ⟨h2, h3⟩ := (List.Nodup.mem_erase_iff hn).mp hf
      have := hl f h3
      omega
    have h2 := List.length_erase (a := m) (l := F)
    split at h2 <;> omega
theorem MetI.next {nx : Nat → List Nat} {m : Nat} {S F W : List Nat} {s : Nat} (hx : ∀ s, s < m → ∀ t ∈ nx s, t < m) (h : MetI nx m S F (W ++ [s])) : ∃ new, addS F W (nx s) = (F ++ new, W ++ new) ∧ MetI nx m S (F ++ new) (W ++ new) := by
  obtain ⟨new, e, h1, h2, h3⟩ := addS_spec (nx s) F W
  have hs : s ∈ F := h.wf s (by simp)
  refine ⟨new, e, h3 h.nd, fun f hf => ?_, fun f hf => ?_, fun f hf => List.mem_append_left _ (h.sub f hf), fun w hw => ?_, fun f hf hw t ht => ?_⟩
  · rcases List.mem_append.mp hf with z | z
    · exact h.lt f z
    · exact hx s (h.lt s hs) f (h2 f z)
  · rcases List.mem_append.mp hf with z | z
    · exact h.rc f z
    · exact .step (h.rc s hs) (h2 f z)
  · rcases List.mem_append.mp hw with z | z
    · exact List.mem_append_left _ (h.wf w (List.mem_append_left _ z))
    · exact List.mem_append_right _ z
  · rcases List.mem_append.mp hf with z | z
    · by_cases he : f = s
      · subst he; exact h1 t ht
      · refine List.mem_append_left _ (h.cl f z (fun zz => ?_) t ht)
        rcases List.mem_append.mp zz with y | y
        · exact hw (List.mem_append_left _ y)
        · exact he (List.mem_singleton.mp y)
    · exact absurd (List.mem_append_right _ z) hw
theorem MetI.done {nx : Nat → List Nat} {m : Nat} {S F : List Nat} (h : MetI nx m S F []) (x : Nat) : x ∈ F ↔ Rc nx S x := by
  refine ⟨h.rc x, fun r => ?_⟩
  induction r with
  | base hs => exact h.sub _ hs
  | step _ ht ih => exact h.cl _ ih (by simp) _ ht
end Lw

set_option Elab.async false
set_option linter.all false
set_option maxRecDepth 100000
set_option maxHeartbeats 1000000
namespace Lw
open PySem MD L2
def trs (F : List Nat) : List D := F.map fun _ => D.bl true
abbrev fD (F : List Nat) : Sl := .own (.dic (tKs F), trs F)
theorem ad_put (st : S) (o o' : Ob) : (st.ad o).put st.ob.length o' = st.ad o' := by
  unfold S.ad S.put
  simp
theorem ad_lst (st : S) (ds : List D) : lstAt (st.ad (.lst ds)) st.ob.length = some ds := lstAt_of ad_at'
theorem ad_dr (st : S) (ds : List D) : dr (st.ad (.lst ds)) (.ref st.ob.length) = .lst ds := dr_at ad_at'
theorem ad_old {st : S} {k : Nat} {o o' : Ob} (h : st.ob[k]? = some o) : (st.ad o').ob[k]? = some o := by
  show (st.ob ++ [o'])[k]? = _
  have hl : k < st.ob.length := by
    rcases Nat.lt_or_ge k st.ob.length with z | z
    · exact z
    · rw [List.getElem?_eq_none z] at h; cases h
  rw [List.getElem?_append_left hl, h]
theorem fD_has (F : List Nat) (x : Nat) : (getK (tKs F) (trs F) (nK x)).isSome = decide (x ∈ F) := by
  rw [getK_n F (trs F) (by simp [trs])]
  by_cases h : x ∈ F
  · rw [if_pos h]
    unfold trs
    rw [List.getElem?_map, List.getElem?_eq_getElem (List.idxOf_lt_length_iff.mpr h)]
    simp [h]
  · rw [if_neg h]; simp [h]
theorem putK_new {F : List Nat} {x : Nat} (h : x ∉ F) : putKs (tKs F) (nK x) = tKs (F ++ [x]) ∧ putVs (tKs F) (trs F) (nK x) (.bl true) = trs (F ++ [x]) := by
  constructor
  · unfold putKs
    rw [hasK_n, decide_eq_false h]
    simp
  · unfold putVs
    rw [hasK_n, decide_eq_false h]
    simp [trs]
noncomputable def mfB : MS := (ifS (tstM (opM (cntD true) (rd 4) (rdW 2)))
 (seqM (dputM 2 (rd 4) (cst (.bl true)))
 (sappM (rd 3) (rd 4)))
 nxM)
theorem mf_turn (st : S) (x0 x1 x5 : Sl) (F W : List Nat) (x : Nat) (hF : F.length ≤ 1000) (hW : W.length ≤ 1000) :
    mfB [x0, x1, fD F, .val (.ref st.ob.length), .val (nD x), x5] (st.ad (.lst (tN W))) =
      some (.nx [x0, x1, fD (addS F W [x]).1, .val (.ref st.ob.length), .val (nD x), x5], st.ad (.lst (tN (addS F W [x]).2))) := by
  by_cases h : x ∈ F
  · have e := fD_has F x
    rw [decide_eq_true h] at e
    have ea : addS F W [x] = (F, W) := by rw [addS, if_pos h]; rfl
    rw [ea]
    unfold mfB
    obtain ⟨v, hv⟩ := Option.isSome_iff_exists.mp e
    simp [hv]
  · have e := fD_has F x
    rw [decide_eq_false h] at e
    have ea : addS F W [x] = (F ++ [x], W ++ [x]) := by rw [addS, if_neg h]; rfl
    rw [ea]
    unfold mfB
    have hl : (trs F).length + 1 ≤ 1000000 := by simp [trs]; omega
    have hp := ad_put st (.lst (tN W)) (.lst (tN W ++ [nD x]))
    have hv : getK (tKs F) (trs F) (nK x) = none := by simpa using e
    simp [hv, grd_of hl, putK_new h, ad_lst, grd_of (show W.length + 1 ≤ 1000000 by omega)]
    exact hp
theorem addS_cons (F W : List Nat) (x : Nat) (xs : List Nat) : addS F W (x :: xs) = addS (addS F W [x]).1 (addS F W [x]).2 xs := by
  by_cases h : x ∈ F
  · simp [addS, h]
  · simp [addS, h]
theorem addS1_len (F W : List Nat) (x : Nat) : (addS F W [x]).1.length ≤ F.length + 1 ∧ (addS F W [x]).2.length ≤ W.length + 1 := by
  by_cases h : x ∈ F
  · simp [addS, h]
  · simp [addS, h]
theorem mf_for (st : S) (x0 x1 x5 : Sl) (xs : List Nat) : ∀ (F W : List Nat) (x4 : Sl), F.length + xs.length ≤ 1000 → W.length + xs.length ≤ 1000 →
    ∃ y4, forL (nameT 4) mfB (tN xs) [x0, x1, fD F, .val (.ref st.ob.length), x4, x5] (st.ad (.lst (tN W))) = some (.nx [x0, x1, fD (addS F W xs).1, .val (.ref st.ob.length), y4, x5], st.ad (.lst (tN (addS F W xs).2))) := by
  induction xs with
  | nil => intro F W x4 _ _; exact ⟨x4, rfl⟩
  | cons x xs ih =>
    intro F W x4 hF hW
    simp only [List.length_cons] at hF hW
    have hl := addS1_len F W x
    obtain ⟨y4, e⟩ := ih (addS F W [x]).1 (addS F W [x]).2 (.val (nD x)) (by omega) (by omega)
    refine ⟨y4, ?_⟩
    rw [show tN (x :: xs) = nD x :: tN xs from rfl, v_forL]
    simp only [v_nameT, Option.bind_some, List.set_cons_succ, List.set_cons_zero]
    rw [mf_turn st x0 x1 x5 F W x (by omega) (by omega), addS_cons F W x xs]
    exact e
theorem forLc_cons {n : Nat} {ds0 : List D} {t : MG} {b : MS} {d : D} {ds : List D} {env : Sg} {st : S} (h : lstAt st n = some ds0) : forLc n ds0 t b (d :: ds) env st = ((t d env).bind fun env1 => (b env1 st).bind fun p => match p.1 with
    | .nx e => forLc n ds0 t b ds e p.2
    | .ct e => forLc n ds0 t b ds e p.2
    | .bk e => some (.nx e, p.2)
    | .rt r => some (.rt r, p.2)) := by
  rw [forLc]
  unfold cif
  rw [if_pos h]
  all_goals rfl
theorem forLc_nil {n : Nat} {ds0 : List D} {t : MG} {b : MS} {env : Sg} {st : S} (h : lstAt st n = some ds0) : forLc n ds0 t b [] env st = some (.nx env, st) := by
  rw [forLc]
  unfold cif
  rw [if_pos h]
theorem mf_forc (st : S) (k : Nat) (ds0 : List D) (hk : st.ob[k]? = some (.lst ds0)) (x0 x1 x5 : Sl) (xs : List Nat) : ∀ (F W : List Nat) (x4 : Sl), F.length + xs.length ≤ 1000 → W.length + xs.length ≤ 1000 →
    ∃ y4, forLc k ds0 (nameT 4) mfB (tN xs) [x0, x1, fD F, .val (.ref st.ob.length), x4, x5] (st.ad (.lst (tN W))) = some (.nx [x0, x1, fD (addS F W xs).1, .val (.ref st.ob.length), y4, x5], st.ad (.lst (tN (addS F W xs).2))) := by
  induction xs with
  | nil => intro F W x4 _ _; exact ⟨x4, forLc_nil (lstAt_of (ad_old hk))⟩
  | cons x xs ih =>
    intro F W x4 hF hW
    simp only [List.length_cons] at hF hW
    have hl := addS1_len F W x
    obtain ⟨y4, e⟩ := ih (addS F W [x]).1 (addS F W [x]).2 (.val (nD x)) (by omega) (by omega)
    refine ⟨y4, ?_⟩
    rw [show tN (x :: xs) = nD x :: tN xs from rfl, forLc_cons (lstAt_of (ad_old hk))]
    simp only [v_nameT, Option.bind_some, List.set_cons_succ, List.set_cons_zero]
    rw [mf_turn st x0 x1 x5 F W x (by omega) (by omega), addS_cons F W x xs]
    exact e
/-- the next states, frozen or in the store -/
def NxOk (ob : List Ob) (ns : List D) (nx : Nat → List Nat) (m : Nat) : Prop :=
  ∀ s, s < m → ns[s]? = some (.lst (tN (nx s))) ∨ ∃ k, ns[s]? = some (.ref k) ∧ ob[k]? = some (.lst (tN (nx s)))
noncomputable def mfW : MS := (forR (opM subD (rd 0) (spopM (rd 3))) (nameT 4) mfB)
theorem mf_step {st : S} {ns : List D} {nx : Nat → List Nat} {m : Nat} (hN : NxOk st.ob ns nx m) (x1 x4 x5 : Sl) (F W : List Nat) (s : Nat) (hs : s < m) (hF : F.length + (nx s).length ≤ 1000) (hW : W.length + (nx s).length ≤ 1000) :
    ∃ y4, mfW [.val (.lst ns), x1, fD F, .val (.ref st.ob.length), x4, x5] (st.ad (.lst (tN (W ++ [s])))) = some (.nx [.val (.lst ns), x1, fD (addS F W (nx s)).1, .val (.ref st.ob.length), y4, x5], st.ad (.lst (tN (addS F W (nx s)).2))) := by
  have hpop : spopM (rd 3) [.val (.lst ns), x1, fD F, .val (.ref st.ob.length), x4, x5] (st.ad (.lst (tN (W ++ [s])))) = some (nD s, st.ad (.lst (tN W))) := by
    have hp := ad_put st (.lst (tN (W ++ [s]))) (.lst (tN W))
    simp [ad_lst]
    simpa using hp
  rcases hN s hs with h | ⟨k, h, hk⟩
  · obtain ⟨y4, e⟩ := mf_for st (.val (.lst ns)) x1 x5 (nx s) F W x4 hF hW
    refine ⟨y4, ?_⟩
    have ea : opM subD (rd 0) (spopM (rd 3)) [.val (.lst ns), x1, fD F, .val (.ref st.ob.length), x4, x5] (st.ad (.lst (tN (W ++ [s])))) = some (.lst (tN (nx s)), st.ad (.lst (tN W))) := by
      generalize spopM (rd 3) = P at hpop
      generalize st.ad (.lst (tN (W ++ [s]))) = SA at hpop ⊢
      have hat : atI ns ((s : Nat) : Int) = some (.lst (tN (nx s))) := atI_of h
      simp [hpop, hat]
    unfold mfW forR
    rw [ea]
    exact e
  · obtain ⟨y4, e⟩ := mf_forc st k _ hk (.val (.lst ns)) x1 x5 (nx s) F W x4 hF hW
    refine ⟨y4, ?_⟩
    have ea : opM subD (rd 0) (spopM (rd 3)) [.val (.lst ns), x1, fD F, .val (.ref st.ob.length), x4, x5] (st.ad (.lst (tN (W ++ [s])))) = some (.ref k, st.ad (.lst (tN W))) := by
      generalize spopM (rd 3) = P at hpop
      generalize st.ad (.lst (tN (W ++ [s]))) = SA at hpop ⊢
      have hat : atI ns ((s : Nat) : Int) = some (.ref k) := atI_of h
      simp [hpop, hat]
    unfold mfW forR
    rw [ea]
    show (lstAt _ k).bind _ = _
    rw [lstAt_of (ad_old hk)]
    exact e
noncomputable def mfC : MT := (tstM (opM neM (rd 3) (frz (lstM aNil))))
theorem mf_loop {st : S} {ns : List D} {nx : Nat → List Nat} {m : Nat} (hm : m ≤ 100) (hN : NxOk st.ob ns nx m) (hx : ∀ s, s < m → ∀ t ∈ nx s, t < m) (hl : ∀ s, s < m → (nx s).length ≤ 100) {S0 : List Nat} (x1 x5 : Sl) (j : Nat) : ∀ (F W : List Nat) (x4 : Sl), MetI nx m S0 F W → W.length + (m - F.length) = j → W.length ≤ F.length →
    ∃ F' y4, whF mfC mfW (j + 1) [.val (.lst ns), x1, fD F, .val (.ref st.ob.length), x4, x5] (st.ad (.lst (tN W))) = some (.nx [.val (.lst ns), x1, fD F', .val (.ref st.ob.length), y4, x5], st.ad (.lst [])) ∧ MetI nx m S0 F' [] := by
  induction j with
  | zero =>
    intro F W x4 h hj hw
    have : W = [] := List.eq_nil_of_length_eq_zero (by omega)
    subst this
    refine ⟨F, x4, ?_, h⟩
    have h2 := ne_nats []
    simp at h2
    unfold whF
    simp [mfC, ad_dr, grd_of (show 0 ≤ 1000000 by decide), h2]
  | succ j ih =>
    intro F W x4 h hj hw
    have hFm := nodup_le h.nd h.lt
    rcases List.eq_nil_or_concat W with rfl | ⟨W0, s, rfl⟩
    · refine ⟨F, x4, ?_, h⟩
      have h2 := ne_nats []
      simp at h2
      unfold whF
      simp [mfC, ad_dr, grd_of (show 0 ≤ 1000000 by decide), h2]
    · rw [List.concat_eq_append] at *
      have hs : s < m := h.lt s (h.wf s (by simp))
      obtain ⟨new, ea, hI⟩ := h.next hx
      have hn2 := nodup_le hI.nd hI.lt
      rw [List.length_append] at hn2
      simp only [List.length_append, List.length_singleton] at hj hw
      have hnl := hl s hs
      obtain ⟨y4, e1⟩ := mf_step hN x1 x4 x5 F W0 s hs (by omega) (by omega)
      rw [ea] at e1
      obtain ⟨F', y4', e2, h2⟩ := ih (F ++ new) (W0 ++ new) y4 hI (by simp only [List.length_append]; omega) (by simp only [List.length_append]; omega)
      refine ⟨F', y4', ?_, h2⟩
      have hne := ne_nats (W0 ++ [s])
      have hnb : (W0 ++ [s]).isEmpty = false := by cases W0 <;> rfl
      rw [hnb] at hne
      have ec : mfC [.val (.lst ns), x1, fD F, .val (.ref st.ob.length), x4, x5] (st.ad (.lst (tN (W0 ++ [s])))) = some (true, st.ad (.lst (tN (W0 ++ [s])))) := by
        unfold mfC
        generalize hLL : tN (W0 ++ [s]) = LL at *
        simp [ad_dr, grd_of (show 0 ≤ 1000000 by decide), hne]
      rw [whF, ec, Option.bind_some, if_pos rfl, e1, Option.bind_some]
      exact e2
end Lw

set_option Elab.async false
set_option linter.all false
set_option maxRecDepth 100000
set_option maxHeartbeats 1000000
namespace Lw
open PySem MD L2
theorem mf_dc (st : S) (x0 x1 x2 x3 x4 : Sl) (xs : List Nat) : ∀ F : List Nat, (F ++ xs).Nodup →
    dcL (nameT 5) yesM (rd 5) (cst (.bl true)) [x0, x1, x2, x3, x4, .un] (tN xs) (tKs F, trs F) st = some ((tKs (F ++ xs), trs (F ++ xs)), st) := by
  induction xs with
  | nil => intro F _; rw [List.append_nil]; rfl
  | cons x xs ih =>
    intro F h
    have hn : x ∉ F := fun z => by
      rw [List.nodup_append] at h
      exact h.2.2 x z x List.mem_cons_self rfl
    have e : dcL (nameT 5) yesM (rd 5) (cst (.bl true)) [x0, x1, x2, x3, x4, .un] (nD x :: tN xs) (tKs F, trs F) st = dcL (nameT 5) yesM (rd 5) (cst (.bl true)) [x0, x1, x2, x3, x4, .un] (tN xs) (putKs (tKs F) (nK x), putVs (tKs F) (trs F) (nK x) (.bl true)) st := rfl
    rw [show tN (x :: xs) = nD x :: tN xs from rfl, e, (putK_new hn).1, (putK_new hn).2, ih (F ++ [x]) (by simpa using h)]
    simp
theorem MetI.start {nx : Nat → List Nat} {m : Nat} {S0 : List Nat} (hn : S0.Nodup) (hl : ∀ s ∈ S0, s < m) : MetI nx m S0 S0 S0 :=
  ⟨hn, hl, fun f hf => .base hf, fun s h => h, fun w h => h, fun f hf h => absurd hf h⟩
theorem met_ok {st : S} {ns : List D} {nx : Nat → List Nat} {m : Nat} (hm : m ≤ 100) (hN : NxOk st.ob ns nx m) (hx : ∀ s, s < m → ∀ t ∈ nx s, t < m) (hl : ∀ s, s < m → (nx s).length ≤ 100) {S0 : List Nat} (hn : S0.Nodup) (hs : ∀ s ∈ S0, s < m) :
    ∃ F, m_met_from [.lst ns, .lst (tN S0)] st = some (.dic (tKs F) (trs F), st.ad (.lst [])) ∧ ∀ x, x ∈ F ↔ Rc nx S0 x := by
  have hSm := nodup_le hn hs
  obtain ⟨F, y4, e1, h1⟩ := mf_loop hm hN hx hl (.val (.lst (tN S0))) .un (S0.length + (m - S0.length)) S0 S0 .un (MetI.start hn hs) rfl (Nat.le_refl _)
  refine ⟨F, ?_, h1.done⟩
  have e2 := whM_of e1
  have ed := mf_dc st (.val (.lst ns)) (.val (.lst (tN S0))) .un .un .un S0 [] (by simpa using hn)
  have hb : b_met_from = seqM (ownK 2 (dcM (seqI (rd 1)) (nameT 5) yesM (rd 5) (cst (.bl true)) [5])) (seqM (asgM (nameT 3) (stoL (listM (aCons (rd 1) aNil)))) (seqM (whM mfC mfW) (frzM 2 (retM (rd 2))))) := rfl
  unfold m_met_from
  rw [hb]
  generalize whM mfC mfW = WH at e2
  have ek : ownK 2 (dcM (seqI (rd 1)) (nameT 5) yesM (rd 5) (cst (.bl true)) [5]) [.val (.lst ns), .val (.lst (tN S0)), .un, .un, .un, .un] st = some (.nx [.val (.lst ns), .val (.lst (tN S0)), fD S0, .un, .un, .un], st) := by
    rw [v_ownK, v_dcM]
    simp only [v_seqI, v_rd, List.getElem?_cons_succ, List.getElem?_cons_zero, Option.bind_some, v_seqL, Option.map_some, v_wipe1, v_wipe0, List.set_cons_succ, List.set_cons_zero]
    rw [grd_of (by simp; omega)]
    have ed' : dcL (nameT 5) yesM (rd 5) (cst (.bl true)) [.val (.lst ns), .val (.lst (tN S0)), .un, .un, .un, .un] (tN S0) ([], []) st = _ := ed
    rw [ed']
    rfl
  have es : asgM (nameT 3) (stoL (listM (aCons (rd 1) aNil))) [.val (.lst ns), .val (.lst (tN S0)), fD S0, .un, .un, .un] st = some (.nx [.val (.lst ns), .val (.lst (tN S0)), fD S0, .val (.ref st.ob.length), .un, .un], st.ad (.lst (tN S0))) := by simp
  generalize ownK 2 (dcM (seqI (rd 1)) (nameT 5) yesM (rd 5) (cst (.bl true)) [5]) = KK at ek
  generalize asgM (nameT 3) (stoL (listM (aCons (rd 1) aNil))) = SS at es
  simp [ek, es, e2]
end Lw

set_option Elab.async false
set_option linter.all false
set_option maxRecDepth 100000
set_option maxHeartbeats 1000000
namespace Lw
open PySem MD L2
/-! ### used -/
def nxs (kd : Kd) (s : Nat) : List Nat := (row kd s).filterMap id
theorem Rc.congr {nx nx' : Nat → List Nat} {S0 : List Nat} (h : ∀ s t, t ∈ nx s → t ∈ nx' s) {x : Nat} (r : Rc nx S0 x) : Rc nx' S0 x := by
  induction r with
  | base hs => exact .base hs
  | step _ ht ih => exact .step ih (h _ _ ht)
theorem nxs_lt {kd : Kd} (ok : kd.Ok) {s : Nat} (hs : s < kd.rows.length) : ∀ t ∈ nxs kd s, t < kd.rows.length := fun t ht => by
  obtain ⟨o, ho, e⟩ := List.mem_filterMap.mp ht
  have : o = some t := e
  subst this
  exact ok.rs _ (row_mem hs) t ho
theorem nxs_len {kd : Kd} (ok : kd.Ok) {s : Nat} (hs : s < kd.rows.length) : (nxs kd s).length ≤ 4 := by
  have h1 := List.length_filterMap_le id (row kd s)
  have h2 := ok.rl _ (row_mem hs)
  have h3 := ok.k4
  unfold nxs
  omega
noncomputable def usI : ME := (frz (compM (seqI (rd 6)) (nameT 7) (tstM (opM isNotM (rd 7) (cst .non))) (rd 7) [7]))
theorem us_inner (st : S) (x0 x1 x2 x3 x4 x5 x6 x8 x9 x10 : Sl) (r : List (Option Nat)) :
    compL (nameT 7) (tstM (opM isNotM (rd 7) (cst .non))) (rd 7) [x0, x1, x2, x3, x4, x5, x6, .un, x8, x9, x10] (r.map optD) st = some (tN (r.filterMap id), st) := by
  induction r with
  | nil => rfl
  | cons y r ih =>
    rw [List.map_cons, v_compL]
    cases y with
    | none => simp [ih, optD, nonD]
    | some t =>
      have en : nonD (.int ((t : Nat) : Int)) = false := rfl
      simp [ih, optD, en]
theorem us_ahead {kd : Kd} (ok : kd.Ok) (st : S) (x0 x1 x2 x3 x4 x5 x7 x8 x9 x10 : Sl) (rs : List (List (Option Nat))) (h : ∀ r ∈ rs, r.length ≤ 4) :
    compL (nameT 6) yesM usI [x0, x1, x2, x3, x4, x5, .un, x7, x8, x9, x10] (rs.map rowD) st = some (rs.map fun r => D.lst (tN (r.filterMap id)), st) := by
  induction rs with
  | nil => rfl
  | cons r rs ih =>
    have ih := ih fun y hy => h y (List.mem_cons_of_mem _ hy)
    have hr := h r List.mem_cons_self
    have e : usI [x0, x1, x2, x3, x4, x5, .val (rowD r), x7, x8, x9, x10] st = some (.lst (tN (r.filterMap id)), st) := by
      have ei := us_inner st x0 x1 x2 x3 x4 x5 (.val (rowD r)) x8 x9 x10 r
      unfold usI
      generalize (tstM (opM isNotM (rd 7) (cst .non))) = C at ei
      simp [grd_of (show r.length ≤ 1000000 by omega)]
      rw [ei]
    rw [List.map_cons, v_compL]
    generalize usI = I at e ih
    simp [e, ih]
/-- the store with m lists more -/
def stB (st : S) (B : Nat → List Nat) (m : Nat) : S := { st with ob := st.ob ++ (List.range m).map fun t => Ob.lst (tN (B t)) }
theorem stB_succ (st : S) (m : Nat) : (stB st (fun _ => []) m).ad (.lst []) = stB st (fun _ => []) (m + 1) := by
  unfold stB S.ad
  simp [List.range_succ]
theorem stB_len (st : S) (B : Nat → List Nat) (m : Nat) : (stB st B m).ob.length = st.ob.length + m := by unfold stB; simp
theorem stB_at {st : S} {B : Nat → List Nat} {m t : Nat} (h : t < m) : (stB st B m).ob[st.ob.length + t]? = some (.lst (tN (B t))) := by
  unfold stB
  rw [List.getElem?_append_right (by omega), Nat.add_sub_cancel_left, List.getElem?_map, List.getElem?_range h]
  rfl
theorem stB_put {st : S} {B : Nat → List Nat} {m t : Nat} (h : t < m) (l : List Nat) : (stB st B m).put (st.ob.length + t) (.lst (tN l)) = stB st (fun u => if u = t then l else B u) m := by
  unfold stB S.put
  congr 1
  rw [List.set_append_right _ _ (by omega), Nat.add_sub_cancel_left]
  congr 1
  apply List.ext_getElem?
  intro i
  rw [List.getElem?_set, List.getElem?_map]
  by_cases hi : t = i
  · subst hi
    simp [h]
  · rw [if_neg hi, List.getElem?_map]
    by_cases hm : i < m
    · rw [List.getElem?_range hm]
      have : ¬ i = t := fun z => hi z.symm
      simp [this]
    · rw [List.getElem?_eq_none (by simp; omega)]; rfl
theorem us_before (st : S) (x0 x1 x2 x3 x4 x5 x7 x8 x9 x10 : Sl) (ds : List D) : ∀ j, compL (nameT 6) yesM (stoL (lstM aNil)) [x0, x1, x2, x3, x4, x5, .un, x7, x8, x9, x10] ds (stB st (fun _ => []) j) =
    some ((List.range ds.length).map fun i => D.ref (st.ob.length + (j + i)), stB st (fun _ => []) (j + ds.length)) := by
  induction ds with
  | nil => intro j; rfl
  | cons d ds ih =>
    intro j
    have ih := ih (j + 1)
    rw [v_compL]
    have e : stoL (lstM aNil) [x0, x1, x2, x3, x4, x5, .val d, x7, x8, x9, x10] (stB st (fun _ => []) j) = some (.ref (st.ob.length + j), stB st (fun _ => []) (j + 1)) := by
      simp [stB_len, stB_succ, grd_of (show 0 ≤ 1000000 by decide)]
    generalize stoL (lstM aNil) = SS at e ih
    simp [e, ih]
    refine ⟨?_, by congr 1; omega⟩
    rw [List.range_succ_eq_map, List.map_cons, List.map_map]
    simp
    intro i _
    omega
def apB (B : Nat → List Nat) (s : Nat) : List Nat → Nat → List Nat
  | [] => B
  | x :: xs => apB (fun u => if u = x then B u ++ [s] else B u) s xs
theorem apB_mem (s : Nat) (xs : List Nat) : ∀ (B : Nat → List Nat) (t u : Nat), u ∈ apB B s xs t ↔ u ∈ B t ∨ (u = s ∧ t ∈ xs) := by
  induction xs with
  | nil => intro B t u; simp [apB]
  | cons x xs ih =>
    intro B t u
    rw [apB, ih]
    by_cases h : t = x
    · subst h
      simp
      intro h _
      exact .inr h
    · simp [h]
theorem apB_len (s : Nat) (xs : List Nat) : ∀ (B : Nat → List Nat) (t : Nat), (apB B s xs t).length ≤ (B t).length + xs.length := by
  induction xs with
  | nil => intro B t; simp [apB]
  | cons x xs ih =>
    intro B t
    rw [apB]
    have := ih (fun u => if u = x then B u ++ [s] else B u) t
    have h2 : (if t = x then B t ++ [s] else B t).length ≤ (B t).length + 1 := by
      by_cases h : t = x
      · simp [h]
      · simp [h]
    simp only [List.length_cons]
    have this : _ ≤ (if t = x then B t ++ [s] else B t).length + _ := this
    omega
noncomputable def bfB : MS := (sappM (opM subD (rd 4) (rd 7)) (rd 5))
abbrev refs (n m : Nat) : List D := (List.range m).map fun i => D.ref (n + i)
theorem refs_at {n m t : Nat} (h : t < m) : atI (refs n m) ((t : Nat) : Int) = some (.ref (n + t)) := by
  apply atI_of
  rw [List.getElem?_map, List.getElem?_range h]
  rfl
theorem bf_turn (st : S) (B : Nat → List Nat) {m s t : Nat} (h : t < m) (hb : (B t).length ≤ 1000) (x0 x1 x2 x3 x6 x8 x9 x10 : Sl) :
    bfB [x0, x1, x2, x3, .val (.lst (refs st.ob.length m)), .val (nD s), x6, .val (nD t), x8, x9, x10] (stB st B m) =
      some (.nx [x0, x1, x2, x3, .val (.lst (refs st.ob.length m)), .val (nD s), x6, .val (nD t), x8, x9, x10], stB st (fun u => if u = t then B u ++ [s] else B u) m) := by
  have hp := stB_put (st := st) (B := B) h (B t ++ [s])
  have hl := lstAt_of (stB_at (st := st) (B := B) h)
  have hs : tN (B t ++ [s]) = tN (B t) ++ [nD s] := by simp
  have hf : (fun u => if u = t then B t ++ [s] else B u) = fun u => if u = t then B u ++ [s] else B u := by
    funext u
    by_cases hu : u = t
    · subst hu; simp
    · simp [hu]
  rw [hf, hs] at hp
  unfold bfB
  simp [refs_at h, hl, grd_of (show (B t).length + 1 ≤ 1000000 by omega)]
  exact hp
theorem bf_for (st : S) {m s : Nat} (x0 x1 x2 x3 x6 x8 x9 x10 : Sl) (xs : List Nat) : ∀ (B : Nat → List Nat) (x7 : Sl), (∀ x ∈ xs, x < m) → (∀ t, (B t).length + xs.length ≤ 1000) →
    ∃ y7, forL (nameT 7) bfB (tN xs) [x0, x1, x2, x3, .val (.lst (refs st.ob.length m)), .val (nD s), x6, x7, x8, x9, x10] (stB st B m) =
      some (.nx [x0, x1, x2, x3, .val (.lst (refs st.ob.length m)), .val (nD s), x6, y7, x8, x9, x10], stB st (apB B s xs) m) := by
  induction xs with
  | nil => intro B x7 _ _; exact ⟨x7, rfl⟩
  | cons x xs ih =>
    intro B x7 h hb
    simp only [List.length_cons] at hb
    obtain ⟨y7, e⟩ := ih (fun u => if u = x then B u ++ [s] else B u) (.val (nD x)) (fun y hy => h y (List.mem_cons_of_mem _ hy)) (fun t => by
      have := hb t
      by_cases ht : t = x
      · simp [ht] at *; omega
      · simp [ht]; omega)
    refine ⟨y7, ?_⟩
    rw [show tN (x :: xs) = nD x :: tN xs from rfl, v_forL]
    simp only [v_nameT, Option.bind_some, List.set_cons_succ, List.set_cons_zero]
    rw [bf_turn st B (h x List.mem_cons_self) (by have := hb x; omega)]
    exact e
def apAll (nx : Nat → List Nat) : List Nat → (Nat → List Nat) → Nat → List Nat
  | [], B => B
  | s :: ss, B => apAll nx ss (apB B s (nx s))
theorem apAll_mem (nx : Nat → List Nat) (ss : List Nat) : ∀ (B : Nat → List Nat) (t u : Nat), u ∈ apAll nx ss B t ↔ u ∈ B t ∨ (u ∈ ss ∧ t ∈ nx u) := by
  induction ss with
  | nil => intro B t u; simp [apAll]
  | cons s ss ih =>
    intro B t u
    rw [apAll, ih, apB_mem]
    constructor
    · rintro ((h | ⟨h1, h2⟩) | ⟨h1, h2⟩)
      · exact .inl h
      · subst h1; exact .inr ⟨List.mem_cons_self, h2⟩
      · exact .inr ⟨List.mem_cons_of_mem _ h1, h2⟩
    · rintro (h | ⟨h1, h2⟩)
      · exact .inl (.inl h)
      · rcases List.mem_cons.mp h1 with rfl | z
        · exact .inl (.inr ⟨rfl, h2⟩)
        · exact .inr ⟨z, h2⟩
theorem apAll_len (nx : Nat → List Nat) (ss : List Nat) : ∀ (B : Nat → List Nat) (t : Nat), (∀ s ∈ ss, (nx s).length ≤ 4) → (apAll nx ss B t).length ≤ (B t).length + 4 * ss.length := by
  induction ss with
  | nil => intro B t _; simp [apAll]
  | cons s ss ih =>
    intro B t h
    have h1 := ih (apB B s (nx s)) t fun y hy => h y (List.mem_cons_of_mem _ hy)
    have h2 := apB_len s (nx s) B t
    have h3 := h s List.mem_cons_self
    rw [apAll]
    simp only [List.length_cons]
    omega
end Lw

set_option Elab.async false
set_option linter.all false
set_option maxRecDepth 100000
set_option maxHeartbeats 1000000
namespace Lw
open PySem MD L2
theorem enum_rng (g : Nat → D) (m : Nat) : enumD ((List.range m).map g) = (List.range m).map fun i => D.tup [nD i, g i] := by
  unfold enumD
  apply List.ext_getElem?
  intro i
  rw [List.getElem?_map, List.getElem?_zipIdx, List.getElem?_map, List.getElem?_map]
  by_cases h : i < m
  · rw [List.getElem?_range h]; simp
  · rw [List.getElem?_eq_none (by simp; omega)]; rfl
theorem rows_rng {α : Type} (kd : Kd) (f : List (Option Nat) → α) : kd.rows.map f = (List.range kd.rows.length).map fun s => f (row kd s) := by
  apply List.ext_getElem?
  intro i
  rw [List.getElem?_map, List.getElem?_map]
  by_cases h : i < kd.rows.length
  · rw [List.getElem?_range h, row_at h]; rfl
  · rw [List.getElem?_eq_none (by omega), List.getElem?_eq_none (by simp; omega)]; rfl
theorem ends_rng {kd : Kd} (ok : kd.Ok) : kd.ends = (List.range kd.rows.length).map (isE kd) := by
  apply List.ext_getElem?
  intro i
  rw [List.getElem?_map]
  have hl := ok.me
  by_cases h : i < kd.rows.length
  · rw [List.getElem?_range h]
    unfold isE
    rw [Option.map_some, List.getD_eq_getElem?_getD, List.getElem?_eq_getElem (by omega)]
    rfl
  · rw [List.getElem?_eq_none (by omega), List.getElem?_eq_none (by simp; omega)]; rfl
noncomputable def usB : MS := (forM (seqI (rd 6)) (nameT 7) bfB)
theorem us_for {kd : Kd} (ok : kd.Ok) (st : S) (x0 x1 x2 x3 x8 x9 x10 : Sl) (ss : List Nat) : ∀ (B : Nat → List Nat) (x5 x6 x7 : Sl), (∀ s ∈ ss, s < kd.rows.length) → (∀ t, (B t).length + 4 * ss.length ≤ 900) →
    ∃ y5 y6 y7, forL (tupT 2 (consT (nameT 5) (consT (nameT 6) nilT))) usB (ss.map fun s => D.tup [nD s, .lst (tN (nxs kd s))]) [x0, x1, x2, x3, .val (.lst (refs st.ob.length kd.rows.length)), x5, x6, x7, x8, x9, x10] (stB st B kd.rows.length) =
      some (.nx [x0, x1, x2, x3, .val (.lst (refs st.ob.length kd.rows.length)), y5, y6, y7, x8, x9, x10], stB st (apAll (nxs kd) ss B) kd.rows.length) := by
  induction ss with
  | nil => intro B x5 x6 x7 _ _; exact ⟨x5, x6, x7, rfl⟩
  | cons s ss ih =>
    intro B x5 x6 x7 h hb
    simp only [List.length_cons] at hb
    have hs := h s List.mem_cons_self
    have hn := nxs_len ok hs
    obtain ⟨y7, e1⟩ := bf_for st (m := kd.rows.length) (s := s) x0 x1 x2 x3 (.val (.lst (tN (nxs kd s)))) x8 x9 x10 (nxs kd s) B x7 (nxs_lt ok hs) (fun t => by have := hb t; omega)
    obtain ⟨z5, z6, z7, e2⟩ := ih (apB B s (nxs kd s)) (.val (nD s)) (.val (.lst (tN (nxs kd s)))) y7 (fun y hy => h y (List.mem_cons_of_mem _ hy)) (fun t => by
      have h1 := apB_len s (nxs kd s) B t
      have h2 := hb t
      omega)
    refine ⟨z5, z6, z7, ?_⟩
    rw [List.map_cons, v_forL]
    have et : tupT 2 (consT (nameT 5) (consT (nameT 6) nilT)) (D.tup [nD s, .lst (tN (nxs kd s))]) [x0, x1, x2, x3, .val (.lst (refs st.ob.length kd.rows.length)), x5, x6, x7, x8, x9, x10] = some [x0, x1, x2, x3, .val (.lst (refs st.ob.length kd.rows.length)), .val (nD s), .val (.lst (tN (nxs kd s))), x7, x8, x9, x10] := rfl
    have eb : usB [x0, x1, x2, x3, .val (.lst (refs st.ob.length kd.rows.length)), .val (nD s), .val (.lst (tN (nxs kd s))), x7, x8, x9, x10] (stB st B kd.rows.length) = some (.nx [x0, x1, x2, x3, .val (.lst (refs st.ob.length kd.rows.length)), .val (nD s), .val (.lst (tN (nxs kd s))), y7, x8, x9, x10], stB st (apB B s (nxs kd s)) kd.rows.length) := by
      unfold usB
      generalize bfB = BB at e1
      simp
      exact e1
    rw [et, Option.bind_some, eb, Option.bind_some]
    exact e2
/-- the states that end words -/
def endS (kd : Kd) : List Nat := (List.range kd.rows.length).filter (isE kd)
theorem us_ends {kd : Kd} (st : S) (x0 x1 x2 x3 x4 x6 x7 x8 x9 : Sl) (ss : List Nat) :
    compL (tupT 2 (consT (nameT 5) (consT (nameT 10) nilT))) (truM (rd 10)) (rd 5) [x0, x1, x2, x3, x4, .un, x6, x7, x8, x9, .un] (ss.map fun s => D.tup [nD s, .bl (isE kd s)]) st = some (tN (ss.filter (isE kd)), st) := by
  induction ss with
  | nil => rfl
  | cons s ss ih =>
    rw [List.map_cons, v_compL]
    cases he : isE kd s with
    | false => simp [ih, he]
    | true => simp [ih, he]
theorem us_last (st : S) (F G : List Nat) (x0 x1 x2 x3 x4 x6 x7 x10 : Sl) (xs : List Nat) :
    compL (nameT 5) (andM (tstM (opM (cntD false) (rd 5) (rd 8))) (tstM (opM (cntD false) (rd 5) (rd 9)))) (rd 5) [x0, x1, x2, x3, x4, .un, x6, x7, .val (.dic (tKs F) (trs F)), .val (.dic (tKs G) (trs G)), x10] (tN xs) st = some (tN (xs.filter fun s => decide (s ∈ F) && decide (s ∈ G)), st) := by
  induction xs with
  | nil => rfl
  | cons x xs ih =>
    rw [show tN (x :: xs) = nD x :: tN xs from rfl, v_compL]
    have e1 := fD_has F x
    have e2 := fD_has G x
    by_cases h1 : x ∈ F
    · rw [decide_eq_true h1] at e1
      by_cases h2 : x ∈ G
      · rw [decide_eq_true h2] at e2
        simp [ih, e1, e2, h1, h2]
      · rw [decide_eq_false h2] at e2
        simp only [Option.isSome_eq_false_iff, Option.isNone_iff_eq_none] at e2
        simp [ih, e1, e2, h1, h2]
    · rw [decide_eq_false h1] at e1
      simp only [Option.isSome_eq_false_iff, Option.isNone_iff_eq_none] at e1
      simp [ih, e1, h1]
end Lw

set_option Elab.async false
set_option linter.all false
set_option maxRecDepth 100000
set_option maxHeartbeats 1000000
namespace Lw
open PySem MD L2
theorem us_eval {kd : Kd} (hm : kd.rows.length ≤ 100) (ah rf : List D) (F G : List Nat) (st s4 s5 s6 s7 : S) (P1 FL : MS) (A3 A4 M1 M2 : ME) (y5 y6 y7 : Sl)
    (h1 : P1 [.val (tK kd), .un, .un, .un, .un, .un, .un, .un, .un, .un, .un] st = some (.nx [.val (tK kd), .val (.tup (kd.rows.map rowD)), .val (.tup (kd.ends.map D.bl)), .un, .un, .un, .un, .un, .un, .un, .un], st))
    (h3 : A3 [.val (tK kd), .val (.tup (kd.rows.map rowD)), .val (.tup (kd.ends.map D.bl)), .un, .un, .un, .un, .un, .un, .un, .un] st = some (.lst ah, st))
    (h4 : A4 [.val (tK kd), .val (.tup (kd.rows.map rowD)), .val (.tup (kd.ends.map D.bl)), .val (.lst ah), .un, .un, .un, .un, .un, .un, .un] st = some (.lst rf, s4))
    (h5 : FL [.val (tK kd), .val (.tup (kd.rows.map rowD)), .val (.tup (kd.ends.map D.bl)), .val (.lst ah), .val (.lst rf), .un, .un, .un, .un, .un, .un] s4 = some (.nx [.val (tK kd), .val (.tup (kd.rows.map rowD)), .val (.tup (kd.ends.map D.bl)), .val (.lst ah), .val (.lst rf), y5, y6, y7, .un, .un, .un], s5))
    (h6 : M1 [.val (tK kd), .val (.tup (kd.rows.map rowD)), .val (.tup (kd.ends.map D.bl)), .val (.lst ah), .val (.lst rf), y5, y6, y7, .un, .un, .un] s5 = some (.dic (tKs F) (trs F), s6))
    (h7 : M2 [.val (tK kd), .val (.tup (kd.rows.map rowD)), .val (.tup (kd.ends.map D.bl)), .val (.lst ah), .val (.lst rf), y5, y6, y7, .un, .un, .un] s6 = some (.dic (tKs G) (trs G), s7)) :
    runM 11 (seqM P1 (seqM (asgM (nameT 3) A3) (seqM (asgM (nameT 4) A4) (seqM FL
 (seqM (asgM (tupT 2 (consT (nameT 8) (consT (nameT 9) nilT))) (tupM (aCons M1 (aCons M2 aNil))))
 (retM (cbM tupleM (aCons (frz (compM (r1M (aCons (cbM lenA (aCons (rd 1) aNil)) aNil)) (nameT 5) (andM (tstM (opM (cntD false) (rd 5) (rd 8))) (tstM (opM (cntD false) (rd 5) (rd 9)))) (rd 5) [5])) aNil)))))))) [tK kd] st = some (.tup (tN ((List.range kd.rows.length).filter fun s => decide (s ∈ F) && decide (s ∈ G))), s7) := by
  have hg : kd.rows.length ≤ 1000000 := Nat.le_trans hm (by decide)
  have e := us_last s7 F G (.val (tK kd)) (.val (.tup (kd.rows.map rowD))) (.val (.tup (kd.ends.map D.bl))) (.val (.lst ah)) (.val (.lst rf)) y6 y7 .un (List.range kd.rows.length)
  generalize (andM (tstM (opM (cntD false) (rd 5) (rd 8))) (tstM (opM (cntD false) (rd 5) (rd 9)))) = C at e
  simp [h1, h3, h4, h5, h6, h7, grd_of (show 2 ≤ 1000000 by decide), rng_of hg, rngD_len, grd_of hg]
  rw [rng_map, e]
  simp
def bks (kd : Kd) (t : Nat) : List Nat := (List.range kd.rows.length).filter fun u => decide (t ∈ nxs kd u)
theorem nx_ahead {kd : Kd} (ob : List Ob) : NxOk ob ((List.range kd.rows.length).map fun s => D.lst (tN (nxs kd s))) (nxs kd) kd.rows.length := fun s hs => .inl (by
  rw [List.getElem?_map, List.getElem?_range hs]; rfl)
theorem nx_before {kd : Kd} (st : S) (B : Nat → List Nat) (o : Ob) : NxOk ((stB st B kd.rows.length).ad o).ob (refs st.ob.length kd.rows.length) B kd.rows.length := fun s hs => .inr ⟨st.ob.length + s, by
  rw [List.getElem?_map, List.getElem?_range hs]; rfl, ad_old (stB_at hs)⟩
theorem used_ok {kd : Kd} (ok : kd.Ok) (st : S) : ∃ (F G : List Nat) (s7 : S), m_used [tK kd] st = some (.tup (tN ((List.range kd.rows.length).filter fun s => decide (s ∈ F) && decide (s ∈ G))), s7) ∧ s7.n = st.n ∧
    (∀ x, x ∈ F ↔ Rc (nxs kd) [0] x) ∧ ∀ x, x ∈ G ↔ Rc (bks kd) (endS kd) x := by
  have hm : kd.rows.length ≤ 100 := by have := ok.m8; omega
  have hm0 := ok.m0
  have hm8 := ok.m8
  obtain ⟨ah, hah⟩ : ∃ ah, ah = (List.range kd.rows.length).map fun s => D.lst (tN (nxs kd s)) := ⟨_, rfl⟩
  obtain ⟨B, hB⟩ : ∃ B, B = apAll (nxs kd) (List.range kd.rows.length) fun _ => [] := ⟨_, rfl⟩
  have hBm : ∀ t u, u ∈ B t ↔ u ∈ bks kd t := fun t u => by
    rw [hB, apAll_mem]
    unfold bks
    simp
  have hBl : ∀ s, s < kd.rows.length → (B s).length ≤ 100 := fun s hs => by
    rw [hB]
    have := apAll_len (nxs kd) (List.range kd.rows.length) (fun _ => []) s fun u hu => nxs_len ok (List.mem_range.mp hu)
    simp at this
    omega
  obtain ⟨y5, y6, y7, e5⟩ := us_for ok st (.val (tK kd)) (.val (.tup (kd.rows.map rowD))) (.val (.tup (kd.ends.map D.bl))) (.val (.lst ah)) .un .un .un (List.range kd.rows.length) (fun _ => []) .un .un .un (fun s hs => List.mem_range.mp hs) (fun t => by simp; omega)
  rw [← hB] at e5
  obtain ⟨F, e6, hF⟩ := met_ok (st := stB st B kd.rows.length) hm (nx_ahead (kd := kd) _) (fun s hs => nxs_lt ok hs) (fun s hs => by have := nxs_len ok hs; omega) (S0 := [0]) (by simp) (fun s hs => by rw [List.mem_singleton.mp hs]; exact hm0)
  rw [← hah] at e6
  obtain ⟨G, e7, hG⟩ := met_ok (st := (stB st B kd.rows.length).ad (.lst [])) hm (nx_before (kd := kd) st B (.lst [])) (fun s hs t ht => by
      have := (hBm s t).mp ht
      exact List.mem_range.mp (List.mem_filter.mp this).1) hBl (S0 := endS kd) (List.nodup_range.filter _) (fun s hs => List.mem_range.mp (List.mem_filter.mp hs).1)
  refine ⟨F, G, ((stB st B kd.rows.length).ad (.lst [])).ad (.lst []), ?_, rfl, hF, fun x => (hG x).trans ⟨Rc.congr fun s t h => (hBm s t).mp h, Rc.congr fun s t h => (hBm s t).mpr h⟩⟩
  have hb : b_used = seqM (parM 1 2 (aCons (opM subD (rd 0) (cst (.int 1))) (aCons (opM subD (rd 0) (cst (.int 2))) aNil)))
    (seqM (asgM (nameT 3) (frz (compM (seqI (rd 1)) (nameT 6) yesM usI [6])))
    (seqM (asgM (nameT 4) (frz (compM (seqI (rd 1)) (nameT 6) yesM (stoL (lstM aNil)) [6])))
    (seqM (forM (enumI (rd 3)) (tupT 2 (consT (nameT 5) (consT (nameT 6) nilT))) usB)
    (seqM (asgM (tupT 2 (consT (nameT 8) (consT (nameT 9) nilT))) (tupM (aCons (callM m_met_from (aCons (rd 3) (aCons (frz (lstM (aCons (cst (.int 0)) aNil))) aNil))) (aCons (callM m_met_from (aCons (rd 4) (aCons (frz (compM (enumI (rd 2)) (tupT 2 (consT (nameT 5) (consT (nameT 10) nilT))) (truM (rd 10)) (rd 5) [5, 10])) aNil))) aNil))))
    (retM (cbM tupleM (aCons (frz (compM (r1M (aCons (cbM lenA (aCons (rd 1) aNil)) aNil)) (nameT 5) (andM (tstM (opM (cntD false) (rd 5) (rd 8))) (tstM (opM (cntD false) (rd 5) (rd 9)))) (rd 5) [5])) aNil))))))) := rfl
  unfold m_used
  rw [hb]
  have hg : kd.rows.length ≤ 1000000 := Nat.le_trans hm (by decide)
  have e3 := us_ahead ok st (.val (tK kd)) (.val (.tup (kd.rows.map rowD))) (.val (.tup (kd.ends.map D.bl))) .un .un .un .un .un .un .un kd.rows fun r hr => by have := ok.rl r hr; have := ok.k4; omega
  have hah2 : (kd.rows.map fun r => D.lst (tN (r.filterMap id))) = ah := by rw [hah]; exact rows_rng kd fun r => D.lst (tN (r.filterMap id))
  rw [hah2] at e3
  have h00 : stB st (fun _ => []) 0 = st := by unfold stB; simp
  have e4 := us_before st (.val (tK kd)) (.val (.tup (kd.rows.map rowD))) (.val (.tup (kd.ends.map D.bl))) (.val (.lst ah)) .un .un .un .un .un .un (kd.rows.map rowD) 0
  rw [h00, List.length_map] at e4
  simp only [Nat.zero_add] at e4
  refine us_eval hm ah (refs st.ob.length kd.rows.length) F G st (stB st (fun _ => []) kd.rows.length) (stB st B kd.rows.length) ((stB st B kd.rows.length).ad (.lst [])) _ _ _ _ _ _ _ y5 y6 y7 ?_ ?_ ?_ ?_ ?_ ?_
  · simp
  · generalize usI = I at e3
    simp [grd_of hg]
    rw [e3]
    all_goals rfl
  · generalize stoL (lstM aNil) = I at e4
    simp [grd_of hg]
    rw [e4]
    all_goals rfl
  · generalize usB = I at e5
    have hen : enumD ah = (List.range kd.rows.length).map fun s => D.tup [nD s, .lst (tN (nxs kd s))] := by rw [hah]; exact enum_rng _ _
    simp [hen]
    exact e5
  · have ea : ∀ s, (aCons (rd 3) (aCons (frz (lstM (aCons (cst (.int 0)) aNil))) aNil)) [.val (tK kd), .val (.tup (kd.rows.map rowD)), .val (.tup (kd.ends.map D.bl)), .val (.lst ah), .val (.lst (refs st.ob.length kd.rows.length)), y5, y6, y7, .un, .un, .un] s = some ([.lst ah, .lst [.int 0]], s) := fun s => by simp [grd_of (show 1 ≤ 1000000 by decide)]
    rw [v_callM, ea, Option.bind_some]
    exact e6
  · have en : enumD (kd.ends.map D.bl) = (List.range kd.rows.length).map fun s => D.tup [nD s, .bl (isE kd s)] := by
      rw [ends_rng ok, List.map_map]; exact enum_rng _ _
    have ee := us_ends (kd := kd) ((stB st B kd.rows.length).ad (.lst [])) (.val (tK kd)) (.val (.tup (kd.rows.map rowD))) (.val (.tup (kd.ends.map D.bl))) (.val (.lst ah)) (.val (.lst (refs st.ob.length kd.rows.length))) y6 y7 .un .un (List.range kd.rows.length)
    have ea : (aCons (rd 4) (aCons (frz (compM (enumI (rd 2)) (tupT 2 (consT (nameT 5) (consT (nameT 10) nilT))) (truM (rd 10)) (rd 5) [5, 10])) aNil)) [.val (tK kd), .val (.tup (kd.rows.map rowD)), .val (.tup (kd.ends.map D.bl)), .val (.lst ah), .val (.lst (refs st.ob.length kd.rows.length)), y5, y6, y7, .un, .un, .un] ((stB st B kd.rows.length).ad (.lst [])) = some ([.lst (refs st.ob.length kd.rows.length), .lst (tN (endS kd))], (stB st B kd.rows.length).ad (.lst [])) := by
      generalize truM (rd 10) = C at ee
      simp [en, grd_of hg]
      rw [ee]
      all_goals rfl
    rw [v_callM, ea, Option.bind_some]
    exact e7
end Lw

set_option Elab.async false
set_option linter.all false
set_option maxRecDepth 100000
set_option maxHeartbeats 1000000
namespace Lw
open PySem MD L2
/-! ### the states that are used -/
noncomputable def us (kd : Kd) : List Nat := (List.range kd.rows.length).filter fun s => @decide (Rc (nxs kd) [0] s ∧ Rc (bks kd) (endS kd) s) (Classical.propDecidable _)
theorem us_mem {kd : Kd} {s : Nat} : s ∈ us kd ↔ s < kd.rows.length ∧ Rc (nxs kd) [0] s ∧ Rc (bks kd) (endS kd) s := by
  unfold us
  rw [List.mem_filter, List.mem_range, @decide_eq_true_iff _ (Classical.propDecidable _)]
theorem us_nodup (kd : Kd) : (us kd).Nodup := List.Pairwise.filter _ List.nodup_range
theorem us_len (kd : Kd) : (us kd).length ≤ kd.rows.length := by
  have := List.length_filter_le (fun s => @decide (Rc (nxs kd) [0] s ∧ Rc (bks kd) (endS kd) s) (Classical.propDecidable _)) (List.range kd.rows.length)
  rw [List.length_range] at this
  exact this
theorem us_eq {kd : Kd} {F G : List Nat} (h1 : ∀ x, x ∈ F ↔ Rc (nxs kd) [0] x) (h2 : ∀ x, x ∈ G ↔ Rc (bks kd) (endS kd) x) : ((List.range kd.rows.length).filter fun s => decide (s ∈ F) && decide (s ∈ G)) = us kd := by
  unfold us
  refine List.filter_congr fun x _ => ?_
  rw [Bool.eq_iff_iff, Bool.and_eq_true, decide_eq_true_iff, decide_eq_true_iff, @decide_eq_true_iff _ (Classical.propDecidable _), h1, h2]
theorem used_us {kd : Kd} (ok : kd.Ok) (st : S) : ∃ s7 : S, m_used [tK kd] st = some (.tup (tN (us kd)), s7) ∧ s7.n = st.n := by
  obtain ⟨F, G, s7, h, h1, h2, h3⟩ := used_ok ok st
  rw [us_eq h2 h3] at h
  exact ⟨s7, h, h1⟩
theorem us_lt {kd : Kd} {s : Nat} (h : s ∈ us kd) : s < kd.rows.length := (us_mem.mp h).1
/-! ### ways through used states -/
noncomputable def sU (kd : Kd) (s k : Nat) : Option Nat := (stp kd s k).bind fun t => if t ∈ us kd then some t else none
theorem sU_eq {kd : Kd} {s k t : Nat} : sU kd s k = some t ↔ stp kd s k = some t ∧ t ∈ us kd := by
  unfold sU
  cases e : stp kd s k with
  | none => simp
  | some u =>
    show (if u ∈ us kd then some u else none) = some t ↔ _
    by_cases hu : u ∈ us kd
    · rw [if_pos hu]
      constructor
      · intro h; cases h; exact ⟨rfl, hu⟩
      · rintro ⟨h, _⟩; exact h
    · rw [if_neg hu]
      constructor
      · intro h; cases h
      · rintro ⟨h, h2⟩; cases h; exact absurd h2 hu
noncomputable def wU (kd : Kd) : Nat → List Nat → Option Nat
  | s, [] => some s
  | s, k :: w => (sU kd s k).bind fun t => wU kd t w
def wo (fm : List Int) (w : List Nat) : Int := (w.map fun k => fm.getD k 0).sum
theorem wU_app {kd : Kd} : ∀ (a b : List Nat) (s : Nat), wU kd s (a ++ b) = (wU kd s a).bind fun t => wU kd t b
  | [], b, s => rfl
  | k :: a, b, s => by
    show (sU kd s k).bind (fun t => wU kd t (a ++ b)) = ((sU kd s k).bind fun t => wU kd t a).bind _
    cases sU kd s k with
    | none => rfl
    | some t => exact wU_app a b t
theorem wU_us {kd : Kd} : ∀ {w : List Nat} {s t : Nat}, s ∈ us kd → wU kd s w = some t → t ∈ us kd
  | [], s, t, h, e => by cases e; exact h
  | k :: w, s, t, h, e => by
    obtain ⟨u, h1, h2⟩ := bnd (show ((sU kd s k).bind fun t => wU kd t w) = some t from e)
    exact wU_us (sU_eq.mp h1).2 h2
theorem wo_app (fm : List Int) (a b : List Nat) : wo fm (a ++ b) = wo fm a + wo fm b := by
  unfold wo; rw [List.map_append, List.sum_append]
theorem wo_one (fm : List Int) (k : Nat) : wo fm [k] = fm.getD k 0 := by unfold wo; simp
theorem wo_nil (fm : List Int) : wo fm [] = 0 := rfl
theorem wo_cons (fm : List Int) (k : Nat) (w : List Nat) : wo fm (k :: w) = fm.getD k 0 + wo fm w := by unfold wo; simp
theorem wU_one {kd : Kd} (s k : Nat) : wU kd s [k] = sU kd s k := by
  show (sU kd s k).bind (fun t => some t) = _
  cases sU kd s k <;> rfl
theorem stp_k {kd : Kd} (ok : kd.Ok) {s k t : Nat} (hs : s < kd.rows.length) (h : stp kd s k = some t) : k < kd.k := by
  rcases Nat.lt_or_ge k kd.k with z | z
  · exact z
  · unfold stp at h
    rw [List.getElem?_eq_none (by rw [ok.rl _ (row_mem hs)]; exact z)] at h
    cases h
noncomputable def eds (kd : Kd) (s : Nat) : List (Nat × Nat) := (List.range kd.k).filterMap fun k => (sU kd s k).map fun t => (k, t)
theorem eds_mem {kd : Kd} (ok : kd.Ok) {s k t : Nat} (hs : s < kd.rows.length) : (k, t) ∈ eds kd s ↔ sU kd s k = some t := by
  unfold eds
  rw [List.mem_filterMap]
  constructor
  · rintro ⟨j, h1, h2⟩
    obtain ⟨u, h3, h4⟩ := mpd h2
    cases h4
    exact h3
  · intro h
    refine ⟨k, List.mem_range.mpr (stp_k ok hs (sU_eq.mp h).1), ?_⟩
    rw [h]; rfl
theorem nxs_stp {kd : Kd} {s t : Nat} : t ∈ nxs kd s ↔ ∃ k, stp kd s k = some t := by
  unfold nxs
  rw [List.mem_filterMap]
  constructor
  · rintro ⟨o, h1, h2⟩
    have h2' : o = some t := h2
    subst h2'
    obtain ⟨i, hi, e⟩ := List.getElem_of_mem h1
    refine ⟨i, ?_⟩
    unfold stp
    rw [List.getElem?_eq_getElem hi, e]; rfl
  · rintro ⟨k, h⟩
    unfold stp at h
    cases e : (row kd s)[k]? with
    | none => rw [e] at h; cases h
    | some o =>
      rw [e] at h
      have h' : o = some t := h
      exact ⟨o, List.mem_of_getElem? e, h'⟩
section
variable {kd : Kd} (ok : kd.Ok)
include ok
theorem Rc_lt {s : Nat} (h : Rc (nxs kd) [0] s) : s < kd.rows.length := by
  induction h with
  | base h => rw [List.mem_singleton.mp h]; exact ok.m0
  | step h1 h2 ih => exact nxs_lt ok ih _ h2
theorem alive_back {s t : Nat} (hs : s < kd.rows.length) (h : t ∈ nxs kd s) (ht : Rc (bks kd) (endS kd) t) : Rc (bks kd) (endS kd) s :=
  .step ht (by unfold bks; rw [List.mem_filter, List.mem_range, decide_eq_true_iff]; exact ⟨hs, h⟩)
theorem to_used {s : Nat} (h : Rc (nxs kd) [0] s) (ha : Rc (bks kd) (endS kd) s) : ∃ w, wU kd 0 w = some s := by
  induction h with
  | base h => rw [List.mem_singleton.mp h]; exact ⟨[], rfl⟩
  | @step s t h1 h2 ih =>
    have hs := Rc_lt ok h1
    obtain ⟨w, hw⟩ := ih (alive_back ok hs h2 ha)
    obtain ⟨k, hk⟩ := nxs_stp.mp h2
    refine ⟨w ++ [k], ?_⟩
    rw [wU_app, hw]
    show wU kd s [k] = _
    rw [wU_one]
    exact sU_eq.mpr ⟨hk, us_mem.mpr ⟨nxs_lt ok hs _ h2, .step h1 h2, ha⟩⟩
theorem to_end {s : Nat} (ha : Rc (bks kd) (endS kd) s) : Rc (nxs kd) [0] s → ∃ w t, wU kd s w = some t ∧ isE kd t = true ∧ t < kd.rows.length := by
  induction ha with
  | @base s h =>
    intro _
    unfold endS at h
    rw [List.mem_filter, List.mem_range] at h
    exact ⟨[], s, rfl, h.2, h.1⟩
  | @step t s h1 h2 ih =>
    intro hm
    unfold bks at h2
    rw [List.mem_filter, List.mem_range, decide_eq_true_iff] at h2
    obtain ⟨w, u, e1, e2, e3⟩ := ih (.step hm h2.2)
    obtain ⟨k, hk⟩ := nxs_stp.mp h2.2
    refine ⟨k :: w, u, ?_, e2, e3⟩
    show (sU kd s k).bind _ = _
    rw [sU_eq.mpr ⟨hk, us_mem.mpr ⟨nxs_lt ok h2.1 _ h2.2, .step hm h2.2, h1⟩⟩]
    exact e1
end
/-! ### a way that is long comes to a state twice -/
theorem nodup_sub {α : Type} [DecidableEq α] : ∀ {l m : List α}, l.Nodup → (∀ x ∈ l, x ∈ m) → l.length ≤ m.length
  | [], m, _, _ => Nat.zero_le _
  | a :: l, m, h, hs => by
    rw [List.nodup_cons] at h
    have ha := hs a List.mem_cons_self
    have := nodup_sub (l := l) (m := m.erase a) h.2 fun x hx => by
      have hne : x ≠ a := fun z => h.1 (by rw [← z]; exact hx)
      exact (List.mem_erase_of_ne hne).mpr (hs x (List.mem_cons_of_mem _ hx))
    rw [List.length_erase_of_mem ha] at this
    have hp := List.length_pos_of_mem ha
    rw [List.length_cons]
    omega
theorem twice {α : Type} [DecidableEq α] (f : Nat → α) (m : List α) {n : Nat} (h : ∀ i, i ≤ n → f i ∈ m) (hn : m.length ≤ n) : ∃ i j, i < j ∧ j ≤ n ∧ f i = f j := by
  apply Classical.byContradiction
  intro hc
  have hd : ((List.range (n + 1)).map f).Nodup := by
    rw [List.Nodup, List.pairwise_map]
    refine List.Pairwise.imp_of_mem ?_ (List.pairwise_lt_range (n := n + 1))
    intro a b ha hb hab he
    rw [List.mem_range] at ha hb
    exact hc ⟨a, b, hab, by omega, he⟩
  have := nodup_sub (m := m) hd fun x hx => by
    obtain ⟨i, hi, rfl⟩ := List.mem_map.mp hx
    exact h i (by rw [List.mem_range] at hi; omega)
  rw [List.length_map, List.length_range] at this
  omega
theorem wU_take {kd : Kd} {w : List Nat} {s t : Nat} (e : wU kd s w = some t) (i : Nat) : ∃ u, wU kd s (w.take i) = some u ∧ wU kd u (w.drop i) = some t := by
  rw [← List.take_append_drop i w, wU_app] at e
  exact bnd e
theorem wU_cut {kd : Kd} {w : List Nat} {s t : Nat} (hs : s ∈ us kd) (e : wU kd s w = some t) (hl : (us kd).length ≤ w.length) :
    ∃ a b c u, w = a ++ (b ++ c) ∧ 1 ≤ b.length ∧ b.length ≤ (us kd).length ∧ u ∈ us kd ∧ wU kd s a = some u ∧ wU kd u b = some u ∧ wU kd u c = some t := by
  obtain ⟨i, j, hij, hj, he⟩ := twice (fun i => (wU kd s (w.take i)).getD 0) (us kd) (n := (us kd).length) (fun i hi => by
    obtain ⟨u, h1, h2⟩ := wU_take e i
    show (wU kd s (w.take i)).getD 0 ∈ _
    rw [h1]
    exact wU_us hs h1) (Nat.le_refl _)
  obtain ⟨u, h1, h2⟩ := wU_take e i
  obtain ⟨u', h1', h2'⟩ := wU_take e j
  have hu : u = u' := by
    have he' : (wU kd s (w.take i)).getD 0 = (wU kd s (w.take j)).getD 0 := he
    rw [h1, h1'] at he'
    exact he'
  subst hu
  have hw : w.take j = w.take i ++ (w.drop i).take (j - i) := by
    have : j = i + (j - i) := by omega
    rw [this, List.take_add]
    congr 2
    omega
  refine ⟨w.take i, (w.drop i).take (j - i), w.drop j, u, ?_, ?_, ?_, wU_us hs h1, h1, ?_, h2'⟩
  · rw [← List.append_assoc, ← hw, List.take_append_drop]
  · rw [List.length_take, List.length_drop]; omega
  · rw [List.length_take, List.length_drop]; omega
  · rw [hw, wU_app, h1] at h1'
    exact h1'
theorem wU_short {kd : Kd} {s t : Nat} (hs : s ∈ us kd) : ∀ (n : Nat) (w : List Nat), w.length ≤ n → wU kd s w = some t → ∃ w', w'.length ≤ (us kd).length ∧ wU kd s w' = some t
  | 0, w, h, e => ⟨w, by omega, e⟩
  | n + 1, w, h, e => by
    rcases Nat.lt_or_ge (us kd).length w.length with z | z
    · obtain ⟨a, b, c, u, rfl, h1, h2, h3, h4, h5, h6⟩ := wU_cut hs e (Nat.le_of_lt z)
      refine wU_short hs n (a ++ c) ?_ ?_
      · simp only [List.length_append] at h ⊢; omega
      · rw [wU_app, h4]; exact h6
    · exact ⟨w, z, e⟩
end Lw

set_option Elab.async false
set_option linter.all false
set_option maxRecDepth 100000
set_option maxHeartbeats 1000000
namespace Lw
open PySem MD L2
theorem call_of {m : MF} {a : MA} {env : Sg} {st s1 s2 : S} {d : D} {ds : List D} (h1 : a env st = some (ds, s1)) (h2 : m ds s1 = some (d, s2)) : callM m a env st = some (d, s2) := by rw [v_callM, h1, Option.bind_some]; exact h2
theorem seq_nx {f h : MS} {env e : Sg} {st s1 : S} (hf : f env st = some (.nx e, s1)) : seqM f h env st = h e s1 := by rw [v_seqM, hf]; rfl
theorem seq_rt {f h : MS} {env : Sg} {st s1 : S} {d : D} (hf : f env st = some (.rt d, s1)) : seqM f h env st = some (.rt d, s1) := by rw [v_seqM, hf]; rfl
theorem par_nx {a : MA} {i j : Nat} {env : Sg} {st s1 : S} {d e : D} (hf : a env st = some ([d, e], s1)) : parM i j a env st = some (.nx ((env.set i (.val d)).set j (.val e)), s1) := by rw [v_parM, hf]; rfl
theorem cons_of {f : ME} {r : MA} {env : Sg} {st s1 s2 : S} {d : D} {ds : List D} (h1 : f env st = some (d, s1)) (h2 : r env s1 = some (ds, s2)) : aCons f r env st = some (d :: ds, s2) := by rw [v_aCons, h1, Option.bind_some, h2]; rfl
theorem ret_of {f : ME} {env : Sg} {st s1 : S} {d : D} (h : f env st = some (d, s1)) : retM f env st = some (.rt d, s1) := by rw [v_retM, h]; rfl
theorem run_of {n : Nat} {b : MS} {ds : List D} {st s1 : S} {d : D} (h : b (ds.map Sl.val ++ List.replicate (n - ds.length) Sl.un) st = some (.rt d, s1)) : runM n b ds st = some (d, s1) := by rw [v_runM, h]; rfl
theorem ifs_t {c : MT} {p q : MS} {env : Sg} {st s1 : S} {r : Option (Fl × S)} (hc : c env st = some (true, s1)) (hp : p env s1 = r) : ifS c p q env st = r := by rw [v_ifS, hc, Option.bind_some]; exact hp
theorem ifs_f {c : MT} {p q : MS} {env : Sg} {st s1 : S} {r : Option (Fl × S)} (hc : c env st = some (false, s1)) (hp : q env s1 = r) : ifS c p q env st = r := by rw [v_ifS, hc, Option.bind_some]; exact hp
theorem asg_nx {f : ME} {i : Nat} {env : Sg} {st s1 : S} {d : D} (hf : f env st = some (d, s1)) : asgM (nameT i) f env st = some (.nx (env.set i (.val d)), s1) := by rw [v_asgM, hf]; rfl
theorem own_nx {a : MA} {i : Nat} {env : Sg} {st s1 : S} {ds : List D} (hf : a env st = some (ds, s1)) : ownM i a env st = some (.nx (env.set i (.own (.lst, ds))), s1) := by rw [v_ownM, hf]; rfl
theorem tst_of {f : ME} {env : Sg} {st s1 : S} {b : Bool} (h : f env st = some (.bl b, s1)) : tstM f env st = some (b, s1) := by rw [v_tstM, h]; rfl
theorem add_tup {f h : ME} {env : Sg} {st s1 s2 : S} {xs ys : List D} (h1 : f env st = some (.tup xs, s1)) (h2 : h env s1 = some (.tup ys, s2)) (hl : xs.length + ys.length ≤ 1000000) : opM addM f h env st = some (.tup (xs ++ ys), s2) := by
  rw [v_opM, h1, Option.bind_some, h2, Option.bind_some, dr_tup, dr_tup, v_addT, grd_of hl]; rfl
theorem tup1 {f : ME} {env : Sg} {st s1 : S} {d : D} (h : f env st = some (d, s1)) : tupM (aCons f aNil) env st = some (.tup [d], s1) := by
  rw [v_tupM, cons_of h v_aNil, Option.bind_some]
  exact grd_of (show 1 ≤ 1000000 by decide)
theorem add_lst {f h : ME} {env : Sg} {st s1 s2 : S} {xs ys : List D} (h1 : f env st = some (.lst xs, s1)) (h2 : h env s1 = some (.lst ys, s2)) (hl : xs.length + ys.length ≤ 1000000) : opM addM f h env st = some (.lst (xs ++ ys), s2) := by
  rw [v_opM, h1, Option.bind_some, h2, Option.bind_some, dr_lst, dr_lst, v_addL, grd_of hl]; rfl
theorem lst_of {a : MA} {env : Sg} {st s1 : S} {ds : List D} (h : a env st = some (ds, s1)) (hl : ds.length ≤ 1000000) : frz (lstM a) env st = some (.lst ds, s1) := by
  rw [v_frz, v_lstM, h, Option.bind_some, grd_of hl]; rfl
theorem for_of {f : ME} {i : Nat} {b : MS} {env : Sg} {st s1 : S} {ds : List D} {r : Option (Fl × S)} (h1 : f env st = some (.lst ds, s1)) (h2 : forL (nameT i) b ds env s1 = r) : forM (seqI f) (nameT i) b env st = r := by
  rw [v_forM, v_seqI, h1]; exact h2
/-! evaluation of the new mirrors -/
section
variable {env : Sg} {st : S}
@[simp] theorem v_fldM {cs : List Str} {f : Str} {fo : ME} : fldM cs f fo env st = (fo env st).bind fun p => (refOf p.1).bind fun n => (insAt cs p.2 n).bind fun z => (lookF z.2.1 z.2.2 f).map fun d => (d, p.2) := (rfl)
@[simp] theorem v_setM {cs : List Str} {f : Str} {fo fv : ME} : setM cs f fo fv env st = (fv env st).bind fun p => (fo env p.2).bind fun o => (refOf o.1).bind fun n => (insAt cs o.2 n).bind fun z => if z.2.1.length < 1000 then some (.nx env, o.2.put n (.ins z.1 (putFN z.2.1 f) (putFV z.2.1 z.2.2 f p.1))) else none := (rfl)
@[simp] theorem v_revM {f : ME} : revM f env st = (f env st).bind fun p => match dr p.2 p.1 with | .lst ds => some (ds.reverse, p.2) | _ => none := (rfl)
theorem fld_of {c f : Str} {fo : ME} {s1 : S} {n : Nat} {fs : List Str} {xs : List D} {d : D} (h : fo env st = some (.ref n, s1)) (hn : s1.ob[n]? = some (.ins c fs xs)) (hl : lookF fs xs f = some d) : fldM [c] f fo env st = some (d, s1) := by
  rw [v_fldM, h]
  show (insAt [c] s1 n).bind _ = _
  unfold insAt
  rw [hn]
  simp [hl]
theorem set_of {c f : Str} {fo fv : ME} {s1 s2 : S} {n : Nat} {fs : List Str} {xs : List D} {d : D} (hv : fv env st = some (d, s1)) (h : fo env s1 = some (.ref n, s2)) (hn : s2.ob[n]? = some (.ins c fs xs)) (hl : fs.length < 1000) : setM [c] f fo fv env st = some (.nx env, s2.put n (.ins c (putFN fs f) (putFV fs xs f d))) := by
  rw [v_setM, hv]
  show (fo env s1).bind _ = _
  rw [h]
  show (insAt [c] s2 n).bind _ = _
  unfold insAt
  rw [hn]
  simp [hl]
theorem meth_of {c m : Str} {mf : MF} {fo : ME} {a : MA} {s1 s2 : S} {n : Nat} {fs : List Str} {xs ds : List D} {r : Option (D × S)} (h : fo env st = some (.ref n, s1)) (hn : s1.ob[n]? = some (.ins c fs xs)) (hm : m ∉ fs) (ha : a env s1 = some (ds, s2)) (hf : mf (.ref n :: ds) s2 = r) : methM c m mf fo a env st = r := by
  show ((fo env st).bind fun p => (refOf p.1).bind fun n => (insAt [c] p.2 n).bind fun z => if m ∉ z.2.1 then (a env p.2).bind fun q => mf (p.1 :: q.1) q.2 else none) = r
  rw [h]
  show (insAt [c] s1 n).bind _ = _
  unfold insAt
  rw [hn]
  simp [hm, ha, hf]
theorem make_of {c : Str} {mf : MF} {a : MA} {s1 s2 : S} {ds : List D} (ha : a env st = some (ds, s1)) (hf : mf (.ref s1.ob.length :: ds) (s1.ad (.ins c [] [])) = some (.non, s2)) : makeM c mf a env st = some (.ref s1.ob.length, s2) := by
  show ((a env st).bind fun p => (mf (.ref p.2.ob.length :: p.1) (p.2.ad (.ins c [] []))).bind fun q => match q.1 with | .non => some (D.ref p.2.ob.length, q.2) | _ => none) = _
  rw [ha]
  show (mf (.ref s1.ob.length :: ds) (s1.ad (.ins c [] []))).bind _ = _
  rw [hf]
  rfl
end
theorem r3_of {a : MA} {env : Sg} {st s1 : S} {i : Nat} (hi : i ≤ 1000000) (h : a env st = some ([.int ((i : Int) - 1), .int (-1), .int (-1)], s1)) : r3M a env st = some ((List.range i).map fun k => D.int ((i : Int) - 1 - (k : Nat)), s1) := by
  show ((a env st).bind fun p => match p.1 with | [.int i, .int j, .int c] => if c = -1 ∧ -(2 ^ 62) ≤ i ∧ i < 2 ^ 62 ∧ -(2 ^ 62) ≤ j ∧ j < 2 ^ 62 then some (dnD i (i - j).toNat, p.2) else none | _ => none) = _
  rw [h]
  show (if (-1 : Int) = -1 ∧ -(2 ^ 62) ≤ (i : Int) - 1 ∧ (i : Int) - 1 < 2 ^ 62 ∧ -(2 ^ 62) ≤ (-1 : Int) ∧ (-1 : Int) < 2 ^ 62 then some (dnD ((i : Int) - 1) ((i : Int) - 1 - -1).toNat, s1) else none) = _
  rw [if_pos (by refine ⟨rfl, ?_, ?_, by decide, by decide⟩ <;> omega)]
  have : ((i : Int) - 1 - -1).toNat = i := by omega
  rw [this]
  unfold dnD
  congr 3
  funext k
  congr 1
  omega
end Lw

set_option Elab.async false
set_option linter.all false
set_option maxRecDepth 100000
set_option maxHeartbeats 1000000
namespace Lw
open PySem MD L2
theorem tN_flat (a : List Nat) : (tN a).all flatD = true := by
  rw [List.all_eq_true]
  intro d hd
  obtain ⟨x, _, rfl⟩ := List.mem_map.mp hd
  rfl
theorem inSeq_nats (neg : Bool) {x : D} (hx : flatD x = true) (a : List Nat) : inSeq neg x (.lst (tN a)) = some (.bl (if neg then !inB x (tN a) else inB x (tN a))) := by
  show (if (flatD x && (tN a).all flatD) = true then some (D.bl (if neg then !inB x (tN a) else inB x (tN a))) else none) = _
  rw [hx, tN_flat]
  rfl
theorem inB_nats (x : Nat) (a : List Nat) : inB (nD x) (tN a) = decide (x ∈ a) := by
  unfold inB
  induction a with
  | nil => rfl
  | cons y r ih =>
    rw [show tN (y :: r) = nD y :: tN r from rfl, List.any_cons, ih]
    show ((((y : Nat) : Int) == ((x : Nat) : Int)) || decide (x ∈ r)) = _
    by_cases h1 : y = x
    · simp [h1]
    · have h2 : x ≠ y := fun z => h1 z.symm
      simp [h1, h2]
      omega
theorem in_nats (x : Nat) (a : List Nat) : inM (nD x) (.lst (tN a)) = some (.bl (decide (x ∈ a))) := by
  show inSeq false (nD x) (.lst (tN a)) = _
  rw [inSeq_nats false rfl, inB_nats]
  rfl
theorem notin_nats (x : Nat) (a : List Nat) : notInM (nD x) (.lst (tN a)) = some (.bl (!decide (x ∈ a))) := by
  show inSeq true (nD x) (.lst (tN a)) = _
  rw [inSeq_nats true rfl, inB_nats]
  rfl
theorem none_in (a : List Nat) : inM .non (.lst (tN a)) = some (.bl false) := by
  show inSeq false .non (.lst (tN a)) = _
  rw [inSeq_nats false rfl]
  have hb : inB .non (tN a) = false := by
    unfold inB
    rw [List.any_eq_false]
    intro d hd
    obtain ⟨x, _, rfl⟩ := List.mem_map.mp hd
    simp [eqFD]
  rw [hb]
  rfl
theorem t1 {kd : Kd} (st : S) (r : Sg) : (opM subD (rd 0) (cst (.int 1))) (.val (tK kd) :: r) st = some (.tup (kd.rows.map rowD), st) := by simp
theorem t2 {kd : Kd} (st : S) (r : Sg) : (aCons (cbM lenA (aCons (opM subD (rd 0) (cst (.int 1))) aNil)) aNil) (.val (tK kd) :: r) st = some ([nD kd.rows.length], st) := by
  have h := t1 (kd := kd) st r
  generalize opM subD (rd 0) (cst (.int 1)) = O at h
  simp [h]
theorem r1_of {a : MA} {env : Sg} {st : S} {m : Nat} (hg : m ≤ 1000000) (h : a env st = some ([nD m], st)) : r1M a env st = some (tN (List.range m), st) := by
  rw [v_r1M, h, Option.bind_some, rng_of hg, rng_map]
  rfl
theorem forM_of {it : MI} {t : MG} {b : MS} {env : Sg} {st : S} {ds : List D} {r : Option (Fl × S)} (h : it env st = some (ds, st)) (e : forL t b ds env st = r) : forM it t b env st = r := by
  rw [v_forM, h]
  exact e
theorem forL_cons_of {t : MG} {b : MS} {d : D} {ds : List D} {env e1 e2 : Sg} {st st2 : S} {r : Option (Fl × S)} (ht : t d env = some e1) (hb : b e1 st = some (.nx e2, st2)) (e : forL t b ds e2 st2 = r) : forL t b (d :: ds) env st = r := by
  rw [v_forL, ht, Option.bind_some, hb, Option.bind_some]
  exact e
end Lw

set_option Elab.async false
set_option linter.all false
set_option maxRecDepth 100000
set_option maxHeartbeats 1000000
namespace Lw
open PySem MD L2
/-! ### steps_of -/
abbrev edD (l : List (Nat × Nat)) : List D := l.map fun e => D.tup [nD e.1, nD e.2]
noncomputable abbrev stV (kd : Kd) (s : Nat) : D := D.lst (edD (eds kd s))
noncomputable abbrev stD (kd : Kd) : D := .dic (tKs (us kd)) ((us kd).map (stV kd))
theorem in_natsT (x : Nat) (a : List Nat) : inM (nD x) (.tup (tN a)) = some (.bl (decide (x ∈ a))) := by
  show (if (flatD (nD x) && (tN a).all flatD) = true then some (D.bl (inB (nD x) (tN a))) else none) = _
  rw [tN_flat, inB_nats]
  rfl
theorem none_inT (a : List Nat) : inM .non (.tup (tN a)) = some (.bl false) := by
  have h := none_in a
  have h1 : inM .non (.lst (tN a)) = (if (flatD .non && (tN a).all flatD) = true then some (D.bl (inB .non (tN a))) else none) := rfl
  have h2 : inM .non (.tup (tN a)) = (if (flatD .non && (tN a).all flatD) = true then some (D.bl (inB .non (tN a))) else none) := rfl
  rw [h2, ← h1, h]
theorem row_rng {kd : Kd} (ok : kd.Ok) {s : Nat} (hs : s < kd.rows.length) : (row kd s).map optD = (List.range kd.k).map fun j => optD (stp kd s j) := by
  apply List.ext_getElem?
  intro i
  rw [List.getElem?_map, List.getElem?_map]
  have hl := ok.rl _ (row_mem hs)
  rcases Nat.lt_or_ge i kd.k with h | h
  · rw [List.getElem?_range h, List.getElem?_eq_getElem (by rw [hl]; exact h)]
    have e : stp kd s i = (row kd s)[i]'(by rw [hl]; exact h) := by
      unfold stp
      rw [List.getElem?_eq_getElem (by rw [hl]; exact h)]
      rfl
    show some (optD _) = some (optD (stp kd s i))
    rw [e]
  · rw [List.getElem?_eq_none (by rw [hl]; exact h), List.getElem?_eq_none (by simpa using h)]
    rfl
noncomputable def soC : MA := compM (enumI (opM subD (opM subD (rd 0) (cst (.int 1))) (rd 3))) (tupT 2 (consT (nameT 4) (consT (nameT 5) nilT))) (tstM (opM (cntD false) (rd 5) (rd 1))) (tupM (aCons (rd 4) (aCons (rd 5) aNil))) [4, 5]
theorem so_comp {kd : Kd} (s : Nat) (st : S) (x0 x2 x3 : Sl) (js : List Nat) :
    compL (tupT 2 (consT (nameT 4) (consT (nameT 5) nilT))) (tstM (opM (cntD false) (rd 5) (rd 1))) (tupM (aCons (rd 4) (aCons (rd 5) aNil))) [x0, .val (.tup (tN (us kd))), x2, x3, .un, .un] (js.map fun j => D.tup [nD j, optD (stp kd s j)]) st = some (edD (js.filterMap fun k => (sU kd s k).map fun t => (k, t)), st) := by
  induction js with
  | nil => rfl
  | cons j js ih =>
    rw [List.map_cons, v_compL]
    cases hs : stp kd s j with
    | none =>
      have e : sU kd s j = none := by unfold sU; rw [hs]; rfl
      rw [show optD none = D.non from rfl]
      simp [ih, e, none_inT]
    | some t =>
      by_cases ht : t ∈ us kd
      · have e : sU kd s j = some t := sU_eq.mpr ⟨hs, ht⟩
        have hi := in_natsT t (us kd)
        rw [show optD (some t) = nD t from rfl]
        simp [ih, e, hi, ht, grd_of (show 2 ≤ 1000000 by decide)]
      · have e : sU kd s j = none := by unfold sU; rw [hs]; show (if t ∈ us kd then some t else none) = none; rw [if_neg ht]
        have hi := in_natsT t (us kd)
        rw [show optD (some t) = nD t from rfl]
        simp [ih, e, hi, ht]
theorem soC_ok {kd : Kd} (ok : kd.Ok) {s : Nat} (hs : s < kd.rows.length) (st : S) (x2 : Sl) : frz soC [.val (tK kd), .val (.tup (tN (us kd))), x2, .val (nD s), .un, .un] st = some (stV kd s, st) := by
  have h1 : (opM subD (opM subD (rd 0) (cst (.int 1))) (rd 3)) [.val (tK kd), .val (.tup (tN (us kd))), x2, .val (nD s), .un, .un] st = some (rowD (row kd s), st) := by
    simp [tK1, row_D hs]
  have h2 := so_comp (kd := kd) s st (.val (tK kd)) x2 (.val (nD s)) (List.range kd.k)
  unfold soC
  rw [v_frz, v_compM, v_enumI, h1]
  simp only [Option.bind_some, v_seqT, Option.map_some]
  have hk := ok.k4
  rw [show enumD (List.map optD (row kd s)) = (List.range kd.k).map fun j => D.tup [nD j, optD (stp kd s j)] by rw [row_rng ok hs, enum_rng], grd_of (by simp; omega)]
  simp only [v_wipe1, v_wipe0, List.set_cons_succ, List.set_cons_zero]
  rw [h2]
  rfl
theorem putK_gen {F : List Nat} {x : Nat} (h : x ∉ F) (xs : List D) (v : D) : putKs (tKs F) (nK x) = tKs (F ++ [x]) ∧ putVs (tKs F) xs (nK x) v = xs ++ [v] := by
  constructor
  · unfold putKs
    rw [hasK_n, decide_eq_false h]
    simp
  · unfold putVs
    rw [hasK_n, decide_eq_false h]
    rfl
theorem dput_of {i : Nat} {f h : ME} {env : Sg} {st s1 s2 : S} {ks : List Key} {ds : List D} {k : Key} {dk v : D} (he : env[i]? = some (.own (.dic ks, ds))) (hv : h env st = some (v, s1)) (hk : f env s1 = some (dk, s2)) (hd : keyOf dk = some k) (hl : ds.length < 1000000) : dputM i f h env st = some (.nx (env.set i (.own (.dic (putKs ks k), putVs ks ds k v))), s2) := by
  rw [v_dputM, he]
  simp [hv, hk, hd, grd_of (show ds.length + 1 ≤ 1000000 by omega)]
theorem so_for {kd : Kd} (ok : kd.Ok) (st : S) : ∀ (ss F : List Nat) (x3 : Sl), (F ++ ss).Nodup → (∀ s ∈ ss, s < kd.rows.length) → F.length + ss.length ≤ 1000 →
    ∃ y3, forL (nameT 3) (dputM 2 (rd 3) (frz soC)) (tN ss) [.val (tK kd), .val (.tup (tN (us kd))), .own (.dic (tKs F), F.map (stV kd)), x3, .un, .un] st = some (.nx [.val (tK kd), .val (.tup (tN (us kd))), .own (.dic (tKs (F ++ ss)), (F ++ ss).map (stV kd)), y3, .un, .un], st)
  | [], F, x3, _, _, _ => ⟨x3, by rw [List.append_nil]; rfl⟩
  | s :: ss, F, x3, hd, hs, hl => by
    have hn : s ∉ F := fun z => by
      rw [List.nodup_append] at hd
      exact hd.2.2 s z s List.mem_cons_self rfl
    rw [List.length_cons] at hl
    obtain ⟨y3, ih⟩ := so_for ok st ss (F ++ [s]) (.val (nD s)) (by simpa using hd) (fun x hx => hs x (List.mem_cons_of_mem _ hx)) (by simp; omega)
    refine ⟨y3, ?_⟩
    obtain ⟨e1, e2⟩ := putK_gen hn (F.map (stV kd)) (stV kd s)
    refine forL_cons_of (e1 := [.val (tK kd), .val (.tup (tN (us kd))), .own (.dic (tKs F), F.map (stV kd)), .val (nD s), .un, .un]) rfl (dput_of (ks := tKs F) (ds := F.map (stV kd)) rfl (soC_ok ok (hs s List.mem_cons_self) st _) (by rfl) rfl (by simp; omega)) ?_
    rw [e1, e2]
    rw [show F ++ s :: ss = (F ++ [s]) ++ ss by simp, ← ih, List.map_append]
    rfl
theorem steps_ok {kd : Kd} (ok : kd.Ok) (st : S) : ∃ s7 : S, m_steps_of [tK kd] st = some (stD kd, s7) ∧ s7.n = st.n := by
  obtain ⟨s7, h1, h2⟩ := used_us ok st
  have hl := us_len kd
  have hm := ok.m8
  obtain ⟨y3, h3⟩ := so_for ok s7 (us kd) [] .un (by simpa using us_nodup kd) (fun s hs => us_lt hs) (by simp; omega)
  refine ⟨s7, ?_, h2⟩
  refine run_of (b := b_steps_of) ?_
  show seqM (asgM (nameT 1) (callM m_used (aCons (rd 0) aNil))) (seqM (ownK 2 newK) (seqM (forM (seqI (rd 1)) (nameT 3) (dputM 2 (rd 3) (frz soC))) (frzM 2 (retM (rd 2))))) [.val (tK kd), .un, .un, .un, .un, .un] st = _
  rw [seq_nx (asg_nx (call_of (ds := [tK kd]) rfl h1))]
  rw [seq_nx (e := [.val (tK kd), .val (.tup (tN (us kd))), .own (.dic (tKs []), [].map (stV kd)), .un, .un, .un]) rfl]
  rw [seq_nx (forM_of (ds := tN (us kd)) rfl h3)]
  rfl
/-! ### ends_of -/
noncomputable def enU (kd : Kd) : List Nat := (us kd).filter (isE kd)
theorem tK_end {kd : Kd} (ok : kd.Ok) {s : Nat} (hs : s < kd.rows.length) (st : S) (r : Sg) (i : Nat) (hi : (Sl.val (tK kd) :: r)[i]? = some (.val (nD s))) : (opM subD (opM subD (rd 0) (cst (.int 2))) (rd i)) (.val (tK kd) :: r) st = some (.bl (isE kd s), st) := by
  simp [hi, tK2, end_D ok hs]
end Lw

set_option Elab.async false
set_option linter.all false
namespace Bf
/-! ### words in order of length, then of letters -/
def slt (v u : List Nat) : Prop := v.length < u.length ∨ (v.length = u.length ∧ v < u)
def sle (v u : List Nat) : Prop := v.length < u.length ∨ (v.length = u.length ∧ (v < u ∨ v = u))
theorem lt_app : ∀ {v u : List Nat} (a b : List Nat), v.length = u.length → v < u → v ++ a < u ++ b
  | [], [], _, _, _, h => absurd h (List.lt_irrefl _)
  | [], y :: u, _, _, h, _ => by simp at h
  | x :: v, [], _, _, h, _ => by simp at h
  | x :: v, y :: u, a, b, h, hl => by
    rw [List.cons_append, List.cons_append]
    rcases List.cons_lt_cons_iff.mp hl with h1 | ⟨h1, h2⟩
    · exact List.cons_lt_cons_iff.mpr (.inl h1)
    · exact List.cons_lt_cons_iff.mpr (.inr ⟨h1, lt_app a b (by simpa using h) h2⟩)
theorem lt_snoc {v : List Nat} {x y : Nat} (h : x < y) : v ++ [x] < v ++ [y] := by
  induction v with
  | nil => exact List.cons_lt_cons_iff.mpr (.inl h)
  | cons z v ih => exact List.cons_lt_cons_iff.mpr (.inr ⟨rfl, ih⟩)
theorem sle_snoc {v u : List Nat} (h : sle v u) (x : Nat) : sle (v ++ [x]) (u ++ [x]) := by
  rcases h with h | ⟨h1, h2 | h2⟩
  · exact .inl (by simp; exact h)
  · exact .inr ⟨by simp [h1], .inl (lt_app _ _ h1 h2)⟩
  · subst h2; exact .inr ⟨rfl, .inr rfl⟩
theorem sle_trans {a b c : List Nat} (h : sle a b) (h' : sle b c) : sle a c := by
  rcases h with h | ⟨h1, h2⟩
  · rcases h' with h' | ⟨h3, h4⟩
    · exact .inl (by omega)
    · exact .inl (by omega)
  · rcases h' with h' | ⟨h3, h4⟩
    · exact .inl (by omega)
    · refine .inr ⟨by omega, ?_⟩
      rcases h2 with h2 | h2
      · rcases h4 with h4 | h4
        · exact .inl (List.lt_trans h2 h4)
        · subst h4; exact .inl h2
      · subst h2; exact h4
theorem sle_slt {a b c : List Nat} (h : sle a b) (h' : slt b c) : slt a c := by
  rcases h with h | ⟨h1, h2⟩
  · rcases h' with h' | ⟨h3, h4⟩
    · exact .inl (by omega)
    · exact .inl (by omega)
  · rcases h' with h' | ⟨h3, h4⟩
    · exact .inl (by omega)
    · refine .inr ⟨by omega, ?_⟩
      rcases h2 with h2 | h2
      · exact List.lt_trans h2 h4
      · subst h2; exact h4
theorem sle_refl (a : List Nat) : sle a a := .inr ⟨rfl, .inr rfl⟩
/-- different numbers below N are at most N -/
theorem nodup_le : ∀ (N : Nat) (l : List Nat), l.Nodup → (∀ x ∈ l, x < N) → l.length ≤ N
  | 0, l, _, h => by
    cases l with
    | nil => exact Nat.le_refl _
    | cons x l => exact absurd (h x List.mem_cons_self) (Nat.not_lt_zero _)
  | N + 1, l, hn, h => by
    have hf : (l.filter (· ≠ N)).length ≤ N := nodup_le N _ (hn.filter _) fun x hx => by
      rw [List.mem_filter] at hx
      have := h x hx.1
      have h2 : x ≠ N := by simpa using hx.2
      omega
    have hc : (l.filter (fun x => !decide (x ≠ N))).length ≤ 1 := by
      have hn2 : (l.filter (fun x => !decide (x ≠ N))).Nodup := hn.filter _
      have hall : ∀ x ∈ l.filter (fun x => !decide (x ≠ N)), x = N := fun x hx => by
        rw [List.mem_filter] at hx
        have := hx.2
        simpa using this
      generalize l.filter (fun x => !decide (x ≠ N)) = m at hn2 hall
      match m, hn2, hall with
      | [], _, _ => simp
      | [_], _, _ => simp
      | a :: b :: r, hn2, hall =>
        have e1 := hall a (by simp)
        have e2 := hall b (by simp)
        rw [List.nodup_cons] at hn2
        exact absurd (by rw [e1, e2]; simp) hn2.1
    have : ∀ (p : Nat → Bool) (l : List Nat), l.length = (l.filter p).length + (l.filter (fun x => !p x)).length := fun p l => by
      induction l with
      | nil => rfl
      | cons x l ih =>
        by_cases hp : p x = true
        · simp [hp, ih]; omega
        · simp [hp, ih]; omega
    have e := this (fun x => decide (x ≠ N)) l
    omega

/-! ### a system that reads letters, searched layer by layer -/
structure Sys (C : Type) where
  k : Nat
  step : C → Nat → Option C
  goal : C → Bool
section
variable {C Kn : Type} (M : Sys C) (test : Kn → C → Option Kn)
/-- letter number of a code -/
def rd1 (c : C) (x : Nat) : Option C := if 97 ≤ x ∧ x < 97 + M.k then M.step c (x - 97) else none
def run : C → List Nat → Option C
  | c, [] => some c
  | c, x :: w => (rd1 M c x).bind fun c' => run c' w
def exp (c : C) (w : List Nat) : List Nat → Kn → List (C × List Nat) → Kn × List (C × List Nat)
  | [], kn, fu => (kn, fu)
  | x :: xs, kn, fu => match M.step c x with
    | none => exp c w xs kn fu
    | some c' => match test kn c' with
      | none => exp c w xs kn fu
      | some kn' => exp c w xs kn' (fu ++ [(c', w ++ [97 + x])])
theorem exp_n {M : Sys C} {test : Kn → C → Option Kn} {c : C} {w : List Nat} {x : Nat} {xs : List Nat} {kn : Kn} {fu : List (C × List Nat)} (h : M.step c x = none) : exp M test c w (x :: xs) kn fu = exp M test c w xs kn fu := by
  simp [exp, h]
theorem exp_r {M : Sys C} {test : Kn → C → Option Kn} {c c' : C} {w : List Nat} {x : Nat} {xs : List Nat} {kn : Kn} {fu : List (C × List Nat)} (h : M.step c x = some c') (h' : test kn c' = none) : exp M test c w (x :: xs) kn fu = exp M test c w xs kn fu := by
  simp [exp, h, h']
theorem exp_a {M : Sys C} {test : Kn → C → Option Kn} {c c' : C} {w : List Nat} {x : Nat} {xs : List Nat} {kn kn' : Kn} {fu : List (C × List Nat)} (h : M.step c x = some c') (h' : test kn c' = some kn') : exp M test c w (x :: xs) kn fu = exp M test c w xs kn' (fu ++ [(c', w ++ [97 + x])]) := by
  simp [exp, h, h']
def lay : List (C × List Nat) → Kn → List (C × List Nat) → List Nat ⊕ (Kn × List (C × List Nat))
  | [], kn, fu => .inr (kn, fu)
  | (c, w) :: r, kn, fu => if M.goal c = true then .inl w else lay r (exp M test c w (List.range M.k) kn fu).1 (exp M test c w (List.range M.k) kn fu).2
def bfs : Nat → Kn → List (C × List Nat) → Option (Option (List Nat))
  | 0, _, _ => none
  | _ + 1, _, [] => some none
  | n + 1, kn, p :: L => match lay M test (p :: L) kn [] with
    | .inl w => some (some w)
    | .inr q => bfs n q.1 q.2
end
theorem run_snoc {C : Type} {M : Sys C} : ∀ (w : List Nat) (c : C) (x : Nat), run M c (w ++ [x]) = (run M c w).bind fun c' => rd1 M c' x
  | [], c, x => by
    show (rd1 M c x).bind (fun c' => some c') = rd1 M c x
    cases rd1 M c x <;> rfl
  | y :: w, c, x => by
    show (rd1 M c y).bind (fun c' => run M c' (w ++ [x])) = ((rd1 M c y).bind fun c' => run M c' w).bind _
    cases rd1 M c y with
    | none => rfl
    | some c' => exact run_snoc w c' x
/-! how long the told word is -/
section
variable {C Kn : Type} {M : Sys C} {test : Kn → C → Option Kn}
theorem exp_len {c : C} {w : List Nat} {n : Nat} (hw : w.length = n) : ∀ (xs : List Nat) (kn : Kn) (fu : List (C × List Nat)), (∀ p ∈ fu, p.2.length = n + 1) → ∀ p ∈ (exp M test c w xs kn fu).2, p.2.length = n + 1
  | [], kn, fu, h => h
  | x :: xs, kn, fu, h => by
    cases hs : M.step c x with
    | none => rw [exp_n hs]; exact exp_len hw xs kn fu h
    | some c' =>
      cases ht : test kn c' with
      | none => rw [exp_r hs ht]; exact exp_len hw xs kn fu h
      | some kn' =>
        rw [exp_a hs ht]
        refine exp_len hw xs kn' _ fun p hp => ?_
        rcases List.mem_append.mp hp with z | z
        · exact h p z
        · rw [List.mem_singleton.mp z]; simp [hw]
theorem lay_len {n : Nat} : ∀ (R : List (C × List Nat)) (kn : Kn) (fu : List (C × List Nat)), (∀ p ∈ R, p.2.length = n) → (∀ p ∈ fu, p.2.length = n + 1) →
    (∀ w, lay M test R kn fu = .inl w → w.length = n) ∧ ∀ q, lay M test R kn fu = .inr q → ∀ p ∈ q.2, p.2.length = n + 1
  | [], kn, fu, _, h => ⟨fun w e => (by cases e), fun q e => by cases e; exact h⟩
  | (c, w) :: R, kn, fu, hR, h => by
    have hw : w.length = n := hR _ List.mem_cons_self
    unfold lay
    by_cases hg : M.goal c = true
    · rw [if_pos hg]
      exact ⟨fun w' e => (by cases e; exact hw), fun q e => (by cases e)⟩
    · rw [if_neg hg]
      exact lay_len R _ _ (fun p hp => hR p (List.mem_cons_of_mem _ hp)) (exp_len hw _ kn fu h)
theorem bfs_len : ∀ (m n : Nat) (kn : Kn) (L : List (C × List Nat)) (w : List Nat), (∀ p ∈ L, p.2.length = n) → bfs M test m kn L = some (some w) → w.length < n + m
  | 0, _, _, _, _, _, h => by cases h
  | m + 1, n, kn, [], w, _, h => by cases h
  | m + 1, n, kn, p0 :: L, w, hL, h => by
    rw [bfs] at h
    have hl := lay_len (M := M) (test := test) (p0 :: L) kn [] hL (fun p hp => nomatch hp)
    cases hc : lay M test (p0 :: L) kn [] with
    | inl w' =>
      rw [hc] at h
      cases h
      have := hl.1 _ hc
      omega
    | inr q =>
      rw [hc] at h
      have := bfs_len m (n + 1) q.1 q.2 w (hl.2 q hc) h
      omega
end
structure Dom {C Kn : Type} (M : Sys C) (test : Kn → C → Option Kn) where
  dom : C → C → Prop
  refl : ∀ a, dom a a
  trans : ∀ {a b c}, dom a b → dom b c → dom a c
  stepm : ∀ {a b b' x}, dom a b → M.step b x = some b' → ∃ a', M.step a x = some a' ∧ dom a' b'
  goalm : ∀ {a b}, dom a b → M.goal b = true → M.goal a = true
  mem : Kn → C → Prop
  rej : ∀ {kn c}, test kn c = none → ∃ a, mem kn a ∧ dom a c
  new : ∀ {kn c kn'}, test kn c = some kn' → mem kn' c
  old : ∀ {kn c kn' a}, test kn c = some kn' → mem kn a → ∃ a', mem kn' a' ∧ dom a' a
  from_ : ∀ {kn c kn' a}, test kn c = some kn' → mem kn' a → mem kn a ∨ a = c
  no : ∀ {kn c kn' a}, test kn c = some kn' → mem kn a → ¬ dom a c
section
variable {C Kn : Type} {M : Sys C} {test : Kn → C → Option Kn} (T : Dom M test) (c0 : C)
/-- what is known of all that was found: Ds, in the order it was found -/
structure Fnd (kn : Kn) (Ds : List (C × List Nat)) : Prop where
  run : ∀ p ∈ Ds, run M c0 p.2 = some p.1
  mem : ∀ a, T.mem kn a → ∃ w, (a, w) ∈ Ds
  cov : ∀ p ∈ Ds, ∃ a, T.mem kn a ∧ T.dom a p.1
  nd : (Ds.map (·.1)).Nodup
/-- all that follows p is covered -/
def Cl (Ds : List (C × List Nat)) (p : C × List Nat) : Prop := ∀ x c', x < M.k → M.step p.1 x = some c' → ∃ q ∈ Ds, T.dom q.1 c' ∧ sle q.2 (p.2 ++ [97 + x])
variable {T c0}
theorem Cl.mono {Ds Ds' : List (C × List Nat)} {p : C × List Nat} (h : Cl T Ds p) (hs : ∀ q ∈ Ds, q ∈ Ds') : Cl T Ds' p := fun x c' hx e => by
  obtain ⟨q, h1, h2⟩ := h x c' hx e
  exact ⟨q, hs q h1, h2⟩
theorem Fnd.step {kn kn' : Kn} {Ds : List (C × List Nat)} {c c' : C} {w : List Nat} {x : Nat} (hF : Fnd T c0 kn Ds) (hr : Bf.run M c0 w = some c) (hx : x < M.k) (hs : M.step c x = some c') (ht : test kn c' = some kn') : Fnd T c0 kn' (Ds ++ [(c', w ++ [97 + x])]) := by
  have hrun : Bf.run M c0 (w ++ [97 + x]) = some c' := by
    rw [run_snoc, hr]
    show rd1 M c (97 + x) = _
    unfold rd1
    rw [if_pos ⟨by omega, by omega⟩, Nat.add_sub_cancel_left, hs]
  refine ⟨fun p hp => ?_, fun a ha => ?_, fun p hp => ?_, ?_⟩
  · rcases List.mem_append.mp hp with h | h
    · exact hF.run p h
    · rw [List.mem_singleton.mp h]; exact hrun
  · rcases T.from_ ht ha with h | h
    · obtain ⟨v, hv⟩ := hF.mem a h
      exact ⟨v, List.mem_append_left _ hv⟩
    · subst h; exact ⟨w ++ [97 + x], by simp⟩
  · rcases List.mem_append.mp hp with h | h
    · obtain ⟨a, h1, h2⟩ := hF.cov p h
      obtain ⟨a', h3, h4⟩ := T.old ht h1
      exact ⟨a', h3, T.trans h4 h2⟩
    · rw [List.mem_singleton.mp h]; exact ⟨c', T.new ht, T.refl c'⟩
  · rw [List.map_append, List.nodup_append]
    refine ⟨hF.nd, by simp, fun a ha b hb z => ?_⟩
    obtain ⟨p, hp, rfl⟩ := List.mem_map.mp ha
    have hb' : b = c' := by simpa using hb
    obtain ⟨q, h1, h2⟩ := hF.cov p hp
    refine T.no ht h1 ?_
    rw [← hb', ← z]
    exact h2
/-- the letters of one word -/
theorem exp_ok {c : C} {w : List Nat} {Ds0 : List (C × List Nat)} (hr : run M c0 w = some c) (hl : ∀ p ∈ Ds0, p.2.length ≤ w.length) : ∀ (j : Nat), j ≤ M.k → ∀ (kn : Kn) (fu : List (C × List Nat)),
    Fnd T c0 kn (Ds0 ++ fu) → (∀ p ∈ fu, p.2.length = w.length + 1) → (fu.map (·.2)).Pairwise (· < ·) → (∀ p ∈ fu, ∀ x, M.k - j ≤ x → p.2 < w ++ [97 + x]) →
    (∀ x c', x < M.k - j → M.step c x = some c' → ∃ q ∈ Ds0 ++ fu, T.dom q.1 c' ∧ sle q.2 (w ++ [97 + x])) →
    ∃ more, (exp M test c w (List.range' (M.k - j) j) kn fu).2 = fu ++ more ∧ Fnd T c0 (exp M test c w (List.range' (M.k - j) j) kn fu).1 (Ds0 ++ (fu ++ more)) ∧ (∀ p ∈ fu ++ more, p.2.length = w.length + 1) ∧ ((fu ++ more).map (·.2)).Pairwise (· < ·) ∧
      (∀ p ∈ more, ∃ x, x < M.k ∧ p.2 = w ++ [97 + x]) ∧ Cl T (Ds0 ++ (fu ++ more)) (c, w)
  | 0, _, kn, fu, hF, hfl, hp, _, hc => by
    refine ⟨[], by simp [exp], by simpa [exp] using hF, by simpa using hfl, by simpa using hp, by simp, ?_⟩
    rw [List.append_nil]
    exact fun x c' hx e => hc x c' (by omega) e
  | j + 1, hj, kn, fu, hF, hfl, hp, hlt, hc => by
    have er : List.range' (M.k - (j + 1)) (j + 1) = (M.k - (j + 1)) :: List.range' (M.k - j) j := by
      rw [List.range'_succ]
      congr 2
      omega
    rw [er]
    generalize hx0 : M.k - (j + 1) = x0
    have hx0k : x0 < M.k := by omega
    have hx1 : M.k - j = x0 + 1 := by omega
    have skip : (∀ c', M.step c x0 = some c' → ∃ q ∈ Ds0 ++ fu, T.dom q.1 c' ∧ sle q.2 (w ++ [97 + x0])) → _ := fun hc0 =>
      exp_ok hr hl j (by omega) kn fu hF hfl hp (fun p hp x hx => hlt p hp x (by omega)) fun x c' hx e => by
        by_cases h : x < x0
        · exact hc x c' (by omega) e
        · have : x = x0 := by omega
          subst this
          exact hc0 c' e
    cases hs : M.step c x0 with
    | none => rw [exp_n hs]; exact skip fun c' e => by rw [hs] at e; cases e
    | some c' =>
      cases ht : test kn c' with
      | none =>
        rw [exp_r hs ht]
        refine skip fun c'' e => ?_
        rw [hs] at e
        cases e
        obtain ⟨a, ha, hd⟩ := T.rej ht
        obtain ⟨v, hv⟩ := hF.mem a ha
        refine ⟨(a, v), hv, hd, ?_⟩
        rcases List.mem_append.mp hv with h | h
        · have := hl _ h
          exact .inl (by simp at this ⊢; omega)
        · exact .inr ⟨by rw [hfl _ h]; simp, .inl (hlt _ h x0 (by omega))⟩
      | some kn' =>
        have hrun : run M c0 (w ++ [97 + x0]) = some c' := by
          rw [run_snoc, hr]
          show rd1 M c (97 + x0) = _
          unfold rd1
          rw [if_pos ⟨by omega, by omega⟩, Nat.add_sub_cancel_left, hs]
        have hF' : Fnd T c0 kn' (Ds0 ++ (fu ++ [(c', w ++ [97 + x0])])) := by
          rw [← List.append_assoc]
          refine ⟨fun p hp => ?_, fun a ha => ?_, fun p hp => ?_, ?_⟩
          · rcases List.mem_append.mp hp with h | h
            · exact hF.run p h
            · rw [List.mem_singleton.mp h]; exact hrun
          · rcases T.from_ ht ha with h | h
            · obtain ⟨v, hv⟩ := hF.mem a h
              exact ⟨v, List.mem_append_left _ hv⟩
            · subst h; exact ⟨w ++ [97 + x0], by simp⟩
          · rcases List.mem_append.mp hp with h | h
            · obtain ⟨a, h1, h2⟩ := hF.cov p h
              obtain ⟨a', h3, h4⟩ := T.old ht h1
              exact ⟨a', h3, T.trans h4 h2⟩
            · rw [List.mem_singleton.mp h]; exact ⟨c', T.new ht, T.refl c'⟩
          · rw [List.map_append, List.nodup_append]
            refine ⟨hF.nd, by simp, fun a ha b hb z => ?_⟩
            obtain ⟨p, hp, rfl⟩ := List.mem_map.mp ha
            have hb' : b = c' := by simpa using hb
            obtain ⟨q, h1, h2⟩ := hF.cov p hp
            refine T.no ht h1 ?_
            rw [← hb', ← z]
            exact h2
        obtain ⟨more, g1, g2, g3, g4, g5, g6⟩ := exp_ok hr hl j (by omega) kn' (fu ++ [(c', w ++ [97 + x0])]) hF' (fun p hp => by
            rcases List.mem_append.mp hp with h | h
            · exact hfl p h
            · rw [List.mem_singleton.mp h]; simp) (by
            rw [List.map_append, List.pairwise_append]
            refine ⟨hp, by simp, fun a ha b hb => ?_⟩
            obtain ⟨p, hp', rfl⟩ := List.mem_map.mp ha
            have hb' : b = w ++ [97 + x0] := by simpa using hb
            rw [hb']
            exact hlt p hp' x0 (by omega)) (fun p hp x hx => by
            rcases List.mem_append.mp hp with h | h
            · exact hlt p h x (by omega)
            · rw [List.mem_singleton.mp h]
              exact lt_snoc (by omega)) fun x c'' hx e => by
            by_cases h : x < x0
            · obtain ⟨q, h1, h2⟩ := hc x c'' (by omega) e
              refine ⟨q, ?_, h2⟩
              rw [← List.append_assoc]
              exact List.mem_append_left _ h1
            · have : x = x0 := by omega
              subst this
              rw [hs] at e
              cases e
              exact ⟨(c', w ++ [97 + x]), by simp, T.refl c', sle_refl _⟩
        rw [hx1] at g1 g2
        refine ⟨(c', w ++ [97 + x0]) :: more, ?_, ?_, ?_, ?_, ?_, ?_⟩
        · rw [exp_a hs ht, hx1, g1]; simp
        · rw [exp_a hs ht, hx1]
          simpa using g2
        · simpa using g3
        · simpa using g4
        · intro p hp
          rcases List.mem_cons.mp hp with h | h
          · rw [h]; exact ⟨x0, hx0k, rfl⟩
          · exact g5 p h
        · simpa using g6
/-- one layer -/
theorem lay_ok {Ds0 L : List (C × List Nat)} {n : Nat} (hn : ∀ p ∈ Ds0, p.2.length ≤ n) : ∀ (R P : List (C × List Nat)) (kn : Kn) (fu : List (C × List Nat)), L = P ++ R → (∀ p ∈ L, p.2.length = n ∧ p ∈ Ds0) → (L.map (·.2)).Pairwise (· < ·) →
    Fnd T c0 kn (Ds0 ++ fu) → (∀ p ∈ fu, p.2.length = n + 1) → (fu.map (·.2)).Pairwise (· < ·) → (∀ p ∈ fu, ∃ q ∈ P, ∃ x, p.2 = q.2 ++ [97 + x]) → (∀ p ∈ P, M.goal p.1 = false ∧ Cl T (Ds0 ++ fu) p) →
    (∀ w, lay M test R kn fu = .inl w → ∃ c P' R', L = P' ++ (c, w) :: R' ∧ M.goal c = true ∧ ∀ p ∈ P', M.goal p.1 = false) ∧
    (∀ kn' fu', lay M test R kn fu = .inr (kn', fu') → (∃ more, fu' = fu ++ more) ∧ Fnd T c0 kn' (Ds0 ++ fu') ∧ (∀ p ∈ fu', p.2.length = n + 1) ∧ (fu'.map (·.2)).Pairwise (· < ·) ∧ ∀ p ∈ L, M.goal p.1 = false ∧ Cl T (Ds0 ++ fu') p)
  | [], P, kn, fu, hL, h1, h2, hF, h3, h4, h5, h6 => by
    rw [List.append_nil] at hL
    subst hL
    refine ⟨fun w h => by simp [lay] at h, fun kn' fu' h => ?_⟩
    simp only [lay, Sum.inr.injEq, Prod.mk.injEq] at h
    obtain ⟨rfl, rfl⟩ := h
    exact ⟨⟨[], by simp⟩, hF, h3, h4, h6⟩
  | (c, w) :: R, P, kn, fu, hL, h1, h2, hF, h3, h4, h5, h6 => by
    unfold lay
    by_cases hg : M.goal c = true
    · rw [if_pos hg]
      refine ⟨fun w' h => ?_, fun kn' fu' h => by cases h⟩
      cases h
      exact ⟨c, P, R, hL, hg, fun p hp => (h6 p hp).1⟩
    · rw [if_neg hg]
      have hm : (c, w) ∈ L := by rw [hL]; simp
      obtain ⟨hwn, hwD⟩ := h1 _ hm
      have hwn : w.length = n := hwn
      have hrun : run M c0 w = some c := hF.run _ (List.mem_append_left _ hwD)
      have er : List.range M.k = List.range' (M.k - M.k) M.k := by rw [Nat.sub_self, List.range_eq_range']
      have hPw : ∀ q ∈ P, q.2 < w := fun q hq => by
        rw [hL, List.map_append, List.pairwise_append] at h2
        exact h2.2.2 q.2 (List.mem_map.mpr ⟨q, hq, rfl⟩) w (by simp)
      obtain ⟨more, g1, g2, g3, g4, g5, g6⟩ := exp_ok (T := T) hrun (fun p hp => by rw [hwn]; exact hn p hp) M.k (Nat.le_refl _) kn fu hF (fun p hp => by rw [h3 p hp, hwn]) h4 (fun p hp x _ => by
          obtain ⟨q, hq, y, e⟩ := h5 p hp
          rw [e]
          refine lt_app _ _ ?_ (hPw q hq)
          rw [hwn]
          exact (h1 q (by rw [hL]; exact List.mem_append_left _ hq)).1) fun x c' hx => by omega
      rw [er]
      have hsub : ∀ q ∈ Ds0 ++ fu, q ∈ Ds0 ++ (fu ++ more) := fun q hq => by
        rw [← List.append_assoc]; exact List.mem_append_left _ hq
      have ih := lay_ok hn R (P ++ [(c, w)]) (exp M test c w (List.range' (M.k - M.k) M.k) kn fu).1 (fu ++ more) (by rw [hL]; simp) h1 h2 g2 (fun p hp => by rw [g3 p hp, hwn]) g4 (fun p hp => by
          rcases List.mem_append.mp hp with h | h
          · obtain ⟨q, hq, x, e⟩ := h5 p h
            exact ⟨q, List.mem_append_left _ hq, x, e⟩
          · obtain ⟨x, _, e⟩ := g5 p h
            exact ⟨(c, w), by simp, x, e⟩) fun p hp => by
          rcases List.mem_append.mp hp with h | h
          · exact ⟨(h6 p h).1, (h6 p h).2.mono hsub⟩
          · rw [List.mem_singleton.mp h]
            exact ⟨by simpa using hg, g6⟩
      rw [g1]
      refine ⟨ih.1, fun kn' fu' h => ?_⟩
      obtain ⟨⟨m2, e2⟩, i2⟩ := ih.2 kn' fu' h
      exact ⟨⟨more ++ m2, by rw [e2]; simp⟩, i2⟩
/-- what stands at the beginning of a layer -/
structure Lv (kn : Kn) (Ds L : List (C × List Nat)) (n : Nat) : Prop where
  fnd : Fnd T c0 kn Ds
  len : ∀ p ∈ Ds, p.2.length ≤ n
  lay : ∀ p ∈ L, p.2.length = n ∧ p ∈ Ds
  srt : (L.map (·.2)).Pairwise (· < ·)
  old : ∀ p ∈ Ds, p.2.length < n → M.goal p.1 = false ∧ Cl T Ds p
  cur : ∀ p ∈ Ds, p.2.length = n → p ∈ L
  root : (c0, []) ∈ Ds
  cnt : n + L.length ≤ Ds.length
theorem Lv.all {kn : Kn} {Ds L : List (C × List Nat)} {n : Nat} (v : Lv (T := T) (c0 := c0) kn Ds L n) : ∀ (m : Nat) (u : List Nat) (c : C), u.length = m → m ≤ n → run M c0 u = some c → ∃ p ∈ Ds, T.dom p.1 c ∧ sle p.2 u
  | 0, u, c, hu, _, hr => by
    have : u = [] := List.eq_nil_of_length_eq_zero hu
    subst this
    cases hr
    exact ⟨_, v.root, T.refl _, sle_refl _⟩
  | m + 1, u, c, hu, hm, hr => by
    obtain ⟨u', x, rfl⟩ : ∃ u' x, u = u' ++ [x] := by
      rcases List.eq_nil_or_concat u with h | ⟨u', x, h⟩
      · subst h; simp at hu
      · exact ⟨u', x, by simpa using h⟩
    rw [run_snoc] at hr
    cases hc : run M c0 u' with
    | none => rw [hc] at hr; cases hr
    | some c1 =>
      rw [hc] at hr
      replace hr : rd1 M c1 x = some c := hr
      obtain ⟨p, h1, h2, h3⟩ := v.all m u' c1 (by simpa using hu) (by omega) hc
      unfold rd1 at hr
      split at hr
      · rename_i hx
        obtain ⟨a', h4, h5⟩ := T.stepm h2 hr
        have hpl : p.2.length < n := by
          have : u'.length = m := by simpa using hu
          rcases h3 with h | ⟨h, _⟩ <;> omega
        obtain ⟨q, h6, h7, h8⟩ := (v.old p h1 hpl).2 (x - 97) a' (by omega) h4
        have ex : 97 + (x - 97) = x := by omega
        rw [ex] at h8
        exact ⟨q, h6, T.trans h7 h5, sle_trans h8 (sle_snoc h3 x)⟩
      · cases hr
theorem Lv.next {kn kn' : Kn} {Ds L fu : List (C × List Nat)} {n : Nat} (v : Lv (T := T) (c0 := c0) kn Ds L n) (h0 : L ≠ []) (hl : Bf.lay M test L kn [] = .inr (kn', fu)) : Lv (T := T) (c0 := c0) kn' (Ds ++ fu) fu (n + 1) := by
  have hlay := lay_ok (T := T) (c0 := c0) (Ds0 := Ds) (L := L) v.len L [] kn [] rfl v.lay v.srt (by simpa using v.fnd) (fun p hp => nomatch hp) (by simp) (fun p hp => nomatch hp) (fun p hp => nomatch hp)
  obtain ⟨_, g2, g3, g4, g5⟩ := hlay.2 kn' fu hl
  refine ⟨g2, fun p hp => ?_, fun p hp => ⟨g3 p hp, List.mem_append_right _ hp⟩, g4, fun p hp hlt => ?_, fun p hp hlt => ?_, List.mem_append_left _ v.root, ?_⟩
  · rcases List.mem_append.mp hp with h | h
    · have := v.len p h; omega
    · rw [g3 p h]; exact Nat.le_refl _
  · rcases List.mem_append.mp hp with h | h
    · by_cases h' : p.2.length < n
      · obtain ⟨k1, k2⟩ := v.old p h h'
        exact ⟨k1, k2.mono fun q hq => List.mem_append_left _ hq⟩
      · exact g5 p (v.cur p h (by omega))
    · have := g3 p h; omega
  · rcases List.mem_append.mp hp with h | h
    · have := v.len p h; omega
    · exact h
  · have := v.cnt
    have h1 : 0 < L.length := List.length_pos_iff.mpr h0
    rw [List.length_append]
    omega
def Goal (M : Sys C) (c0 : C) (u : List Nat) : Prop := ∃ c, run M c0 u = some c ∧ M.goal c = true
/-- THE SEARCH: what it tells is the first word -/
theorem bfs_ok (N : Nat) (hN : ∀ (kn : Kn) (Ds : List (C × List Nat)), Fnd T c0 kn Ds → Ds.length ≤ N) : ∀ (m n : Nat) (kn : Kn) (Ds L : List (C × List Nat)), Lv (T := T) (c0 := c0) kn Ds L n → N < n + m →
    ∃ r, bfs M test m kn L = some r ∧ (∀ w, r = some w → Goal M c0 w ∧ ∀ u, Goal M c0 u → ¬ slt u w) ∧ (r = none → ∀ u, ¬ Goal M c0 u)
  | 0, n, kn, Ds, L, v, hm => by
    have := hN kn Ds v.fnd
    have := v.cnt
    omega
  | m + 1, n, kn, Ds, [], v, hm => by
    refine ⟨none, rfl, fun w h => (by cases h), fun _ u hu => ?_⟩
    obtain ⟨c, h1, h2⟩ := hu
    have v' : ∀ (j : Nat), Lv (T := T) (c0 := c0) kn Ds [] (n + j) ∨ True := fun _ => .inr trivial
    -- all that was found is shorter than n, and closed
    have old : ∀ p ∈ Ds, M.goal p.1 = false ∧ Cl T Ds p := fun p hp => by
      have := v.len p hp
      by_cases h : p.2.length < n
      · exact v.old p hp h
      · exact absurd (v.cur p hp (by omega)) (by simp)
    have all : ∀ (j : Nat) (u : List Nat) (c : C), u.length = j → run M c0 u = some c → ∃ p ∈ Ds, T.dom p.1 c := fun j => by
      induction j with
      | zero =>
        intro u c hu hr
        have : u = [] := List.eq_nil_of_length_eq_zero hu
        subst this
        cases hr
        exact ⟨_, v.root, T.refl _⟩
      | succ j ih =>
        intro u c hu hr
        obtain ⟨u', x, rfl⟩ : ∃ u' x, u = u' ++ [x] := by
          rcases List.eq_nil_or_concat u with h | ⟨u', x, h⟩
          · subst h; simp at hu
          · exact ⟨u', x, by simpa using h⟩
        rw [run_snoc] at hr
        cases hc : run M c0 u' with
        | none => rw [hc] at hr; cases hr
        | some c1 =>
          rw [hc] at hr
          replace hr : rd1 M c1 x = some c := hr
          obtain ⟨p, g1, g2⟩ := ih u' c1 (by simpa using hu) hc
          unfold rd1 at hr
          split at hr
          · obtain ⟨a', h4, h5⟩ := T.stepm g2 hr
            obtain ⟨q, h6, h7, h8⟩ := (old p g1).2 (x - 97) a' (by omega) h4
            exact ⟨q, h6, T.trans h7 h5⟩
          · cases hr
    obtain ⟨p, g1, g2⟩ := all u.length u c rfl h1
    have := (old p g1).1
    rw [T.goalm g2 h2] at this
    cases this
  | m + 1, n, kn, Ds, p0 :: L, v, hm => by
    have hlay := lay_ok (T := T) (c0 := c0) (Ds0 := Ds) (L := p0 :: L) v.len (p0 :: L) [] kn [] rfl v.lay v.srt (by simpa using v.fnd) (fun p hp => nomatch hp) (by simp) (fun p hp => nomatch hp) (fun p hp => nomatch hp)
    show ∃ r, (match lay M test (p0 :: L) kn [] with
      | .inl w => some (some w)
      | .inr q => bfs M test m q.1 q.2) = some r ∧ _
    cases hl : lay M test (p0 :: L) kn [] with
    | inl w =>
      refine ⟨some w, rfl, fun w' h => ?_, fun h => (by cases h)⟩
      cases h
      obtain ⟨c, P', R', e, hg, hP⟩ := hlay.1 w hl
      have hm : (c, w) ∈ p0 :: L := by rw [e]; simp
      have hrun := v.fnd.run _ (v.lay _ hm).2
      have hwl : w.length = n := (v.lay _ hm).1
      refine ⟨⟨c, hrun, hg⟩, fun u ⟨cu, hu1, hu2⟩ hlt => ?_⟩
      have hul : u.length ≤ n := by
        rcases hlt with h | ⟨h, _⟩ <;> omega
      obtain ⟨q, g1, g2, g3⟩ := v.all u.length u cu rfl hul hu1
      have hq := T.goalm g2 hu2
      have hqw := sle_slt g3 hlt
      have hql := v.len q g1
      by_cases h : q.2.length < n
      · rw [(v.old q g1 h).1] at hq; cases hq
      · have hqL := v.cur q g1 (by omega)
        rw [e] at hqL
        rcases List.mem_append.mp hqL with h' | h'
        · rw [hP q h'] at hq; cases hq
        · have hlt' : q.2 < w := by
            rcases hqw with z | ⟨_, z⟩
            · omega
            · exact z
          rcases List.mem_cons.mp h' with z | z
          · rw [z] at hlt'
            exact absurd hlt' (List.lt_irrefl _)
          · have hs := v.srt
            rw [e, List.map_append, List.map_cons, List.pairwise_append, List.pairwise_cons] at hs
            have := hs.2.1.1 q.2 (List.mem_map.mpr ⟨q, z, rfl⟩)
            exact absurd (List.lt_trans hlt' this) (List.lt_irrefl _)
    | inr q =>
      obtain ⟨kn', fu⟩ := q
      obtain ⟨_, g2, g3, g4, g5⟩ := hlay.2 kn' fu hl
      refine bfs_ok N hN m (n + 1) kn' (Ds ++ fu) fu ⟨g2, fun p hp => ?_, fun p hp => ⟨g3 p hp, List.mem_append_right _ hp⟩, g4, fun p hp hlt => ?_, fun p hp hlt => ?_, List.mem_append_left _ v.root, ?_⟩ (by omega)
      · rcases List.mem_append.mp hp with h | h
        · have := v.len p h; omega
        · rw [g3 p h]; exact Nat.le_refl _
      · rcases List.mem_append.mp hp with h | h
        · by_cases h' : p.2.length < n
          · obtain ⟨k1, k2⟩ := v.old p h h'
            exact ⟨k1, k2.mono fun q hq => List.mem_append_left _ hq⟩
          · exact g5 p (v.cur p h (by omega))
        · have := g3 p h; omega
      · rcases List.mem_append.mp hp with h | h
        · have := v.len p h; omega
        · exact h
      · have := v.cnt
        rw [List.length_append]
        simp at this
        omega
end
end Bf

set_option Elab.async false
set_option linter.all false
namespace Un
open Bf
/-! ### layers of words: for each state the first word, and the first one with another sum -/
abbrev E := List Nat × Int × Nat
section
variable (δ : Nat → Nat → Option Nat) (g : Nat → Int)
def wk : Nat → List Nat → Option Nat
  | s, [] => some s
  | s, k :: w => (δ s k).bind fun t => wk t w
def gw (w : List Nat) : Int := (w.map g).sum
variable {δ g}
theorem wk_app : ∀ (a b : List Nat) (s : Nat), wk δ s (a ++ b) = (wk δ s a).bind fun t => wk δ t b
  | [], b, s => rfl
  | k :: a, b, s => by
    show (δ s k).bind (fun t => wk δ t (a ++ b)) = ((δ s k).bind fun t => wk δ t a).bind _
    cases δ s k with
    | none => rfl
    | some t => exact wk_app a b t
theorem wk_one (s k : Nat) : wk δ s [k] = δ s k := by
  show (δ s k).bind (fun t => some t) = _
  cases δ s k <;> rfl
theorem gw_app (a b : List Nat) : gw g (a ++ b) = gw g a + gw g b := by
  unfold gw; rw [List.map_append, List.sum_append]
theorem gw_one (k : Nat) : gw g [k] = g k := by unfold gw; simp
theorem gw_snoc (w : List Nat) (k : Nat) : gw g (w ++ [k]) = gw g w + g k := by rw [gw_app, gw_one]
variable (δ g) in
structure LayI (n : Nat) (L : List E) : Prop where
  so : ∀ w v s, (w, v, s) ∈ L → w.length = n ∧ wk δ 0 w = some s ∧ gw g w = v
  co : ∀ w s, w.length = n → wk δ 0 w = some s → ∃ w1 v1, (w1, v1, s) ∈ L ∧ sle w1 w ∧ (v1 = gw g w ∨ ∃ w2 v2, (w2, v2, s) ∈ L ∧ sle w2 w ∧ v2 ≠ v1)
variable (δ g) in
/-- what one letter more leads to -/
def Cand (L : List E) (e : E) : Prop := ∃ w v s k, (w, v, s) ∈ L ∧ δ s k = some e.2.2 ∧ e.1 = w ++ [k] ∧ e.2.1 = v + g k
def at_ (s : Nat) (C : List E) : List E := C.filter fun e => decide (e.2.2 = s)
def two : List E → List E
  | [] => []
  | f :: r => f :: (r.filter fun e => decide (e.2.1 ≠ f.2.1)).take 1
def pick (s : Nat) (C : List E) : List E := two (at_ s C)
theorem at_mem {s : Nat} {C : List E} {e : E} : e ∈ at_ s C ↔ e ∈ C ∧ e.2.2 = s := by
  unfold at_; rw [List.mem_filter, decide_eq_true_iff]
theorem two_sub {C : List E} {e : E} (h : e ∈ two C) : e ∈ C := by
  cases C with
  | nil => exact h
  | cons f r =>
    rcases List.mem_cons.mp h with rfl | h
    · exact List.mem_cons_self
    · exact List.mem_cons_of_mem _ (List.mem_filter.mp (List.mem_of_mem_take h)).1
theorem two_len (C : List E) : (two C).length ≤ 2 := by
  cases C with
  | nil => exact Nat.zero_le _
  | cons f r =>
    have : ((r.filter fun e => decide (e.2.1 ≠ f.2.1)).take 1).length ≤ 1 := List.length_take_le _ _
    show _ + 1 ≤ 2
    omega
theorem pick_mem {s : Nat} {C : List E} {e : E} (h : e ∈ pick s C) : e ∈ C ∧ e.2.2 = s := at_mem.mp (two_sub h)
abbrev Srt (C : List E) : Prop := C.Pairwise fun a b => sle a.1 b.1
theorem two_first {C : List E} (hs : Srt C) {c : E} (hc : c ∈ C) : ∃ f ∈ two C, sle f.1 c.1 ∧ ∀ c' ∈ C, c'.2.1 ≠ f.2.1 → ∃ x ∈ two C, sle x.1 c'.1 ∧ x.2.1 ≠ f.2.1 := by
  cases C with
  | nil => cases hc
  | cons f r =>
    obtain ⟨h1, h2⟩ := List.pairwise_cons.mp hs
    refine ⟨f, List.mem_cons_self, ?_, fun c' hc' hne => ?_⟩
    · rcases List.mem_cons.mp hc with rfl | hc
      · exact sle_refl _
      · exact h1 c hc
    · have hr : c' ∈ r := by
        rcases List.mem_cons.mp hc' with rfl | h
        · exact absurd rfl hne
        · exact h
      have hf : c' ∈ r.filter fun e => decide (e.2.1 ≠ f.2.1) := List.mem_filter.mpr ⟨hr, decide_eq_true hne⟩
      have hp : (r.filter fun e => decide (e.2.1 ≠ f.2.1)).Pairwise fun a b => sle a.1 b.1 := h2.filter _
      cases hq : r.filter fun e => decide (e.2.1 ≠ f.2.1) with
      | nil => rw [hq] at hf; cases hf
      | cons x q =>
        rw [hq] at hf hp
        have hx : x ∈ r.filter fun e => decide (e.2.1 ≠ f.2.1) := by rw [hq]; exact List.mem_cons_self
        refine ⟨x, ?_, ?_, of_decide_eq_true (List.mem_filter.mp hx).2⟩
        · show x ∈ f :: (r.filter fun e => decide (e.2.1 ≠ f.2.1)).take 1
          rw [hq]; simp
        · rcases List.mem_cons.mp hf with rfl | hf
          · exact sle_refl _
          · exact (List.pairwise_cons.mp hp).1 c' hf
theorem lay0 : LayI δ g 0 [([], 0, 0)] := by
  refine ⟨fun w v s h => ?_, fun w s hl h => ?_⟩
  · rw [List.mem_singleton] at h
    cases h
    exact ⟨rfl, rfl, rfl⟩
  · have : w = [] := List.eq_nil_of_length_eq_zero hl
    subst this
    cases h
    exact ⟨[], 0, List.mem_singleton.mpr rfl, sle_refl _, .inl rfl⟩
theorem LayI.next {n : Nat} {L C L' : List E} (h : LayI δ g n L) (hC : ∀ e, e ∈ C ↔ Cand δ g L e) (hS : Srt C) (hL : ∀ e, e ∈ L' ↔ e ∈ pick e.2.2 C) : LayI δ g (n + 1) L' := by
  refine ⟨fun w v s hm => ?_, fun w s hl hw => ?_⟩
  · obtain ⟨w0, v0, s0, k, h1, h2, h3, h4⟩ := (hC _).mp (pick_mem ((hL _).mp hm)).1
    obtain ⟨a1, a2, a3⟩ := h.so _ _ _ h1
    dsimp only at h2 h3 h4
    subst h3 h4
    refine ⟨by simp [a1], ?_, by rw [gw_snoc, a3]⟩
    rw [wk_app, a2]
    exact (wk_one _ _).trans h2
  · rcases List.eq_nil_or_concat w with rfl | ⟨u, k, rfl⟩
    · simp at hl
    rw [List.concat_eq_append] at *
    rw [wk_app] at hw
    obtain ⟨s0, h1, h2⟩ := Option.bind_eq_some_iff.mp hw
    rw [wk_one] at h2
    obtain ⟨w1, v1, m1, l1, q⟩ := h.co u s0 (by simpa using hl) h1
    have c1 : (w1 ++ [k], v1 + g k, s) ∈ at_ s C := at_mem.mpr ⟨(hC _).mpr ⟨w1, v1, s0, k, m1, h2, rfl, rfl⟩, rfl⟩
    have hSs : Srt (at_ s C) := hS.filter _
    obtain ⟨f, f1, f2, f3⟩ := two_first hSs c1
    have fs : f.2.2 = s := (at_mem.mp (two_sub f1)).2
    have mem : ∀ x, x ∈ two (at_ s C) → (x.1, x.2.1, s) ∈ L' := fun x hx => by
      have hs : x.2.2 = s := (at_mem.mp (two_sub hx)).2
      have : (x.1, x.2.1, s) = x := by rw [← hs]
      rw [this]
      refine (hL x).mpr ?_
      rw [hs]; exact hx
    refine ⟨f.1, f.2.1, mem f f1, sle_trans f2 (sle_snoc l1 k), ?_⟩
    by_cases e : f.2.1 = gw g (u ++ [k])
    · exact .inl e
    · refine .inr ?_
      have find : ∃ c' ∈ at_ s C, c'.2.1 ≠ f.2.1 ∧ sle c'.1 (u ++ [k]) := by
        by_cases e1 : v1 + g k = f.2.1
        · rcases q with q | ⟨w2, v2, m2, l2, ne⟩
          · exact absurd (by rw [gw_snoc, ← q, e1]) e
          · exact ⟨(w2 ++ [k], v2 + g k, s), at_mem.mpr ⟨(hC _).mpr ⟨w2, v2, s0, k, m2, h2, rfl, rfl⟩, rfl⟩, fun z => ne (by have z' : v2 + g k = f.2.1 := z; omega), sle_snoc l2 k⟩
        · exact ⟨_, c1, e1, sle_snoc l1 k⟩
      obtain ⟨c', hc', ne, le⟩ := find
      obtain ⟨x, hx, lx, nx⟩ := f3 c' hc' ne
      exact ⟨x.1, x.2.1, mem x hx, sle_trans lx le, nx⟩
/-! the first wrong word -/
variable (δ g) in
def Wrong (en : Nat → Bool) (w : List Nat) : Prop := ∃ s, wk δ 0 w = some s ∧ en s = true ∧ gw g w ≠ 0
def wrE (en : Nat → Bool) (e : E) : Bool := en e.2.2 && decide (e.2.1 ≠ 0)
theorem LayI.wrong {n : Nat} {L : List E} (h : LayI δ g n L) {en : Nat → Bool} {w : List Nat} (hl : w.length = n) (hw : Wrong δ g en w) : ∃ e ∈ L, wrE en e = true ∧ sle e.1 w := by
  obtain ⟨s, h1, h2, h3⟩ := hw
  obtain ⟨w1, v1, m1, l1, q⟩ := h.co w s hl h1
  by_cases e : v1 = 0
  · rcases q with q | ⟨w2, v2, m2, l2, ne⟩
    · exact absurd (q.symm.trans e) h3
    · have n2 : v2 ≠ 0 := fun z => ne (z.trans e.symm)
      exact ⟨_, m2, by unfold wrE; rw [h2]; exact decide_eq_true n2, l2⟩
  · exact ⟨_, m1, by unfold wrE; rw [h2]; exact decide_eq_true e, l1⟩
theorem LayI.wr {n : Nat} {L : List E} (h : LayI δ g n L) {en : Nat → Bool} {e : E} (he : e ∈ L) (hw : wrE en e = true) : Wrong δ g en e.1 ∧ e.1.length = n := by
  obtain ⟨w, v, s⟩ := e
  obtain ⟨a1, a2, a3⟩ := h.so w v s he
  unfold wrE at hw
  rw [Bool.and_eq_true, decide_eq_true_iff] at hw
  exact ⟨⟨s, a2, hw.1, by rw [a3]; exact hw.2⟩, a1⟩
variable (δ g) in
/-- the first one -/
def First (en : Nat → Bool) (w : List Nat) : Prop := Wrong δ g en w ∧ ∀ u, Wrong δ g en u → sle w u
theorem sle_asymm {a b : List Nat} (h : sle a b) (h' : sle b a) : a = b := by
  rcases h with h | ⟨h1, h2⟩
  · rcases h' with h' | ⟨h3, _⟩ <;> omega
  · rcases h2 with h2 | h2
    · rcases h' with h' | ⟨h3, h4⟩
      · omega
      · rcases h4 with h4 | h4
        · exact absurd (List.lt_trans h2 h4) (List.lt_irrefl _)
        · exact h4.symm
    · exact h2
theorem First.uniq {en : Nat → Bool} {a b : List Nat} (h : First δ g en a) (h' : First δ g en b) : a = b := sle_asymm (h.2 _ h'.1) (h'.2 _ h.1)
theorem first_of {n : Nat} {L : List E} (h : LayI δ g n L) {en : Nat → Bool} (hno : ∀ u, u.length < n → ¬ Wrong δ g en u) {e : E} (he : e ∈ L) (hw : wrE en e = true) (hm : ∀ e' ∈ L, wrE en e' = true → sle e.1 e'.1) : First δ g en e.1 := by
  obtain ⟨h1, h2⟩ := h.wr he hw
  refine ⟨h1, fun u hu => ?_⟩
  rcases Nat.lt_trichotomy u.length n with z | z | z
  · exact absurd hu (hno u z)
  · obtain ⟨e', m, hw', le⟩ := h.wrong z hu
    exact sle_trans (hm e' m hw') le
  · exact .inl (by omega)
theorem LayI.no {n : Nat} {L : List E} (h : LayI δ g n L) {en : Nat → Bool} (hno : ∀ e ∈ L, wrE en e = false) {u : List Nat} (hu : u.length = n) : ¬ Wrong δ g en u := fun z => by
  obtain ⟨e, m, hw, _⟩ := h.wrong hu z
  rw [hno e m] at hw
  cases hw
end
end Un

set_option Elab.async false
set_option linter.all false
set_option maxRecDepth 100000
set_option maxHeartbeats 1000000
namespace Lw
open PySem MD L2
/-! ### is_nought, plain -/
abbrev gF (gs : List Int) : Nat → Int := fun k => gs.getD k 0
theorem wk_wU {kd : Kd} : ∀ (w : List Nat) (s : Nat), Un.wk (sU kd) s w = wU kd s w
  | [], s => rfl
  | k :: w, s => by
    show (sU kd s k).bind (fun t => Un.wk (sU kd) t w) = (sU kd s k).bind fun t => wU kd t w
    cases sU kd s k with
    | none => rfl
    | some t => exact wk_wU w t
theorem gw_wo (gs : List Int) (w : List Nat) : Un.gw (gF gs) w = wo gs w := rfl
abbrev WrongU (kd : Kd) (gs : List Int) (w : List Nat) : Prop := Un.Wrong (sU kd) (gF gs) (isE kd) w
theorem wrongU {kd : Kd} {gs : List Int} {w : List Nat} {s : Nat} (h : wU kd 0 w = some s) (he : isE kd s = true) (hw : wo gs w ≠ 0) : WrongU kd gs w := ⟨s, by rw [wk_wU]; exact h, he, hw⟩
structure NS where
  ss : List Nat
  f : Nat → Int
  W : List Nat
/-- what is known while the ways from s are looked at -/
structure NI (kd : Kd) (gs : List Int) (ex : Nat → Prop) (σ : NS) : Prop where
  nd : σ.ss.Nodup
  us : ∀ s ∈ σ.ss, s ∈ us kd
  z : 0 ∈ σ.ss
  f0 : σ.f 0 = 0
  path : ∀ s ∈ σ.ss, ∃ p, wU kd 0 p = some s ∧ wo gs p = σ.f s ∧ p.length < σ.ss.length
  wf : ∀ s ∈ σ.W, s ∈ σ.ss
  wn : σ.W.Nodup
  cl : ∀ s ∈ σ.ss, s ∉ σ.W → ¬ ex s → (isE kd s = true → σ.f s = 0) ∧ ∀ k t, sU kd s k = some t → t ∈ σ.ss ∧ σ.f t = σ.f s + gF gs k
theorem NI.len {kd : Kd} {gs : List Int} {ex : Nat → Prop} {σ : NS} (h : NI kd gs ex σ) : σ.ss.length ≤ (Lw.us kd).length := nodup_sub h.nd h.us
section
variable {kd : Kd} (ok : kd.Ok) {gs : List Int}
include ok
theorem usE {t : Nat} (ht : t ∈ us kd) : ∃ r e, wU kd t r = some e ∧ isE kd e = true ∧ r.length ≤ kd.rows.length := by
  obtain ⟨h1, h2, h3⟩ := us_mem.mp ht
  obtain ⟨r, e, hr, he, _⟩ := to_end ok h3 h2
  obtain ⟨r', hl, hr'⟩ := wU_short ht r.length r (Nat.le_refl _) hr
  exact ⟨r', e, hr', he, Nat.le_trans hl (us_len kd)⟩
/-- two ways to a state with unlike sums -/
theorem clash {p q : List Nat} {t : Nat} (ht : t ∈ us kd) (hp : wU kd 0 p = some t) (hq : wU kd 0 q = some t) (hne : wo gs p ≠ wo gs q) (lp : p.length ≤ kd.rows.length) (lq : q.length ≤ kd.rows.length) : ∃ w, WrongU kd gs w ∧ w.length ≤ 2 * kd.rows.length := by
  obtain ⟨r, e, hr, he, hl⟩ := usE ok ht
  by_cases h : wo gs (p ++ r) = 0
  · refine ⟨q ++ r, wrongU (by rw [wU_app, hq]; exact hr) he fun z => hne ?_, by rw [List.length_append]; omega⟩
    rw [wo_app] at h z
    omega
  · exact ⟨p ++ r, wrongU (by rw [wU_app, hp]; exact hr) he h, by rw [List.length_append]; omega⟩
omit ok in
theorem NI.noW {σ : NS} (h : NI kd gs (fun _ => False) σ) (hW : σ.W = []) : ∀ w, ¬ WrongU kd gs w := by
  have cl : ∀ s ∈ σ.ss, (isE kd s = true → σ.f s = 0) ∧ ∀ k t, sU kd s k = some t → t ∈ σ.ss ∧ σ.f t = σ.f s + gF gs k := fun s hs => h.cl s hs (by rw [hW]; exact fun z => nomatch z) id
  have all : ∀ (w : List Nat) (s : Nat), s ∈ σ.ss → ∀ t, wU kd s w = some t → t ∈ σ.ss ∧ σ.f t = σ.f s + wo gs w := by
    intro w
    induction w with
    | nil => intro s hs t e; cases e; exact ⟨hs, by rw [wo_nil]; omega⟩
    | cons k w ih =>
      intro s hs t e
      obtain ⟨u, h1, h2⟩ := bnd (show ((sU kd s k).bind fun t => wU kd t w) = some t from e)
      obtain ⟨h3, h4⟩ := (cl s hs).2 k u h1
      obtain ⟨h5, h6⟩ := ih u h3 t h2
      refine ⟨h5, ?_⟩
      rw [h6, h4, wo_cons]
      show σ.f s + gs.getD k 0 + _ = _
      omega
  rintro w ⟨s, h1, h2, h3⟩
  rw [wk_wU] at h1
  obtain ⟨h4, h5⟩ := all w 0 h.z s h1
  have := (cl s h4).1 h2
  rw [h.f0] at h5
  exact h3 (by rw [gw_wo]; omega)
end
def fset (f : Nat → Int) (x : Nat) (v : Int) : Nat → Int := fun t => if t = x then v else f t
/-- one way from a state with sum v -/
def nE (gs : List Int) (v : Int) (σ : NS) (e : Nat × Nat) : Option NS :=
  if e.2 ∈ σ.ss then (if σ.f e.2 = v + gF gs e.1 then some σ else none) else some ⟨σ.ss ++ [e.2], fset σ.f e.2 (v + gF gs e.1), σ.W ++ [e.2]⟩
structure NX (kd : Kd) (gs : List Int) (s : Nat) (v : Int) (dn : List (Nat × Nat)) (σ : NS) : Prop where
  ni : NI kd gs (fun x => x = s) σ
  ms : s ∈ σ.ss
  fs : σ.f s = v
  nw : s ∉ σ.W
  dn : ∀ e ∈ dn, e.2 ∈ σ.ss ∧ σ.f e.2 = v + gF gs e.1
theorem NX.more {kd : Kd} {gs : List Int} {s : Nat} {v : Int} {dn : List (Nat × Nat)} {σ σ' : NS} (h : NX kd gs s v dn σ) {e : Nat × Nat} (he : sU kd s e.1 = some e.2) (hs : nE gs v σ e = some σ') : NX kd gs s v (dn ++ [e]) σ' := by
  obtain ⟨k, t⟩ := e
  unfold nE at hs
  dsimp only at hs he
  split at hs
  · rename_i hm
    split at hs
    · rename_i hf
      cases hs
      refine ⟨h.ni, h.ms, h.fs, h.nw, fun x hx => ?_⟩
      rcases List.mem_append.mp hx with hx | hx
      · exact h.dn x hx
      · rw [List.mem_singleton.mp hx]; exact ⟨hm, hf⟩
    · cases hs
  · rename_i hm
    cases hs
    have old : ∀ x ∈ σ.ss, fset σ.f t (v + gF gs k) x = σ.f x := fun x hx => if_neg fun (z : x = t) => hm (by rw [← z]; exact hx)
    have new : fset σ.f t (v + gF gs k) t = v + gF gs k := if_pos rfl
    have tu : t ∈ us kd := (sU_eq.mp he).2
    obtain ⟨p, p1, p2, p3⟩ := h.ni.path s h.ms
    refine ⟨⟨?_, ?_, ?_, ?_, ?_, ?_, ?_, ?_⟩, List.mem_append_left _ h.ms, (old s h.ms).trans h.fs, ?_, ?_⟩
    · rw [List.nodup_append]
      exact ⟨h.ni.nd, by simp, fun a ha b hb z => hm (by rw [List.mem_singleton.mp hb] at z; rw [← z]; exact ha)⟩
    · intro x hx
      rcases List.mem_append.mp hx with hx | hx
      · exact h.ni.us x hx
      · rw [List.mem_singleton.mp hx]; exact tu
    · exact List.mem_append_left _ h.ni.z
    · exact (old 0 h.ni.z).trans h.ni.f0
    · intro x hx
      rcases List.mem_append.mp hx with hx | hx
      · obtain ⟨q, q1, q2, q3⟩ := h.ni.path x hx
        exact ⟨q, q1, q2.trans (old x hx).symm, by rw [List.length_append]; omega⟩
      · rw [List.mem_singleton.mp hx]
        refine ⟨p ++ [k], ?_, ?_, by simp only [List.length_append, List.length_singleton]; omega⟩
        · rw [wU_app, p1]
          exact (wU_one s k).trans he
        · rw [wo_app, wo_one, p2, h.fs]; exact new.symm
    · intro x hx
      rcases List.mem_append.mp hx with hx | hx
      · exact List.mem_append_left _ (h.ni.wf x hx)
      · exact List.mem_append_right _ hx
    · rw [List.nodup_append]
      exact ⟨h.ni.wn, by simp, fun a ha b hb z => hm (by rw [List.mem_singleton.mp hb] at z; rw [← z]; exact h.ni.wf a ha)⟩
    · intro x hx hxW hxs
      rcases List.mem_append.mp hx with hx | hx
      · obtain ⟨c1, c2⟩ := h.ni.cl x hx (fun z => hxW (List.mem_append_left _ z)) hxs
        refine ⟨fun z => (old x hx).trans (c1 z), fun k' t' e' => ?_⟩
        obtain ⟨c3, c4⟩ := c2 k' t' e'
        exact ⟨List.mem_append_left _ c3, by
          show fset σ.f t (v + gF gs k) t' = fset σ.f t (v + gF gs k) x + _
          rw [old t' c3, old x hx]; exact c4⟩
      · exact absurd (List.mem_append_right _ hx) hxW
    · intro z
      rcases List.mem_append.mp z with z | z
      · exact h.nw z
      · exact hm (by rw [← List.mem_singleton.mp z]; exact h.ms)
    · intro x hx
      rcases List.mem_append.mp hx with hx | hx
      · obtain ⟨d1, d2⟩ := h.dn x hx
        exact ⟨List.mem_append_left _ d1, (old _ d1).trans d2⟩
      · rw [List.mem_singleton.mp hx]
        exact ⟨List.mem_append_right _ (List.mem_singleton.mpr rfl), new⟩
theorem NX.bad {kd : Kd} (ok : kd.Ok) {gs : List Int} {s : Nat} {v : Int} {dn : List (Nat × Nat)} {σ : NS} (h : NX kd gs s v dn σ) {e : Nat × Nat} (he : sU kd s e.1 = some e.2) (hs : nE gs v σ e = none) : ∃ w, WrongU kd gs w ∧ w.length ≤ 2 * kd.rows.length := by
  obtain ⟨k, t⟩ := e
  unfold nE at hs
  dsimp only at hs he
  split at hs
  · rename_i hm
    split at hs
    · cases hs
    · rename_i hf
      have hl := h.ni.len
      have hu := us_len kd
      obtain ⟨p, p1, p2, p3⟩ := h.ni.path s h.ms
      obtain ⟨q, q1, q2, q3⟩ := h.ni.path t hm
      refine clash ok (sU_eq.mp he).2 (p := q) (q := p ++ [k]) q1 ?_ ?_ (by omega) (by simp only [List.length_append, List.length_singleton]; omega)
      · rw [wU_app, p1]
        exact (wU_one s k).trans he
      · rw [wo_app, wo_one, p2, q2, h.fs]
        exact hf
  · cases hs
theorem NI.pop {kd : Kd} {gs : List Int} {σ : NS} {s : Nat} {W0 : List Nat} (h : NI kd gs (fun _ => False) σ) (hW : σ.W = W0 ++ [s]) : NX kd gs s (σ.f s) [] ⟨σ.ss, σ.f, W0⟩ := by
  have hn := h.wn
  rw [hW, List.nodup_append] at hn
  have sW : s ∉ W0 := fun z => hn.2.2 s z s (List.mem_singleton.mpr rfl) rfl
  refine ⟨⟨h.nd, h.us, h.z, h.f0, h.path, fun x hx => h.wf x (by rw [hW]; exact List.mem_append_left _ hx), hn.1, fun x hx hxW hxs => h.cl x hx ?_ id⟩, h.wf s (by rw [hW]; simp), rfl, sW, fun e he => nomatch he⟩
  rw [hW]
  intro z
  rcases List.mem_append.mp z with z | z
  · exact hxW z
  · exact hxs (List.mem_singleton.mp z)
theorem NX.done {kd : Kd} {gs : List Int} {s : Nat} {v : Int} {dn : List (Nat × Nat)} {σ : NS} (h : NX kd gs s v dn σ) (hd : ∀ k t, sU kd s k = some t → (k, t) ∈ dn) (he : isE kd s = true → v = 0) : NI kd gs (fun _ => False) σ := by
  refine ⟨h.ni.nd, h.ni.us, h.ni.z, h.ni.f0, h.ni.path, h.ni.wf, h.ni.wn, fun x hx hxW _ => ?_⟩
  by_cases e : x = s
  · subst e
    refine ⟨fun z => h.fs.trans (he z), fun k t hk => ?_⟩
    obtain ⟨d1, d2⟩ := h.dn _ (hd k t hk)
    exact ⟨d1, by rw [h.fs]; exact d2⟩
  · exact h.ni.cl x hx hxW e
end Lw

set_option Elab.async false
set_option linter.all false
set_option maxRecDepth 100000
set_option maxHeartbeats 1000000
namespace Lw
open PySem MD L2
theorem getK_map (g : Nat → D) {s : Nat} : ∀ {F : List Nat}, s ∈ F → getK (tKs F) (F.map g) (nK s) = some (g s)
  | f :: F, h => by
    show (if nK f = nK s then some (g f) else getK (tKs F) (F.map g) (nK s)) = _
    by_cases e : f = s
    · rw [if_pos (by rw [e]), e]
    · rw [if_neg fun z => e (nK_inj z)]
      rcases List.mem_cons.mp h with z | z
      · exact absurd z.symm e
      · exact getK_map g z
theorem getK_no {F : List Nat} {s : Nat} (g : Nat → D) (h : s ∉ F) : getK (tKs F) (F.map g) (nK s) = none := by
  rw [getK_n F _ (by simp), if_neg h]
theorem eds_len {kd : Kd} (ok : kd.Ok) (s : Nat) : (eds kd s).length ≤ 4 := by
  have := List.length_filterMap_le (fun k => (sU kd s k).map fun t => (k, t)) (List.range kd.k)
  rw [List.length_range] at this
  have := ok.k4
  unfold eds
  omega
theorem eds_k {kd : Kd} {s k t : Nat} (h : (k, t) ∈ eds kd s) : k < kd.k := by
  unfold eds at h
  obtain ⟨j, h1, h2⟩ := List.mem_filterMap.mp h
  obtain ⟨u, _, h3⟩ := mpd h2
  cases h3
  exact List.mem_range.mp h1
theorem form_at {fm : List Int} {k : Nat} (h : k < fm.length) : atI (fm.map D.int) ((k : Nat) : Int) = some (.int (fm.getD k 0)) := by
  rw [atI_nn (by omega), Int.toNat_natCast, List.getElem?_map, List.getElem?_eq_getElem h, List.getD_eq_getElem?_getD, List.getElem?_eq_getElem h]; rfl
/-! ### is_nought -/
def inV (f : Nat → Int) (s : Nat) : D := .int (f s)
abbrev nsD (σ : NS) : Sl := .own (.dic (tKs σ.ss), σ.ss.map (inV σ.f))
noncomputable def inB1 : MS := (asgM (nameT 8) (opM addM (opM subD (rdW 3) (rd 5)) (opM subD (rd 2) (rd 6))))
noncomputable def inB2 : MS := (ifS (tstM (opM (cntD true) (rd 7) (rdW 3)))
 (seqM (dputM 3 (rd 7) (rd 8))
 (sappM (rd 4) (rd 7)))
 nxM)
noncomputable def inB3 : MS := (ifS (tstM (opM neM (opM subD (rdW 3) (rd 7)) (rd 8)))
 (retM (cst (.bl false)))
 nxM)
noncomputable def inB : MS := seqM inB1 (seqM inB2 inB3)
section
variable {kd : Kd} {gs : List Int} {s : Nat} {v : Int}
theorem fset_map {F : List Nat} {f : Nat → Int} {t : Nat} (h : t ∉ F) (x : Int) : F.map (inV f) ++ [D.int x] = (F ++ [t]).map (inV (fset f t x)) := by
  rw [List.map_append]
  congr 1
  · refine List.map_congr_left fun a ha => ?_
    show D.int (f a) = D.int (if a = t then x else f a)
    rw [if_neg fun z => h (by rw [← z]; exact ha)]
  · show [D.int x] = [D.int (if t = t then x else f t)]
    rw [if_pos rfl]
theorem in_turn (st : S) (x0 x1 x8 : Sl) (σ : NS) (k t : Nat) (hs : s ∈ σ.ss) (hv : σ.f s = v) (hk : k < gs.length) (hl : σ.ss.length ≤ 1000) (hW : σ.W.length ≤ 1000) :
    ∃ y8, inB [x0, x1, .val (.lst (gs.map D.int)), nsD σ, .val (.ref st.ob.length), .val (nD s), .val (nD k), .val (nD t), x8] (st.ad (.lst (tN σ.W))) =
      (match nE gs v σ (k, t) with
        | some σ' => some (.nx [x0, x1, .val (.lst (gs.map D.int)), nsD σ', .val (.ref st.ob.length), .val (nD s), .val (nD k), .val (nD t), y8], st.ad (.lst (tN σ'.W)))
        | none => some (.rt (.bl false), st.ad (.lst (tN σ.W)))) := by
  refine ⟨.val (.int (v + gF gs k)), ?_⟩
  have g1 := getK_map (inV σ.f) hs
  have g2 : inV σ.f s = .int v := by unfold inV; rw [hv]
  rw [g2] at g1
  have g3 := form_at hk
  have c1 : inB1 [x0, x1, .val (.lst (gs.map D.int)), nsD σ, .val (.ref st.ob.length), .val (nD s), .val (nD k), .val (nD t), x8] (st.ad (.lst (tN σ.W))) = some (.nx [x0, x1, .val (.lst (gs.map D.int)), nsD σ, .val (.ref st.ob.length), .val (nD s), .val (nD k), .val (nD t), .val (.int (v + gF gs k))], st.ad (.lst (tN σ.W))) := by
    unfold inB1
    simp [g1, g3]
  unfold inB
  rw [seq_nx c1]
  generalize hz : v + gF gs k = z
  unfold nE
  dsimp only
  by_cases hm : t ∈ σ.ss
  · have g4 := getK_map (inV σ.f) hm
    have c2 : inB2 [x0, x1, .val (.lst (gs.map D.int)), nsD σ, .val (.ref st.ob.length), .val (nD s), .val (nD k), .val (nD t), .val (.int z)] (st.ad (.lst (tN σ.W))) = some (.nx [x0, x1, .val (.lst (gs.map D.int)), nsD σ, .val (.ref st.ob.length), .val (nD s), .val (nD k), .val (nD t), .val (.int z)], st.ad (.lst (tN σ.W))) := by
      unfold inB2
      simp [g4]
    rw [seq_nx c2, if_pos hm, hz]
    have c3 : tstM (opM neM (opM subD (rdW 3) (rd 7)) (rd 8)) [x0, x1, .val (.lst (gs.map D.int)), nsD σ, .val (.ref st.ob.length), .val (nD s), .val (nD k), .val (nD t), .val (.int z)] (st.ad (.lst (tN σ.W))) = some (!decide (σ.f t = z), st.ad (.lst (tN σ.W))) := by
      simp [g4, inV]
    unfold inB3
    by_cases hf : σ.f t = z
    · rw [if_pos hf]
      rw [decide_eq_true hf] at c3
      exact ifs_f c3 rfl
    · rw [if_neg hf]
      rw [decide_eq_false hf] at c3
      exact ifs_t c3 rfl
  · have g4 := getK_no (inV σ.f) hm
    obtain ⟨e1, e2⟩ := putK_gen hm (σ.ss.map (inV σ.f)) (.int z)
    have hp := ad_put st (.lst (tN σ.W)) (.lst (tN σ.W ++ [nD t]))
    rw [if_neg hm, hz]
    have c2 : inB2 [x0, x1, .val (.lst (gs.map D.int)), nsD σ, .val (.ref st.ob.length), .val (nD s), .val (nD k), .val (nD t), .val (.int z)] (st.ad (.lst (tN σ.W))) = some (.nx [x0, x1, .val (.lst (gs.map D.int)), nsD ⟨σ.ss ++ [t], fset σ.f t z, σ.W ++ [t]⟩, .val (.ref st.ob.length), .val (nD s), .val (nD k), .val (nD t), .val (.int z)], st.ad (.lst (tN (σ.W ++ [t])))) := by
      unfold inB2
      refine ifs_t (s1 := st.ad (.lst (tN σ.W))) (by simp [g4]) ?_
      refine (seq_nx (dput_of (i := 3) (ks := tKs σ.ss) (ds := σ.ss.map (inV σ.f)) (k := nK t) (dk := nD t) (v := .int z) (s1 := st.ad (.lst (tN σ.W))) (s2 := st.ad (.lst (tN σ.W))) rfl rfl rfl rfl (by rw [List.length_map]; omega))).trans ?_
      rw [e1, e2, fset_map hm]
      have : tN (σ.W ++ [t]) = tN σ.W ++ [nD t] := by simp
      rw [this]
      simp only [v_sappM, v_rd, List.set_cons_succ, List.set_cons_zero, List.getElem?_cons_succ, List.getElem?_cons_zero, Option.bind_some, v_refOf, ad_lst]
      rw [grd_of (by simp; omega), hp]
    rw [seq_nx c2]
    have g5 := getK_map (inV (fset σ.f t z)) (show t ∈ σ.ss ++ [t] by simp)
    have g6 : inV (fset σ.f t z) t = .int z := by unfold inV fset; rw [if_pos rfl]
    rw [g6] at g5
    unfold inB3
    refine ifs_f (s1 := st.ad (.lst (tN (σ.W ++ [t])))) ?_ rfl
    generalize σ.ss ++ [t] = F2 at g5
    generalize σ.W ++ [t] = W2
    simp [g5]
variable (ok : kd.Ok) (hg : gs.length = kd.k)
include ok hg
/-- the ways from a state -/
theorem in_edges (st : S) (x0 x1 : Sl) : ∀ (es dn : List (Nat × Nat)) (σ : NS) (x6 x7 x8 : Sl), NX kd gs s v dn σ → (∀ e ∈ es, sU kd s e.1 = some e.2) →
    (∃ σ' y6 y7 y8, forL (tupT 2 (consT (nameT 6) (consT (nameT 7) nilT))) inB (edD es) [x0, x1, .val (.lst (gs.map D.int)), nsD σ, .val (.ref st.ob.length), .val (nD s), x6, x7, x8] (st.ad (.lst (tN σ.W))) = some (.nx [x0, x1, .val (.lst (gs.map D.int)), nsD σ', .val (.ref st.ob.length), .val (nD s), y6, y7, y8], st.ad (.lst (tN σ'.W))) ∧ NX kd gs s v (dn ++ es) σ' ∧ σ'.W.length + (kd.rows.length - σ'.ss.length) = σ.W.length + (kd.rows.length - σ.ss.length)) ∨
    (∃ s1, forL (tupT 2 (consT (nameT 6) (consT (nameT 7) nilT))) inB (edD es) [x0, x1, .val (.lst (gs.map D.int)), nsD σ, .val (.ref st.ob.length), .val (nD s), x6, x7, x8] (st.ad (.lst (tN σ.W))) = some (.rt (.bl false), s1) ∧ s1.n = st.n ∧ ∃ w, WrongU kd gs w ∧ w.length ≤ 2 * kd.rows.length)
  | [], dn, σ, x6, x7, x8, h, _ => .inl ⟨σ, x6, x7, x8, rfl, by rw [List.append_nil]; exact h, rfl⟩
  | (k, t) :: es, dn, σ, x6, x7, x8, h, he => by
    have hk := he (k, t) List.mem_cons_self
    have hm := ok.m8
    have l1 := h.ni.len
    have l2 := us_len kd
    have l3 : σ.W.length ≤ σ.ss.length := nodup_sub h.ni.wn h.ni.wf
    have kk : k < gs.length := by rw [hg]; exact stp_k ok (us_lt (h.ni.us s h.ms)) (sU_eq.mp hk).1
    obtain ⟨y8, e1⟩ := in_turn (gs := gs) (s := s) (v := v) st x0 x1 x8 σ k t h.ms h.fs kk (by omega) (by omega)
    have et : tupT 2 (consT (nameT 6) (consT (nameT 7) nilT)) (D.tup [nD k, nD t]) [x0, x1, .val (.lst (gs.map D.int)), nsD σ, .val (.ref st.ob.length), .val (nD s), x6, x7, x8] = some [x0, x1, .val (.lst (gs.map D.int)), nsD σ, .val (.ref st.ob.length), .val (nD s), .val (nD k), .val (nD t), x8] := rfl
    cases hn : nE gs v σ (k, t) with
    | none =>
      rw [hn] at e1
      refine .inr ⟨st.ad (.lst (tN σ.W)), ?_, rfl, h.bad ok hk hn⟩
      show forL _ _ (D.tup [nD k, nD t] :: edD es) _ _ = _
      rw [v_forL, et, Option.bind_some, e1]; rfl
    | some σ' =>
      rw [hn] at e1
      have h' := h.more hk hn
      have meas : σ'.W.length + (kd.rows.length - σ'.ss.length) = σ.W.length + (kd.rows.length - σ.ss.length) := by
        have l4 := h'.ni.len
        unfold nE at hn
        dsimp only at hn
        split at hn
        · split at hn
          · cases hn; rfl
          · cases hn
        · cases hn
          simp only [List.length_append, List.length_singleton] at l4 ⊢
          omega
      rcases in_edges st x0 x1 es (dn ++ [(k, t)]) σ' (.val (nD k)) (.val (nD t)) y8 h' (fun e hx => he e (List.mem_cons_of_mem _ hx)) with ⟨σ2, y6, y7, z8, e2, h2, m2⟩ | ⟨s1, e2, n2, hw⟩
      · refine .inl ⟨σ2, y6, y7, z8, forL_cons_of et e1 e2, ?_, m2.trans meas⟩
        rw [show dn ++ (k, t) :: es = dn ++ [(k, t)] ++ es by simp]
        exact h2
      · exact .inr ⟨s1, forL_cons_of et e1 e2, n2, hw⟩
end
noncomputable def inE : MS := (ifS (andM (truM (opM subD (opM subD (rd 0) (cst (.int 2))) (rd 5))) (tstM (opM neM (opM subD (rdW 3) (rd 5)) (cst (.int 0)))))
 (retM (cst (.bl false)))
 nxM)
noncomputable def inW : MS := (seqM (asgM (nameT 5) (spopM (rd 4)))
 (seqM inE
 (forM (seqI (opM subD (rd 1) (rd 5))) (tupT 2 (consT (nameT 6) (consT (nameT 7) nilT))) inB)))
noncomputable def inC : MT := (tstM (opM neM (rd 4) (frz (lstM aNil))))
section
variable {kd : Kd} {gs : List Int} (ok : kd.Ok) (hg : gs.length = kd.k)
include ok hg
theorem in_loop (st : S) (j : Nat) : ∀ (σ : NS) (x5 x6 x7 x8 : Sl), NI kd gs (fun _ => False) σ → σ.W.length + (kd.rows.length - σ.ss.length) = j →
    (∃ σ' y5 y6 y7 y8, whF inC inW (j + 1) [.val (tK kd), .val (stD kd), .val (.lst (gs.map D.int)), nsD σ, .val (.ref st.ob.length), x5, x6, x7, x8] (st.ad (.lst (tN σ.W))) = some (.nx [.val (tK kd), .val (stD kd), .val (.lst (gs.map D.int)), nsD σ', .val (.ref st.ob.length), y5, y6, y7, y8], st.ad (.lst [])) ∧ (∀ w, ¬ WrongU kd gs w)) ∨
    (∃ s1, whF inC inW (j + 1) [.val (tK kd), .val (stD kd), .val (.lst (gs.map D.int)), nsD σ, .val (.ref st.ob.length), x5, x6, x7, x8] (st.ad (.lst (tN σ.W))) = some (.rt (.bl false), s1) ∧ s1.n = st.n ∧ ∃ w, WrongU kd gs w ∧ w.length ≤ 2 * kd.rows.length) := by
  induction j with
  | zero =>
    intro σ x5 x6 x7 x8 h hj
    have hW : σ.W = [] := List.eq_nil_of_length_eq_zero (by omega)
    refine .inl ⟨σ, x5, x6, x7, x8, ?_, h.noW hW⟩
    rw [hW]
    have h2 := ne_nats []
    simp at h2
    unfold whF
    simp [inC, ad_dr, grd_of (show 0 ≤ 1000000 by decide), h2]
  | succ j ih =>
    intro σ x5 x6 x7 x8 h hj
    have l1 := h.len
    have l2 := us_len kd
    rcases List.eq_nil_or_concat σ.W with hW | ⟨W0, s, hW⟩
    · refine .inl ⟨σ, x5, x6, x7, x8, ?_, h.noW hW⟩
      rw [hW]
      have h2 := ne_nats []
      simp at h2
      unfold whF
      simp [inC, ad_dr, grd_of (show 0 ≤ 1000000 by decide), h2]
    · rw [List.concat_eq_append] at hW
      have hs : s ∈ σ.ss := h.wf s (by rw [hW]; simp)
      have su := h.us s hs
      have sl := us_lt su
      have hx := h.pop hW
      have ec : inC [.val (tK kd), .val (stD kd), .val (.lst (gs.map D.int)), nsD σ, .val (.ref st.ob.length), x5, x6, x7, x8] (st.ad (.lst (tN σ.W))) = some (true, st.ad (.lst (tN σ.W))) := by
        have hne := ne_nats σ.W
        have hnb : σ.W.isEmpty = false := by rw [hW]; cases W0 <;> rfl
        rw [hnb] at hne
        unfold inC
        generalize hLL : tN σ.W = LL at *
        simp [ad_dr, grd_of (show 0 ≤ 1000000 by decide), hne]
      have e1 : asgM (nameT 5) (spopM (rd 4)) [.val (tK kd), .val (stD kd), .val (.lst (gs.map D.int)), nsD σ, .val (.ref st.ob.length), x5, x6, x7, x8] (st.ad (.lst (tN σ.W))) = some (.nx [.val (tK kd), .val (stD kd), .val (.lst (gs.map D.int)), nsD σ, .val (.ref st.ob.length), .val (nD s), x6, x7, x8], st.ad (.lst (tN W0))) := by
        refine asg_nx ?_
        rw [hW]
        have hp := ad_put st (.lst (tN (W0 ++ [s]))) (.lst (tN W0))
        simp [ad_lst]
        simpa using hp
      rw [whF, ec, Option.bind_some, if_pos rfl]
      have gE := tK_end ok sl (st.ad (.lst (tN W0))) [.val (stD kd), .val (.lst (gs.map D.int)), nsD σ, .val (.ref st.ob.length), .val (nD s), x6, x7, x8] 5 rfl
      have g1 := getK_map (inV σ.f) hs
      have eC : andM (truM (opM subD (opM subD (rd 0) (cst (.int 2))) (rd 5))) (tstM (opM neM (opM subD (rdW 3) (rd 5)) (cst (.int 0)))) [.val (tK kd), .val (stD kd), .val (.lst (gs.map D.int)), nsD σ, .val (.ref st.ob.length), .val (nD s), x6, x7, x8] (st.ad (.lst (tN W0))) = some (isE kd s && !decide (σ.f s = 0), st.ad (.lst (tN W0))) := by
        rw [v_andM, v_truM, gE]
        cases isE kd s with
        | false => rfl
        | true => simp [truD, g1, inV]
      by_cases hb : isE kd s = true ∧ σ.f s ≠ 0
      · refine .inr ⟨st.ad (.lst (tN W0)), ?_, rfl, ?_⟩
        · rw [hb.1, decide_eq_false hb.2] at eC
          have e2 : inE [.val (tK kd), .val (stD kd), .val (.lst (gs.map D.int)), nsD σ, .val (.ref st.ob.length), .val (nD s), x6, x7, x8] (st.ad (.lst (tN W0))) = some (.rt (.bl false), st.ad (.lst (tN W0))) := ifs_t eC rfl
          have : inW [.val (tK kd), .val (stD kd), .val (.lst (gs.map D.int)), nsD σ, .val (.ref st.ob.length), x5, x6, x7, x8] (st.ad (.lst (tN σ.W))) = some (.rt (.bl false), st.ad (.lst (tN W0))) := by
            unfold inW
            exact (seq_nx e1).trans (seq_rt e2)
          rw [this]; rfl
        · obtain ⟨p, p1, p2, p3⟩ := h.path s hs
          exact ⟨p, wrongU p1 hb.1 (by rw [p2]; exact hb.2), by omega⟩
      · have hbe : (isE kd s && !decide (σ.f s = 0)) = false := by
          cases he : isE kd s with
          | false => rfl
          | true =>
            have : σ.f s = 0 := Classical.byContradiction fun z => hb ⟨he, z⟩
            simp [this]
        rw [hbe] at eC
        have e2 : inE [.val (tK kd), .val (stD kd), .val (.lst (gs.map D.int)), nsD σ, .val (.ref st.ob.length), .val (nD s), x6, x7, x8] (st.ad (.lst (tN W0))) = some (.nx [.val (tK kd), .val (stD kd), .val (.lst (gs.map D.int)), nsD σ, .val (.ref st.ob.length), .val (nD s), x6, x7, x8], st.ad (.lst (tN W0))) := ifs_f eC rfl
        have e3 : (seqI (opM subD (rd 1) (rd 5))) [.val (tK kd), .val (stD kd), .val (.lst (gs.map D.int)), nsD σ, .val (.ref st.ob.length), .val (nD s), x6, x7, x8] (st.ad (.lst (tN W0))) = some (edD (eds kd s), st.ad (.lst (tN W0))) := by
          have hgk := getK_map (stV kd) su
          rw [v_seqI]
          have : (opM subD (rd 1) (rd 5)) [.val (tK kd), .val (stD kd), .val (.lst (gs.map D.int)), nsD σ, .val (.ref st.ob.length), .val (nD s), x6, x7, x8] (st.ad (.lst (tN W0))) = some (stV kd s, st.ad (.lst (tN W0))) := by simp [hgk]
          rw [this]; rfl
        have hz : isE kd s = true → σ.f s = 0 := fun he => Classical.byContradiction fun z => hb ⟨he, z⟩
        rcases in_edges ok hg (s := s) (v := σ.f s) st (.val (tK kd)) (.val (stD kd)) (eds kd s) [] ⟨σ.ss, σ.f, W0⟩ x6 x7 x8 hx (fun e he => (eds_mem ok sl).mp he) with ⟨σ', y6, y7, y8, e4, h4, m4⟩ | ⟨s1, e4, n4, hw⟩
        · have hI := h4.done (fun k t hk => by rw [List.nil_append]; exact (eds_mem ok sl).mpr hk) hz
          have hj' : σ'.W.length + (kd.rows.length - σ'.ss.length) = j := by
            have hWl : σ.W.length = W0.length + 1 := by rw [hW]; simp
            dsimp only at m4
            omega
          have eW : inW [.val (tK kd), .val (stD kd), .val (.lst (gs.map D.int)), nsD σ, .val (.ref st.ob.length), x5, x6, x7, x8] (st.ad (.lst (tN σ.W))) = some (.nx [.val (tK kd), .val (stD kd), .val (.lst (gs.map D.int)), nsD σ', .val (.ref st.ob.length), .val (nD s), y6, y7, y8], st.ad (.lst (tN σ'.W))) := by
            unfold inW
            exact (seq_nx e1).trans ((seq_nx e2).trans (forM_of e3 e4))
          rw [eW]
          exact ih σ' (.val (nD s)) y6 y7 y8 hI hj'
        · refine .inr ⟨s1, ?_, n4, hw⟩
          have eW : inW [.val (tK kd), .val (stD kd), .val (.lst (gs.map D.int)), nsD σ, .val (.ref st.ob.length), x5, x6, x7, x8] (st.ad (.lst (tN σ.W))) = some (.rt (.bl false), s1) := by
            unfold inW
            exact (seq_nx e1).trans ((seq_nx e2).trans (forM_of e3 e4))
          rw [eW]; rfl
theorem nought_ok (h0 : 0 ∈ us kd) (st : S) : ∃ (b : Bool) (s1 : S), m_is_nought [tK kd, stD kd, .lst (gs.map D.int)] st = some (.bl b, s1) ∧ s1.n = st.n ∧ (b = true → ∀ w, ¬ WrongU kd gs w) ∧ (b = false → ∃ w, WrongU kd gs w ∧ w.length ≤ 2 * kd.rows.length) := by
  have hm := ok.m8
  have h : NI kd gs (fun _ => False) ⟨[0], fun _ => 0, [0]⟩ := by
    refine ⟨by simp, fun s hs => by rw [List.mem_singleton.mp hs]; exact h0, by simp, rfl, fun s hs => ⟨[], by rw [List.mem_singleton.mp hs]; rfl, rfl, by simp⟩, fun s hs => hs, by simp, fun s hs hW _ => absurd hs hW⟩
  have hb : b_is_nought = seqM (par2 3 4 (xK (dispK (pCons (cst (.int 0)) (cst (.int 0)) pNil))) (xV (stoL (lstM (aCons (cst (.int 0)) aNil))))) (seqM (whM inC inW) (retM (cst (.bl true)))) := rfl
  have e0 : par2 3 4 (xK (dispK (pCons (cst (.int 0)) (cst (.int 0)) pNil))) (xV (stoL (lstM (aCons (cst (.int 0)) aNil)))) [.val (tK kd), .val (stD kd), .val (.lst (gs.map D.int)), .un, .un, .un, .un, .un, .un] st = some (.nx [.val (tK kd), .val (stD kd), .val (.lst (gs.map D.int)), nsD ⟨[0], fun _ => 0, [0]⟩, .val (.ref st.ob.length), .un, .un, .un, .un], st.ad (.lst (tN [0]))) := by
    rfl
  rcases in_loop ok hg st (1 + (kd.rows.length - 1)) ⟨[0], fun _ => 0, [0]⟩ .un .un .un .un h rfl with ⟨σ', y5, y6, y7, y8, e1, hno⟩ | ⟨s1, e1, n1, hw⟩
  · refine ⟨true, st.ad (.lst []), ?_, rfl, fun _ => hno, fun z => by cases z⟩
    refine run_of ?_
    rw [hb]
    refine (seq_nx e0).trans ?_
    refine (seq_nx (whM_of e1)).trans rfl
  · refine ⟨false, s1, ?_, n1, (fun z => by cases z), fun _ => hw⟩
    refine run_of ?_
    rw [hb]
    exact (seq_nx e0).trans (seq_rt (whM_of e1))
end
end Lw

set_option Elab.async false
set_option linter.all false
set_option maxRecDepth 100000
set_option maxHeartbeats 1000000
namespace Lw
open PySem MD L2
def tw (w : List Nat) : Str := W (w.map (97 + ·))
theorem tw_nil : tw [] = "" := by unfold tw; rw [empty_W]; rfl
theorem tw_len (w : List Nat) : (tw w).length = w.length := by unfold tw; rw [W_len, List.length_map]
theorem tw_app (a b : List Nat) : tw a ++ tw b = tw (a ++ b) := by unfold tw; rw [W_app, List.map_append]
theorem abcd_tw {k : Nat} (h : k < 4) : ixM (.str "abcd") (nD k) = some (.str (tw [k])) := abcd_at h
theorem ownK_nx {a : MK} {i : Nat} {env : Sg} {st s1 : S} {ks : List Key} {ds : List D} (hf : a env st = some ((ks, ds), s1)) : ownK i a env st = some (.nx (env.set i (.own (.dic ks, ds))), s1) := by rw [v_ownK, hf]; rfl
theorem forK_dic {f : ME} {t : MG} {b : MS} {env : Sg} {st : S} {ks : List Key} {ds : List D} {r : Option (Fl × S)} (h : f env st = some (.dic ks ds, st)) (e : forL t b (ks.map keyD) env st = r) : forK f t b env st = r := by
  unfold forK
  rw [h]
  exact e
/-! ### entries as data -/
open Un (E)
def enR (e : E) : D := .tup [.str (tw e.1), .int e.2.1, nD e.2.2]
def enP (e : E) : D := .tup [.int e.2.1, .str (tw e.1)]
theorem tw_list (w : List Nat) : (tw w).cps.toList = w.map (97 + ·) := by unfold tw; rw [W_list]
theorem map_lt : ∀ {a b : List Nat}, a.map (97 + ·) < b.map (97 + ·) → a < b
  | [], [], h => absurd h (List.lt_irrefl _)
  | [], y :: b, h => List.nil_lt_cons _ _
  | x :: a, [], h => by cases h
  | x :: a, y :: b, h => by
    rw [List.map_cons, List.map_cons] at h
    rcases List.cons_lt_cons_iff.mp h with h | ⟨h1, h2⟩
    · exact List.cons_lt_cons_iff.mpr (.inl (by omega))
    · exact List.cons_lt_cons_iff.mpr (.inr ⟨by omega, map_lt h2⟩)
theorem map_inj {a b : List Nat} (h : a.map (97 + ·) = b.map (97 + ·)) : a = b := List.map_inj_right (fun x y z => by omega) |>.mp h
theorem lt_total (a b : List Nat) (h : ¬ b < a) : a < b ∨ a = b := by
  by_cases z : a < b
  · exact .inl z
  · exact .inr (List.le_antisymm (List.not_lt.mp h) (List.not_lt.mp z))
/-- the sort's order, by the words first -/
def leE (a b : E) : Bool := PySem.W.dataLe false D.py (enR a) (enR b)
theorem leE_total : PySem.W.TotalLe leE := by
  have h := PySem.W.sortLe_total (PyProof.Rows.listOrd PyProof.Rows.itemOrd) false fun e : E => PySem.W.keyToks (enR e).py
  exact h
theorem leE_word {a b : E} (h : leE a b = true) : a.1 < b.1 ∨ a.1 = b.1 := by
  have h' : (!PySem.W.dataLt (enR b).py (enR a).py) = true := h
  have e : PySem.W.dataLt (enR b).py (enR a).py = (if (tw b.1).cps.toList = (tw a.1).cps.toList then PySem.W.dataLt (enR b).py (enR a).py else decide ((tw b.1).cps.toList < (tw a.1).cps.toList)) := by
    by_cases hxy : (tw b.1).cps.toList = (tw a.1).cps.toList
    · rw [if_pos hxy]
    · rw [if_neg hxy]
      show PyProof.Rows.lexLt PyProof.Rows.itemOrd (.inl 1 :: .inr (tw b.1).cps.toList :: _) (.inl 1 :: .inr (tw a.1).cps.toList :: _) = _
      rw [PyProof.Rows.lex_self, PyProof.Rows.lex_diff (fun z => hxy (Sum.inr.inj z))]
      rfl
  rw [tw_list, tw_list] at e
  by_cases hxy : b.1.map (97 + ·) = a.1.map (97 + ·)
  · exact .inr (map_inj hxy).symm
  · rw [if_neg hxy] at e
    rw [e] at h'
    have h2 : ¬ (b.1.map (97 + ·) < a.1.map (97 + ·)) := by simpa using h'
    rcases lt_total _ _ h2 with z | z
    · exact .inl (map_lt z)
    · exact .inr (map_inj z)
def srE (L : List E) : List E := L.mergeSort leE
theorem srE_perm (L : List E) : (srE L).Perm L := List.mergeSort_perm L leE
theorem srE_mem {L : List E} {e : E} : e ∈ srE L ↔ e ∈ L := (srE_perm L).mem_iff
theorem srE_len (L : List E) : (srE L).length = L.length := (srE_perm L).length_eq
theorem srE_srt {L : List E} {n : Nat} (h : ∀ e ∈ L, e.1.length = n) : Un.Srt (srE L) := by
  have := PySem.W.sort_pairwise leE_total L
  refine List.Pairwise.imp_of_mem ?_ this
  intro a b ha hb hab
  have la := h a (srE_mem.mp ha)
  have lb := h b (srE_mem.mp hb)
  exact .inr ⟨by omega, leE_word hab⟩
theorem srtD_enR (L : List E) : srtD (L.map enR) = (srE L).map enR := (PySem.W.sort_maps (r := leE) (s := PySem.W.dataLe false D.py) enR (l := L) fun a _ b _ => rfl).symm
theorem sortG_enR (L : List E) : sortG (L.map enR) = true := by
  have h1 : ∀ d ∈ L.map enR, ∃ e, d = enR e := fun d hd => by
    obtain ⟨e, _, rfl⟩ := List.mem_map.mp hd
    exact ⟨e, rfl⟩
  unfold sortG
  simp only [Bool.and_eq_true]
  refine ⟨⟨⟨?_, ?_⟩, ?_⟩, ?_⟩
  · exact plAll_of fun d hd => by obtain ⟨e, rfl⟩ := h1 d hd; rfl
  · unfold allAl
    rw [List.all_eq_true]
    intro d hd
    rw [List.all_eq_true]
    intro d' hd'
    obtain ⟨e, rfl⟩ := h1 d hd
    obtain ⟨e', rfl⟩ := h1 d' hd'
    simp [enR, D.py, pyAll, PySem.W.alike, PySem.W.alikeAll]
  · rw [Bool.or_eq_true]
    left
    rw [List.all_eq_true]
    intro d hd
    obtain ⟨e, rfl⟩ := h1 d hd
    rfl
  · rw [List.all_eq_true]
    intro d hd
    obtain ⟨e, rfl⟩ := h1 d hd
    refine decide_eq_true ?_
    simp [enR, D.py, pyAll, PyData.depth, PyData.depthAll]
theorem sort_of {f : ME} {env : Sg} {st s1 : S} {L : List E} (h : f env st = some (.lst (L.map enR), s1)) : frz (sortM f) env st = some (.lst ((srE L).map enR), s1) := by
  rw [v_frz]
  unfold sortM
  rw [h, Option.bind_some]
  show (if sortG (L.map enR) = true then some (srtD (L.map enR), s1) else none).map _ = _
  rw [if_pos (sortG_enR L), srtD_enR]; rfl
/-! ### a layer as a dict -/
def lyV (P : Nat → List E) (s : Nat) : D := .lst ((P s).map enP)
def lyD (ss : List Nat) (P : Nat → List E) : D := .dic (tKs ss) (ss.map (lyV P))
/-! added -/
def addE (l : List E) (e : E) : List E := if l.length = 2 ∨ e.2.1 ∈ l.map (·.2.1) then l else l ++ [e]
theorem added_ok (l : List E) (e : E) (hl : l.length ≤ 10) (st : S) : m_added [.lst (l.map enP), enP e] st = some (.lst ((addE l e).map enP), st) := by
  have hc : compL (tupT 2 (consT (nameT 2) (consT (nameT 3) nilT))) yesM (rd 2) [.val (.lst (l.map enP)), .val (enP e), .un, .un] (l.map enP) st = some ((l.map (·.2.1)).map D.int, st) := by
    clear hl
    generalize Sl.val (.lst (l.map enP)) = x0
    generalize Sl.val (enP e) = x1
    induction l with
    | nil => rfl
    | cons a l ih =>
      rw [List.map_cons, v_compL]
      show ((some [x0, x1, .val (.int a.2.1), .val (.str (tw a.1))]).bind _) = _
      rw [Option.bind_some]
      show ((compL (tupT 2 (consT (nameT 2) (consT (nameT 3) nilT))) yesM (rd 2) [x0, x1, .un, .un] (l.map enP) st).map _) = _
      rw [ih]; rfl
  have h2 : frz (compM (seqI (rd 0)) (tupT 2 (consT (nameT 2) (consT (nameT 3) nilT))) yesM (rd 2) [2, 3]) [.val (.lst (l.map enP)), .val (enP e), .un, .un] st = some (.lst ((l.map (·.2.1)).map D.int), st) := by
    rw [v_frz, v_compM]
    have : seqI (rd 0) [.val (.lst (l.map enP)), .val (enP e), .un, .un] st = some (l.map enP, st) := rfl
    rw [this, Option.bind_some, grd_of (by simp; omega)]
    simp only [v_wipe1, v_wipe0, List.set_cons_succ, List.set_cons_zero]
    rw [hc]; rfl
  have h3 : tstM (opM eqM (cbM lenA (aCons (rd 0) aNil)) (cst (.int 2))) [.val (.lst (l.map enP)), .val (enP e), .un, .un] st = some (decide (l.length = 2), st) := by
    have e1 : cbM lenA (aCons (rd 0) aNil) [.val (.lst (l.map enP)), .val (enP e), .un, .un] st = some (nD l.length, st) := by
      show some (D.int ((l.map enP).length : Nat), st) = _
      rw [List.length_map]
    rw [v_tstM, v_opM, e1]
    show some (decide (((l.length : Nat) : Int) = 2), st) = _
    congr 2
    exact decide_eq_decide.mpr ⟨fun z => by omega, fun z => by omega⟩
  have h4 : tstM (opM (cntD false) (opM subD (rd 1) (cst (.int 0))) (frz (compM (seqI (rd 0)) (tupT 2 (consT (nameT 2) (consT (nameT 3) nilT))) yesM (rd 2) [2, 3]))) [.val (.lst (l.map enP)), .val (enP e), .un, .un] st = some (decide (e.2.1 ∈ l.map (·.2.1)), st) := by
    rw [v_tstM, v_opM]
    have e1 : opM subD (rd 1) (cst (.int 0)) [.val (.lst (l.map enP)), .val (enP e), .un, .un] st = some (.int e.2.1, st) := rfl
    rw [e1, Option.bind_some, h2, Option.bind_some]
    show ((inM (.int e.2.1) (.lst ((l.map (·.2.1)).map D.int))).map _).bind _ = _
    rw [in_ints]; rfl
  refine run_of (b := b_added) ?_
  show retM (ifM (orM _ _) (rd 0) _) [.val (.lst (l.map enP)), .val (enP e), .un, .un] st = _
  refine ret_of ?_
  have hor : ∀ (c : MT), c = orM (tstM (opM eqM (cbM lenA (aCons (rd 0) aNil)) (cst (.int 2)))) (tstM (opM (cntD false) (opM subD (rd 1) (cst (.int 0))) (frz (compM (seqI (rd 0)) (tupT 2 (consT (nameT 2) (consT (nameT 3) nilT))) yesM (rd 2) [2, 3])))) → c [.val (.lst (l.map enP)), .val (enP e), .un, .un] st = some (decide (l.length = 2 ∨ e.2.1 ∈ l.map (·.2.1)), st) := by
    intro c hc
    rw [hc, v_orM, h3, Option.bind_some]
    by_cases z : l.length = 2
    · rw [decide_eq_true z, decide_eq_true (Or.inl z)]; rfl
    · rw [decide_eq_false z]
      show tstM _ _ _ = _
      rw [h4]
      congr 2
      exact decide_eq_decide.mpr ⟨fun q => .inr q, fun q => q.resolve_left z⟩
  rw [v_ifM, hor _ rfl, Option.bind_some]
  unfold addE
  by_cases z : l.length = 2 ∨ e.2.1 ∈ l.map (·.2.1)
  · rw [decide_eq_true z, if_pos z]; rfl
  · rw [decide_eq_false z, if_neg z]
    have ha : opM addM (rd 0) (frz (lstM (aCons (rd 1) aNil))) [.val (.lst (l.map enP)), .val (enP e), .un, .un] st = some (.lst (l.map enP ++ [enP e]), st) := add_lst rfl (lst_of rfl (by simp)) (by simp; omega)
    show opM addM (rd 0) (frz (lstM (aCons (rd 1) aNil))) [.val (.lst (l.map enP)), .val (enP e), .un, .un] st = _
    rw [ha, List.map_append]; rfl
/-- one by one, or at once -/
theorem add_two : ∀ (l : List E), l.foldl addE [] = Un.two l
  | [] => rfl
  | f :: r => by
    have full : ∀ (a b : E) (r : List E), r.foldl addE [a, b] = [a, b] := by
      intro a b r
      induction r with
      | nil => rfl
      | cons c r ih =>
        rw [List.foldl_cons]
        have : addE [a, b] c = [a, b] := if_pos (.inl rfl)
        rw [this, ih]
    have one : ∀ (r : List E), r.foldl addE [f] = f :: (r.filter fun e => decide (e.2.1 ≠ f.2.1)).take 1 := by
      intro r
      induction r with
      | nil => rfl
      | cons c r ih =>
        rw [List.foldl_cons]
        by_cases h : c.2.1 = f.2.1
        · have : addE [f] c = [f] := if_pos (.inr (by simp [h]))
          rw [this, ih, List.filter_cons_of_neg (by simp [h])]
        · have : addE [f] c = [f, c] := if_neg (by simp [h])
          rw [this, full, List.filter_cons_of_pos (by simp [h])]
          rfl
    show r.foldl addE (addE [] f) = _
    have : addE [] f = [f] := if_neg (by simp)
    rw [this, one]
    rfl
end Lw

set_option Elab.async false
set_option linter.all false
set_option maxRecDepth 100000
set_option maxHeartbeats 1000000
namespace Lw
open PySem MD L2
open Un (E)
/-! ### wrong_words -/
def wL (kd : Kd) (ss : List Nat) (P : Nat → List E) : List E := ss.flatMap fun s => if isE kd s = true then (P s).filter (fun e => decide (e.2.1 ≠ 0)) else []
abbrev stW (L : List E) : List D := L.map fun e => D.str (tw e.1)
noncomputable def wwB : MS := (ifS (truM (opM subD (opM subD (rd 0) (cst (.int 2))) (rd 3)))
 (extM 2 (frz (compM (seqI (opM subD (rd 1) (rd 3))) (tupT 2 (consT (nameT 4) (consT (nameT 5) nilT))) (tstM (opM neM (rd 4) (cst (.int 0)))) (rd 5) [4, 5])))
 nxM)
theorem ww_comp (st : S) (x0 x1 x2 x3 : Sl) : ∀ l : List E, compL (tupT 2 (consT (nameT 4) (consT (nameT 5) nilT))) (tstM (opM neM (rd 4) (cst (.int 0)))) (rd 5) [x0, x1, x2, x3, .un, .un] (l.map enP) st = some (stW (l.filter fun e => decide (e.2.1 ≠ 0)), st)
  | [] => rfl
  | e :: l => by
    have ih := ww_comp st x0 x1 x2 x3 l
    have ht : tstM (opM neM (rd 4) (cst (.int 0))) [x0, x1, x2, x3, .val (.int e.2.1), .val (.str (tw e.1))] st = some (!decide (e.2.1 = 0), st) := rfl
    rw [List.map_cons, v_compL]
    show ((some [x0, x1, x2, x3, .val (.int e.2.1), .val (.str (tw e.1))]).bind _) = _
    rw [Option.bind_some, ht, Option.bind_some]
    by_cases h : e.2.1 = 0
    · rw [decide_eq_true h, List.filter_cons_of_neg (by simp [h])]
      exact ih
    · rw [decide_eq_false h, List.filter_cons_of_pos (by simp [h])]
      show ((compL _ _ _ [x0, x1, x2, x3, .un, .un] (l.map enP) st).map _) = _
      rw [ih]; rfl
theorem ext_nx {i : Nat} {f : ME} {env : Sg} {st s1 : S} {ds es : List D} (he : env[i]? = some (.own (.lst, ds))) (hf : f env st = some (.lst es, s1)) (hl : ds.length + es.length ≤ 1000000) : extM i f env st = some (.nx (env.set i (.own (.lst, ds ++ es))), s1) := by
  rw [v_extM, he]
  show (f env st).bind _ = _
  rw [hf, Option.bind_some]
  show grd (ds.length + es.length) _ = _
  rw [grd_of hl]
theorem ww_for {kd : Kd} (ok : kd.Ok) {ss : List Nat} {P : Nat → List E} (st : S) (hP : ∀ s, (P s).length ≤ 2) : ∀ (ts us0 : List Nat) (x3 x4 x5 : Sl), (∀ s ∈ ts, s ∈ ss ∧ s < kd.rows.length) → us0.length + ts.length ≤ 1000 →
    ∃ y3 y4 y5, forL (nameT 3) wwB (tN ts) [.val (tK kd), .val (lyD ss P), .own (.lst, stW (wL kd us0 P)), x3, x4, x5] st = some (.nx [.val (tK kd), .val (lyD ss P), .own (.lst, stW (wL kd (us0 ++ ts) P)), y3, y4, y5], st)
  | [], us0, x3, x4, x5, _, _ => ⟨x3, x4, x5, by rw [List.append_nil]; rfl⟩
  | s :: ts, us0, x3, x4, x5, h, hl => by
    obtain ⟨h1, h2⟩ := h s List.mem_cons_self
    rw [List.length_cons] at hl
    have wl : ∀ l : List Nat, (wL kd l P).length ≤ 2 * l.length := by
      intro l
      induction l with
      | nil => exact Nat.le_refl _
      | cons a l ih =>
        have : (wL kd (a :: l) P) = (if isE kd a = true then (P a).filter (fun e => decide (e.2.1 ≠ 0)) else []) ++ wL kd l P := by unfold wL; rw [List.flatMap_cons]
        rw [this, List.length_append, List.length_cons]
        have h3 : (if isE kd a = true then (P a).filter (fun e => decide (e.2.1 ≠ 0)) else []).length ≤ 2 := by
          split
          · exact Nat.le_trans (List.length_filter_le _ _) (hP a)
          · exact Nat.zero_le _
        omega
    obtain ⟨y3, y4, y5, ih⟩ := ww_for ok st hP ts (us0 ++ [s]) (.val (nD s)) x4 x5 (fun x hx => h x (List.mem_cons_of_mem _ hx)) (by simp; omega)
    refine ⟨y3, y4, y5, ?_⟩
    have hE := tK_end ok h2 st [.val (lyD ss P), .own (.lst, stW (wL kd us0 P)), .val (nD s), x4, x5] 3 rfl
    have eB : wwB [.val (tK kd), .val (lyD ss P), .own (.lst, stW (wL kd us0 P)), .val (nD s), x4, x5] st = some (.nx [.val (tK kd), .val (lyD ss P), .own (.lst, stW (wL kd (us0 ++ [s]) P)), .val (nD s), x4, x5], st) := by
      have e0 : wL kd (us0 ++ [s]) P = wL kd us0 P ++ (if isE kd s = true then (P s).filter (fun e => decide (e.2.1 ≠ 0)) else []) := by
        unfold wL
        rw [List.flatMap_append, List.flatMap_cons, List.flatMap_nil, List.append_nil]
      have et : truM (opM subD (opM subD (rd 0) (cst (.int 2))) (rd 3)) [.val (tK kd), .val (lyD ss P), .own (.lst, stW (wL kd us0 P)), .val (nD s), x4, x5] st = some (isE kd s, st) := by
        rw [v_truM, hE]; rfl
      unfold wwB
      rw [e0]
      cases he : isE kd s with
      | false =>
        rw [he] at et
        rw [if_neg (by simp)]
        rw [List.append_nil]
        exact ifs_f et rfl
      | true =>
        rw [he] at et
        rw [if_pos rfl]
        have ec : frz (compM (seqI (opM subD (rd 1) (rd 3))) (tupT 2 (consT (nameT 4) (consT (nameT 5) nilT))) (tstM (opM neM (rd 4) (cst (.int 0)))) (rd 5) [4, 5]) [.val (tK kd), .val (lyD ss P), .own (.lst, stW (wL kd us0 P)), .val (nD s), x4, x5] st = some (.lst (stW ((P s).filter fun e => decide (e.2.1 ≠ 0))), st) := by
          have hg := getK_map (lyV P) h1
          have es : seqI (opM subD (rd 1) (rd 3)) [.val (tK kd), .val (lyD ss P), .own (.lst, stW (wL kd us0 P)), .val (nD s), x4, x5] st = some ((P s).map enP, st) := by
            have : opM subD (rd 1) (rd 3) [.val (tK kd), .val (lyD ss P), .own (.lst, stW (wL kd us0 P)), .val (nD s), x4, x5] st = some (lyV P s, st) := by
              unfold lyD
              simp [hg, lyV]
            rw [v_seqI, this]; rfl
          rw [v_frz, v_compM, es, Option.bind_some, grd_of (by rw [List.length_map]; have := hP s; omega)]
          simp only [v_wipe1, v_wipe0, List.set_cons_succ, List.set_cons_zero]
          rw [ww_comp]; rfl
        refine ifs_t et ((ext_nx (i := 2) (ds := stW (wL kd us0 P)) rfl ec ?_).trans ?_)
        · have := wl us0
          have h4 := Nat.le_trans (List.length_filter_le (fun e : E => decide (e.2.1 ≠ 0)) (P s)) (hP s)
          simp only [List.length_map]
          omega
        · rw [← List.map_append]; rfl
    refine forL_cons_of (e1 := [.val (tK kd), .val (lyD ss P), .own (.lst, stW (wL kd us0 P)), .val (nD s), x4, x5]) rfl eB ?_
    rw [show us0 ++ s :: ts = us0 ++ [s] ++ ts by simp]
    exact ih
theorem ww_ok {kd : Kd} (ok : kd.Ok) {ss : List Nat} {P : Nat → List E} (st : S) (hP : ∀ s, (P s).length ≤ 2) (hs : ∀ s ∈ ss, s < kd.rows.length) (hl : ss.length ≤ 100) : m_wrong_words [tK kd, lyD ss P] st = some (.lst (stW (wL kd ss P)), st) := by
  obtain ⟨y3, y4, y5, e⟩ := ww_for ok (ss := ss) st hP ss [] .un .un .un (fun s h => ⟨h, hs s h⟩) (by simp; omega)
  refine run_of (b := b_wrong_words) ?_
  show seqM (ownM 2 (lstM aNil)) (seqM (forK (rd 1) (nameT 3) wwB) (frzM 2 (retM (rd 2)))) [.val (tK kd), .val (lyD ss P), .un, .un, .un, .un] st = _
  refine (seq_nx (e := [.val (tK kd), .val (lyD ss P), .own (.lst, []), .un, .un, .un]) (s1 := st) (own_nx (by rw [v_lstM, v_aNil, Option.bind_some, grd_of (by simp)]))).trans ?_
  have ek : forK (rd 1) (nameT 3) wwB [.val (tK kd), .val (lyD ss P), .own (.lst, []), .un, .un, .un] st = some (.nx [.val (tK kd), .val (lyD ss P), .own (.lst, stW (wL kd ss P)), y3, y4, y5], st) := by
    refine forK_dic (ks := tKs ss) (ds := ss.map (lyV P)) rfl ?_
    rw [List.map_map]
    exact e
  exact (seq_nx ek).trans rfl
theorem wL_mem {kd : Kd} {ss : List Nat} {P : Nat → List E} (hst : ∀ s ∈ ss, ∀ e ∈ P s, e.2.2 = s) {e : E} : e ∈ wL kd ss P ↔ e ∈ ss.flatMap P ∧ Un.wrE (isE kd) e = true := by
  unfold wL Un.wrE
  rw [List.mem_flatMap, List.mem_flatMap, Bool.and_eq_true]
  constructor
  · rintro ⟨s, h1, h2⟩
    split at h2
    · rename_i hE
      rw [List.mem_filter] at h2
      exact ⟨⟨s, h1, h2.1⟩, by rw [hst s h1 e h2.1]; exact hE, h2.2⟩
    · cases h2
  · rintro ⟨⟨s, h1, h2⟩, h3, h4⟩
    refine ⟨s, h1, ?_⟩
    rw [if_pos (by rw [← hst s h1 e h2]; exact h3)]
    exact List.mem_filter.mpr ⟨h2, h4⟩
/-! ### next_worths: the rows -/
noncomputable def nw (kd : Kd) (gs : List Int) (s : Nat) (e : E) : List E := (eds kd s).map fun kt => (e.1 ++ [kt.1], e.2.1 + gF gs kt.1, kt.2)
noncomputable def nwS (kd : Kd) (gs : List Int) (P : Nat → List E) (s : Nat) : List E := (P s).flatMap (nw kd gs s)
noncomputable def nwT : ME := (tupM (aCons (opM addM (rd 6) (opM subD (cst (.str "abcd")) (rd 8))) (aCons (opM addM (rd 5) (opM subD (rd 1) (rd 8))) (aCons (rd 9) aNil))))
noncomputable def nwB : MS := (extM 3 (frz (compM (seqI (opM subD (rd 0) (rd 4))) (tupT 2 (consT (nameT 8) (consT (nameT 9) nilT))) yesM nwT [8, 9])))
section
variable {kd : Kd} {gs : List Int} (ok : kd.Ok) (hg : gs.length = kd.k)
include ok hg
theorem nw_comp (st : S) (x0 x2 x3 x4 x7 : Sl) (e : E) (hw : e.1.length ≤ 1000) : ∀ es : List (Nat × Nat), (∀ x ∈ es, x.1 < kd.k) → compL (tupT 2 (consT (nameT 8) (consT (nameT 9) nilT))) yesM nwT [x0, .val (.lst (gs.map D.int)), x2, x3, x4, .val (.int e.2.1), .val (.str (tw e.1)), x7, .un, .un] (edD es) st = some ((es.map fun kt => (e.1 ++ [kt.1], e.2.1 + gF gs kt.1, kt.2)).map enR, st)
  | [], _ => rfl
  | (k, t) :: es, h => by
    have ih := nw_comp st x0 x2 x3 x4 x7 e hw es fun x hx => h x (List.mem_cons_of_mem _ hx)
    have hk : k < kd.k := h (k, t) List.mem_cons_self
    have hk4 := ok.k4
    have g3 := form_at (fm := gs) (k := k) (by omega)
    have g4 := abcd_tw (k := k) (by omega)
    have ha : addM (.str (tw e.1)) (.str (tw [k])) = some (.str (tw (e.1 ++ [k]))) := by
      rw [v_addS, grd_of (by rw [tw_len, tw_len]; simp; omega), tw_app]
    have et : nwT [x0, .val (.lst (gs.map D.int)), x2, x3, x4, .val (.int e.2.1), .val (.str (tw e.1)), x7, .val (nD k), .val (nD t)] st = some (enR (e.1 ++ [k], e.2.1 + gF gs k, t), st) := by
      have t1 : opM addM (rd 6) (opM subD (cst (.str "abcd")) (rd 8)) [x0, .val (.lst (gs.map D.int)), x2, x3, x4, .val (.int e.2.1), .val (.str (tw e.1)), x7, .val (nD k), .val (nD t)] st = some (.str (tw (e.1 ++ [k])), st) := by
        have : opM subD (cst (.str "abcd")) (rd 8) [x0, .val (.lst (gs.map D.int)), x2, x3, x4, .val (.int e.2.1), .val (.str (tw e.1)), x7, .val (nD k), .val (nD t)] st = some (.str (tw [k]), st) := by
          rw [v_opM]
          show ((subD (.str "abcd") (nD k)).map _) = _
          rw [v_subS, g4]; rfl
        rw [v_opM]
        show ((opM subD (cst (.str "abcd")) (rd 8) _ st).bind _) = _
        rw [this, Option.bind_some]
        show ((addM (.str (tw e.1)) (.str (tw [k]))).map _) = _
        rw [ha]; rfl
      have t2 : opM addM (rd 5) (opM subD (rd 1) (rd 8)) [x0, .val (.lst (gs.map D.int)), x2, x3, x4, .val (.int e.2.1), .val (.str (tw e.1)), x7, .val (nD k), .val (nD t)] st = some (.int (e.2.1 + gF gs k), st) := by
        simp [g3]
      unfold nwT
      rw [v_tupM, cons_of t1 (cons_of t2 (cons_of (d := nD t) (s1 := st) rfl v_aNil)), Option.bind_some, grd_of (by simp)]
      rfl
    show compL _ _ _ _ (D.tup [nD k, nD t] :: edD es) st = _
    rw [v_compL]
    show ((some [x0, .val (.lst (gs.map D.int)), x2, x3, x4, .val (.int e.2.1), .val (.str (tw e.1)), x7, .val (nD k), .val (nD t)]).bind _) = _
    rw [Option.bind_some]
    show ((nwT _ st).bind _) = _
    rw [et, Option.bind_some]
    show ((compL _ _ _ [x0, .val (.lst (gs.map D.int)), x2, x3, x4, .val (.int e.2.1), .val (.str (tw e.1)), x7, .un, .un] (edD es) st).map _) = _
    rw [ih]; rfl
theorem nw_words (st : S) (x2 x7 x8 x9 : Sl) {s : Nat} (hs : s ∈ us kd) : ∀ (l : List E) (acc : List E) (x5 x6 : Sl), (∀ e ∈ l, e.1.length ≤ 1000) → acc.length + 4 * l.length ≤ 10000 →
    ∃ y5 y6, forL (tupT 2 (consT (nameT 5) (consT (nameT 6) nilT))) nwB (l.map enP) [.val (stD kd), .val (.lst (gs.map D.int)), x2, .own (.lst, acc.map enR), .val (nD s), x5, x6, x7, x8, x9] st = some (.nx [.val (stD kd), .val (.lst (gs.map D.int)), x2, .own (.lst, (acc ++ l.flatMap (nw kd gs s)).map enR), .val (nD s), y5, y6, x7, x8, x9], st)
  | [], acc, x5, x6, _, _ => ⟨x5, x6, by rw [List.flatMap_nil, List.append_nil]; rfl⟩
  | e :: l, acc, x5, x6, hw, hl => by
    rw [List.length_cons] at hl
    have le : (nw kd gs s e).length ≤ 4 := by unfold nw; rw [List.length_map]; exact eds_len ok s
    obtain ⟨y5, y6, ih⟩ := nw_words st x2 x7 x8 x9 hs l (acc ++ nw kd gs s e) (.val (.int e.2.1)) (.val (.str (tw e.1))) (fun x hx => hw x (List.mem_cons_of_mem _ hx)) (by rw [List.length_append]; omega)
    refine ⟨y5, y6, ?_⟩
    have hc : frz (compM (seqI (opM subD (rd 0) (rd 4))) (tupT 2 (consT (nameT 8) (consT (nameT 9) nilT))) yesM nwT [8, 9]) [.val (stD kd), .val (.lst (gs.map D.int)), x2, .own (.lst, acc.map enR), .val (nD s), .val (.int e.2.1), .val (.str (tw e.1)), x7, x8, x9] st = some (.lst ((nw kd gs s e).map enR), st) := by
      have hgk := getK_map (stV kd) hs
      have es : seqI (opM subD (rd 0) (rd 4)) [.val (stD kd), .val (.lst (gs.map D.int)), x2, .own (.lst, acc.map enR), .val (nD s), .val (.int e.2.1), .val (.str (tw e.1)), x7, x8, x9] st = some (edD (eds kd s), st) := by
        have : opM subD (rd 0) (rd 4) [.val (stD kd), .val (.lst (gs.map D.int)), x2, .own (.lst, acc.map enR), .val (nD s), .val (.int e.2.1), .val (.str (tw e.1)), x7, x8, x9] st = some (stV kd s, st) := by simp [hgk]
        rw [v_seqI, this]; rfl
      have := eds_len ok s
      rw [v_frz, v_compM, es, Option.bind_some, grd_of (by rw [List.length_map]; omega)]
      simp only [v_wipe1, v_wipe0, List.set_cons_succ, List.set_cons_zero]
      rw [nw_comp ok hg st _ _ _ _ _ e (hw e List.mem_cons_self) _ fun x hx => eds_k (t := x.2) hx]
      rfl
    have eB : nwB [.val (stD kd), .val (.lst (gs.map D.int)), x2, .own (.lst, acc.map enR), .val (nD s), .val (.int e.2.1), .val (.str (tw e.1)), x7, x8, x9] st = some (.nx [.val (stD kd), .val (.lst (gs.map D.int)), x2, .own (.lst, (acc ++ nw kd gs s e).map enR), .val (nD s), .val (.int e.2.1), .val (.str (tw e.1)), x7, x8, x9], st) := by
      unfold nwB
      refine (ext_nx (i := 3) (ds := acc.map enR) rfl hc (by rw [List.length_map, List.length_map]; omega)).trans ?_
      rw [← List.map_append]; rfl
    refine forL_cons_of (e1 := [.val (stD kd), .val (.lst (gs.map D.int)), x2, .own (.lst, acc.map enR), .val (nD s), .val (.int e.2.1), .val (.str (tw e.1)), x7, x8, x9]) rfl eB ?_
    rw [List.flatMap_cons, ← List.append_assoc]
    exact ih
noncomputable def nwR : MS := (forM (seqI (opM subD (rd 2) (rd 4))) (tupT 2 (consT (nameT 5) (consT (nameT 6) nilT))) nwB)
theorem nw_rows (st : S) {ss : List Nat} {P : Nat → List E} (hP : ∀ s, (P s).length ≤ 2) (hw : ∀ s ∈ ss, ∀ e ∈ P s, e.1.length ≤ 1000) (x7 x8 x9 : Sl) : ∀ (ts : List Nat) (acc : List E) (x4 x5 x6 : Sl), (∀ s ∈ ts, s ∈ ss ∧ s ∈ us kd) → acc.length + 8 * ts.length ≤ 5000 →
    ∃ y4 y5 y6, forL (nameT 4) nwR (tN ts) [.val (stD kd), .val (.lst (gs.map D.int)), .val (lyD ss P), .own (.lst, acc.map enR), x4, x5, x6, x7, x8, x9] st = some (.nx [.val (stD kd), .val (.lst (gs.map D.int)), .val (lyD ss P), .own (.lst, (acc ++ ts.flatMap (nwS kd gs P)).map enR), y4, y5, y6, x7, x8, x9], st)
  | [], acc, x4, x5, x6, _, _ => ⟨x4, x5, x6, by rw [List.flatMap_nil, List.append_nil]; rfl⟩
  | s :: ts, acc, x4, x5, x6, h, hl => by
    rw [List.length_cons] at hl
    obtain ⟨h1, h2⟩ := h s List.mem_cons_self
    have lP := hP s
    have ln : (nwS kd gs P s).length ≤ 8 := by
      have : ∀ l : List E, (l.flatMap (nw kd gs s)).length ≤ 4 * l.length := by
        intro l
        induction l with
        | nil => exact Nat.le_refl _
        | cons a l ih =>
          rw [List.flatMap_cons, List.length_append, List.length_cons]
          have : (nw kd gs s a).length ≤ 4 := by unfold nw; rw [List.length_map]; exact eds_len ok s
          omega
      have := this (P s)
      unfold nwS
      omega
    obtain ⟨z5, z6, e1⟩ := nw_words ok hg st (.val (lyD ss P)) x7 x8 x9 h2 (P s) acc x5 x6 (hw s h1) (by omega)
    obtain ⟨y4, y5, y6, ih⟩ := nw_rows st hP hw x7 x8 x9 ts (acc ++ nwS kd gs P s) (.val (nD s)) z5 z6 (fun x hx => h x (List.mem_cons_of_mem _ hx)) (by rw [List.length_append]; omega)
    refine ⟨y4, y5, y6, ?_⟩
    have eB : nwR [.val (stD kd), .val (.lst (gs.map D.int)), .val (lyD ss P), .own (.lst, acc.map enR), .val (nD s), x5, x6, x7, x8, x9] st = some (.nx [.val (stD kd), .val (.lst (gs.map D.int)), .val (lyD ss P), .own (.lst, (acc ++ nwS kd gs P s).map enR), .val (nD s), z5, z6, x7, x8, x9], st) := by
      have hgk := getK_map (lyV P) h1
      have es : seqI (opM subD (rd 2) (rd 4)) [.val (stD kd), .val (.lst (gs.map D.int)), .val (lyD ss P), .own (.lst, acc.map enR), .val (nD s), x5, x6, x7, x8, x9] st = some ((P s).map enP, st) := by
        have : opM subD (rd 2) (rd 4) [.val (stD kd), .val (.lst (gs.map D.int)), .val (lyD ss P), .own (.lst, acc.map enR), .val (nD s), x5, x6, x7, x8, x9] st = some (lyV P s, st) := by
          unfold lyD
          simp [hgk, lyV]
        rw [v_seqI, this]; rfl
      unfold nwR
      exact forM_of es e1
    refine forL_cons_of (e1 := [.val (stD kd), .val (.lst (gs.map D.int)), .val (lyD ss P), .own (.lst, acc.map enR), .val (nD s), x5, x6, x7, x8, x9]) rfl eB ?_
    rw [List.flatMap_cons, ← List.append_assoc]
    exact ih
end
end Lw

set_option Elab.async false
set_option linter.all false
set_option maxRecDepth 100000
set_option maxHeartbeats 1000000
namespace Lw
open PySem MD L2
open Un (E)
theorem putK_upd {F : List Nat} {s : Nat} (h : s ∈ F) (f : Nat → D) (x : D) : putKs (tKs F) (nK s) = tKs F ∧ putVs (tKs F) (F.map f) (nK s) x = F.map fun s' => if s' = s then x else f s' := by
  constructor
  · unfold putKs
    rw [hasK_n, decide_eq_true h]; rfl
  · unfold putVs
    rw [hasK_n, decide_eq_true h, if_pos rfl]
    clear h
    induction F with
    | nil => rfl
    | cons a F ih =>
      show (if nK a = nK s then x else f a) :: List.zipWith _ (tKs F) (F.map f) = _
      rw [ih, List.map_cons]
      congr 1
      by_cases e : a = s
      · rw [if_pos e, if_pos (by rw [e])]
      · rw [if_neg e, if_neg fun z => e (nK_inj z)]
theorem pick_app (C0 : List E) (e : E) (s : Nat) : Un.pick s (C0 ++ [e]) = if s = e.2.2 then addE (Un.pick s C0) e else Un.pick s C0 := by
  unfold Un.pick Un.at_
  rw [List.filter_append]
  by_cases h : s = e.2.2
  · rw [if_pos h, List.filter_cons_of_pos (by simp [h]), List.filter_nil, ← add_two, ← add_two, List.foldl_append]; rfl
  · rw [if_neg h, List.filter_cons_of_neg (by simp; exact fun z => h z.symm), List.filter_nil, List.append_nil]
structure FdI (ss : List Nat) (C0 : List E) : Prop where
  nd : ss.Nodup
  mem : ∀ s, s ∈ ss ↔ ∃ e ∈ C0, e.2.2 = s
theorem pick_none {s : Nat} {C : List E} (h : ¬ ∃ e ∈ C, e.2.2 = s) : Un.pick s C = [] := by
  unfold Un.pick Un.at_
  rw [List.filter_eq_nil_iff.mpr fun e he => by simp; exact fun z => h ⟨e, he, z⟩]
  rfl
noncomputable def fdB : MS := (dputM 7 (rd 4) (callM m_added (aCons (get2M (rdW 7) (rd 4) (frz (lstM aNil))) (aCons (tupM (aCons (rd 5) (aCons (rd 6) aNil))) aNil))))
theorem fd_turn (st : S) (x0 x1 x2 x3 x8 x9 : Sl) {ss : List Nat} {C0 : List E} (h : FdI ss C0) (e : E) (hl : ss.length ≤ 1000) : ∃ ss', FdI ss' (C0 ++ [e]) ∧ (∀ s ∈ ss', s ∈ ss ∨ s = e.2.2) ∧
    fdB [x0, x1, x2, x3, .val (nD e.2.2), .val (.int e.2.1), .val (.str (tw e.1)), .own (.dic (tKs ss), ss.map (lyV fun s => Un.pick s C0)), x8, x9] st = some (.nx [x0, x1, x2, x3, .val (nD e.2.2), .val (.int e.2.1), .val (.str (tw e.1)), .own (.dic (tKs ss'), ss'.map (lyV fun s => Un.pick s (C0 ++ [e]))), x8, x9], st) := by
  have hg : get2M (rdW 7) (rd 4) (frz (lstM aNil)) [x0, x1, x2, x3, .val (nD e.2.2), .val (.int e.2.1), .val (.str (tw e.1)), .own (.dic (tKs ss), ss.map (lyV fun s => Un.pick s C0)), x8, x9] st = some (lyV (fun s => Un.pick s C0) e.2.2, st) := by
    by_cases hm : e.2.2 ∈ ss
    · have := getK_map (lyV fun s => Un.pick s C0) hm
      simp [this, grd_of (show 0 ≤ 1000000 by decide)]
    · have h1 := getK_no (lyV fun s => Un.pick s C0) hm
      have h2 : Un.pick e.2.2 C0 = [] := pick_none fun z => hm ((h.mem _).mpr z)
      simp [h1, grd_of (show 0 ≤ 1000000 by decide), lyV, h2]
  have hp : tupM (aCons (rd 5) (aCons (rd 6) aNil)) [x0, x1, x2, x3, .val (nD e.2.2), .val (.int e.2.1), .val (.str (tw e.1)), .own (.dic (tKs ss), ss.map (lyV fun s => Un.pick s C0)), x8, x9] st = some (enP e, st) := rfl
  have hl2 : (Un.pick e.2.2 C0).length ≤ 2 := Un.two_len _
  have ha := added_ok (Un.pick e.2.2 C0) e (by omega) st
  have hc : callM m_added (aCons (get2M (rdW 7) (rd 4) (frz (lstM aNil))) (aCons (tupM (aCons (rd 5) (aCons (rd 6) aNil))) aNil)) [x0, x1, x2, x3, .val (nD e.2.2), .val (.int e.2.1), .val (.str (tw e.1)), .own (.dic (tKs ss), ss.map (lyV fun s => Un.pick s C0)), x8, x9] st = some (.lst ((addE (Un.pick e.2.2 C0) e).map enP), st) := call_of (cons_of hg (cons_of hp v_aNil)) ha
  have hd := dput_of (i := 7) (f := rd 4) (env := [x0, x1, x2, x3, .val (nD e.2.2), .val (.int e.2.1), .val (.str (tw e.1)), .own (.dic (tKs ss), ss.map (lyV fun s => Un.pick s C0)), x8, x9]) (ks := tKs ss) (ds := ss.map (lyV fun s => Un.pick s C0)) (k := nK e.2.2) (dk := nD e.2.2) (s2 := st) rfl hc rfl rfl (by rw [List.length_map]; omega)
  have key : ∀ s, (if s = e.2.2 then D.lst ((addE (Un.pick e.2.2 C0) e).map enP) else lyV (fun s => Un.pick s C0) s) = lyV (fun s => Un.pick s (C0 ++ [e])) s := by
    intro s
    show (if s = e.2.2 then D.lst ((addE (Un.pick e.2.2 C0) e).map enP) else D.lst ((Un.pick s C0).map enP)) = D.lst ((Un.pick s (C0 ++ [e])).map enP)
    rw [pick_app]
    by_cases hs : s = e.2.2
    · rw [if_pos hs, if_pos hs, hs]
    · rw [if_neg hs, if_neg hs]
  by_cases hm : e.2.2 ∈ ss
  · obtain ⟨e1, e2⟩ := putK_upd hm (lyV fun s => Un.pick s C0) (.lst ((addE (Un.pick e.2.2 C0) e).map enP))
    refine ⟨ss, ⟨h.nd, fun s => ?_⟩, fun s hs => .inl hs, ?_⟩
    · rw [h.mem]
      constructor
      · rintro ⟨a, ha, hs⟩; exact ⟨a, List.mem_append_left _ ha, hs⟩
      · rintro ⟨a, ha, hs⟩
        rcases List.mem_append.mp ha with ha | ha
        · exact ⟨a, ha, hs⟩
        · rw [List.mem_singleton.mp ha] at hs
          exact (h.mem s).mp (by rw [← hs]; exact hm)
    · unfold fdB
      rw [hd, e1, e2]
      have : (ss.map fun s' => if s' = e.2.2 then D.lst ((addE (Un.pick e.2.2 C0) e).map enP) else lyV (fun s => Un.pick s C0) s') = ss.map (lyV fun s => Un.pick s (C0 ++ [e])) := List.map_congr_left fun s _ => key s
      rw [this]; rfl
  · obtain ⟨e1, e2⟩ := putK_gen hm (ss.map (lyV fun s => Un.pick s C0)) (.lst ((addE (Un.pick e.2.2 C0) e).map enP))
    refine ⟨ss ++ [e.2.2], ⟨?_, fun s => ?_⟩, fun s hs => ?_, ?_⟩
    · rw [List.nodup_append]
      exact ⟨h.nd, by simp, fun a ha b hb z => hm (by rw [List.mem_singleton.mp hb] at z; rw [← z]; exact ha)⟩
    · rw [List.mem_append, h.mem, List.mem_singleton]
      constructor
      · rintro (⟨a, ha, hs⟩ | hs)
        · exact ⟨a, List.mem_append_left _ ha, hs⟩
        · exact ⟨e, by simp, hs.symm⟩
      · rintro ⟨a, ha, hs⟩
        rcases List.mem_append.mp ha with ha | ha
        · exact .inl ⟨a, ha, hs⟩
        · rw [List.mem_singleton.mp ha] at hs; exact .inr hs.symm
    · rcases List.mem_append.mp hs with z | z
      · exact .inl z
      · exact .inr (List.mem_singleton.mp z)
    · unfold fdB
      rw [hd, e1, e2]
      have : ss.map (lyV fun s => Un.pick s C0) ++ [D.lst ((addE (Un.pick e.2.2 C0) e).map enP)] = (ss ++ [e.2.2]).map (lyV fun s => Un.pick s (C0 ++ [e])) := by
        rw [List.map_append]
        congr 1
        · refine List.map_congr_left fun s hs => ?_
          rw [← key s, if_neg fun z => hm (by rw [← z]; exact hs)]
        · show _ = [lyV _ e.2.2]
          rw [← key e.2.2, if_pos rfl]
      rw [this]; rfl
theorem fd_for (st : S) (x0 x1 x2 x3 x8 x9 : Sl) : ∀ (C C0 : List E) (ss : List Nat) (x4 x5 x6 : Sl), FdI ss C0 → ss.length + C.length ≤ 900 →
    ∃ ss' y4 y5 y6, FdI ss' (C0 ++ C) ∧ forL (tupT 3 (consT (nameT 6) (consT (nameT 5) (consT (nameT 4) nilT)))) fdB (C.map enR) [x0, x1, x2, x3, x4, x5, x6, .own (.dic (tKs ss), ss.map (lyV fun s => Un.pick s C0)), x8, x9] st = some (.nx [x0, x1, x2, x3, y4, y5, y6, .own (.dic (tKs ss'), ss'.map (lyV fun s => Un.pick s (C0 ++ C))), x8, x9], st)
  | [], C0, ss, x4, x5, x6, h, _ => ⟨ss, x4, x5, x6, by rw [List.append_nil]; exact h, by rw [List.append_nil]; rfl⟩
  | e :: C, C0, ss, x4, x5, x6, h, hl => by
    rw [List.length_cons] at hl
    obtain ⟨ss1, h1, h2, e1⟩ := fd_turn st x0 x1 x2 x3 x8 x9 h e (by omega)
    have l1 : ss1.length ≤ ss.length + 1 := by
      have := nodup_sub (m := ss ++ [e.2.2]) h1.nd fun x hx => by
        rcases h2 x hx with z | z
        · exact List.mem_append_left _ z
        · rw [z]; simp
      simpa using this
    obtain ⟨ss', y4, y5, y6, h3, e2⟩ := fd_for st x0 x1 x2 x3 x8 x9 C (C0 ++ [e]) ss1 (.val (nD e.2.2)) (.val (.int e.2.1)) (.val (.str (tw e.1))) h1 (by omega)
    rw [show C0 ++ [e] ++ C = C0 ++ e :: C by simp] at h3 e2
    exact ⟨ss', y4, y5, y6, h3, forL_cons_of (e1 := [x0, x1, x2, x3, .val (nD e.2.2), .val (.int e.2.1), .val (.str (tw e.1)), .own (.dic (tKs ss), ss.map (lyV fun s => Un.pick s C0)), x8, x9]) rfl e1 e2⟩
/-! ### next_worths -/
structure PLy (kd : Kd) (gs : List Int) (n : Nat) (ss : List Nat) (P : Nat → List E) : Prop where
  nd : ss.Nodup
  us : ∀ s ∈ ss, s ∈ us kd
  st : ∀ s ∈ ss, ∀ e ∈ P s, e.2.2 = s
  le : ∀ s, (P s).length ≤ 2
  lay : Un.LayI (sU kd) (gF gs) n (ss.flatMap P)
section
variable {kd : Kd} {gs : List Int} (ok : kd.Ok) (hg : gs.length = kd.k)
include ok hg
theorem next_ok {n : Nat} (hn : n ≤ 500) {ss : List Nat} {P : Nat → List E} (h : PLy kd gs n ss P) (st : S) : ∃ ss' P', m_next_worths [stD kd, .lst (gs.map D.int), lyD ss P] st = some (lyD ss' P', st) ∧ PLy kd gs (n + 1) ss' P' := by
  have hm := ok.m8
  have hu := us_len kd
  have hl : ss.length ≤ (us kd).length := nodup_sub h.nd h.us
  have hw : ∀ s ∈ ss, ∀ e ∈ P s, e.1.length = n := fun s hs e he => (h.lay.so e.1 e.2.1 e.2.2 (List.mem_flatMap.mpr ⟨s, hs, he⟩)).1
  obtain ⟨y4, y5, y6, e1⟩ := nw_rows ok hg st (ss := ss) (P := P) h.le (fun s hs e he => by rw [hw s hs e he]; omega) .un .un .un ss [] .un .un .un (fun s hs => ⟨hs, h.us s hs⟩) (by simp; omega)
  rw [List.nil_append] at e1
  generalize hR : ss.flatMap (nwS kd gs P) = R at e1
  have memR : ∀ e, e ∈ R ↔ Un.Cand (sU kd) (gF gs) (ss.flatMap P) e := by
    intro e
    rw [← hR, List.mem_flatMap]
    constructor
    · rintro ⟨s, h1, h2⟩
      obtain ⟨e0, h3, h4⟩ := List.mem_flatMap.mp h2
      obtain ⟨⟨k, t⟩, h5, rfl⟩ := List.mem_map.mp h4
      have hs := h.st s h1 e0 h3
      refine ⟨e0.1, e0.2.1, e0.2.2, k, List.mem_flatMap.mpr ⟨s, h1, h3⟩, ?_, rfl, rfl⟩
      rw [hs]
      exact (eds_mem ok (us_lt (h.us s h1))).mp h5
    · rintro ⟨w, v, s0, k, h1, h2, h3, h4⟩
      obtain ⟨s, h5, h6⟩ := List.mem_flatMap.mp h1
      have hs : s0 = s := h.st s h5 _ h6
      subst hs
      refine ⟨s0, h5, List.mem_flatMap.mpr ⟨_, h6, List.mem_map.mpr ⟨(k, e.2.2), (eds_mem ok (us_lt (h.us _ h5))).mpr h2, ?_⟩⟩⟩
      dsimp only
      rw [← h3, ← h4]
  have lenR : ∀ e ∈ R, e.1.length = n + 1 := fun e he => by
    obtain ⟨w, v, s0, k, h1, h2, h3, h4⟩ := (memR e).mp he
    rw [h3, List.length_append, (h.lay.so _ _ _ h1).1]; rfl
  have lR : R.length ≤ 200 := by
    have a1 : ∀ s, (nwS kd gs P s).length ≤ 8 := by
      intro s
      have : ∀ l : List E, (l.flatMap (nw kd gs s)).length ≤ 4 * l.length := by
        intro l
        induction l with
        | nil => exact Nat.le_refl _
        | cons a l ih =>
          rw [List.flatMap_cons, List.length_append, List.length_cons]
          have : (nw kd gs s a).length ≤ 4 := by unfold nw; rw [List.length_map]; exact eds_len ok s
          omega
      have := this (P s)
      have := h.le s
      unfold nwS
      omega
    have a2 : ∀ l : List Nat, (l.flatMap (nwS kd gs P)).length ≤ 8 * l.length := by
      intro l
      induction l with
      | nil => exact Nat.le_refl _
      | cons a l ih =>
        rw [List.flatMap_cons, List.length_append, List.length_cons]
        have := a1 a
        omega
    have := a2 ss
    rw [hR] at this
    omega
  have hsrt := srE_srt lenR
  obtain ⟨ss', z4, z5, z6, hF, e2⟩ := fd_for st (.val (stD kd)) (.val (.lst (gs.map D.int))) (.val (lyD ss P)) (.own (.lst, R.map enR)) .un .un (srE R) [] [] y4 y5 y6 ⟨by simp, fun s => by simp⟩ (by rw [srE_len]; simp; omega)
  rw [List.nil_append] at hF e2
  refine ⟨ss', fun s => Un.pick s (srE R), ?_, ?_⟩
  · refine run_of (b := b_next_worths) ?_
    show seqM (ownM 3 (lstM aNil)) (seqM (forK (rd 2) (nameT 4) nwR) (seqM (ownK 7 newK) (seqM (forM (seqI (frz (sortM (rdW 3)))) (tupT 3 (consT (nameT 6) (consT (nameT 5) (consT (nameT 4) nilT)))) fdB) (frzM 7 (retM (rd 7)))))) [.val (stD kd), .val (.lst (gs.map D.int)), .val (lyD ss P), .un, .un, .un, .un, .un, .un, .un] st = _
    refine (seq_nx (e := [.val (stD kd), .val (.lst (gs.map D.int)), .val (lyD ss P), .own (.lst, []), .un, .un, .un, .un, .un, .un]) (s1 := st) (own_nx (by rw [v_lstM, v_aNil, Option.bind_some, grd_of (by simp)]))).trans ?_
    have ek : forK (rd 2) (nameT 4) nwR [.val (stD kd), .val (.lst (gs.map D.int)), .val (lyD ss P), .own (.lst, []), .un, .un, .un, .un, .un, .un] st = some (.nx [.val (stD kd), .val (.lst (gs.map D.int)), .val (lyD ss P), .own (.lst, R.map enR), y4, y5, y6, .un, .un, .un], st) := by
      refine forK_dic (ks := tKs ss) (ds := ss.map (lyV P)) rfl ?_
      rw [List.map_map]
      exact e1
    refine (seq_nx ek).trans ?_
    refine (seq_nx (e := [.val (stD kd), .val (.lst (gs.map D.int)), .val (lyD ss P), .own (.lst, R.map enR), y4, y5, y6, .own (.dic [], []), .un, .un]) (s1 := st) rfl).trans ?_
    have es : seqI (frz (sortM (rdW 3))) [.val (stD kd), .val (.lst (gs.map D.int)), .val (lyD ss P), .own (.lst, R.map enR), y4, y5, y6, .own (.dic [], []), .un, .un] st = some ((srE R).map enR, st) := by
      rw [v_seqI, sort_of (L := R) (s1 := st) rfl]; rfl
    exact (seq_nx (forM_of es e2)).trans rfl
  · refine ⟨hF.nd, fun s hs => ?_, fun s _ e he => (Un.pick_mem he).2, fun s => Un.two_len _, ?_⟩
    · obtain ⟨e, h1, h2⟩ := (hF.mem s).mp hs
      obtain ⟨w, v, s0, k, h3, h4, h5, h6⟩ := (memR e).mp (srE_mem.mp h1)
      rw [← h2]
      exact (sU_eq.mp h4).2
    · refine h.lay.next (C := srE R) (fun e => by rw [srE_mem]; exact memR e) hsrt fun e => ?_
      rw [List.mem_flatMap]
      constructor
      · rintro ⟨s, h1, h2⟩
        rw [(Un.pick_mem h2).2]; exact h2
      · intro he
        exact ⟨e.2.2, (hF.mem _).mpr ⟨e, (Un.pick_mem he).1, rfl⟩, he⟩
end
/-! ### the least of some words -/
theorem lt_str (x y : List Nat) : PySem.W.dataLt (D.str (tw x)).py (D.str (tw y)).py = decide (x < y) := by
  have e : PySem.W.dataLt (D.str (tw x)).py (D.str (tw y)).py = decide ((tw x).cps.toList < (tw y).cps.toList) := by
    show PyProof.Rows.lexLt PyProof.Rows.itemOrd [.inr (tw x).cps.toList] [.inr (tw y).cps.toList] = _
    by_cases h : (tw x).cps.toList = (tw y).cps.toList
    · rw [h, PyProof.Rows.lex_irrefl]
      exact (decide_eq_false (List.lt_irrefl _)).symm
    · rw [PyProof.Rows.lex_diff (fun z => h (Sum.inr.inj z))]
      rfl
  rw [e, tw_list, tw_list]
  refine decide_eq_decide.mpr ⟨map_lt, fun h => ?_⟩
  rcases lt_total (x.map (97 + ·)) (y.map (97 + ·)) (fun z => List.lt_irrefl _ (List.lt_trans h (map_lt z))) with z | z
  · exact z
  · rw [map_inj z] at h
    exact absurd h (List.lt_irrefl _)
theorem minE_str : ∀ (l : List E) (x : E), ∃ m ∈ x :: l, minE (.str (tw x.1)) (stW l) = .str (tw m.1) ∧ ∀ b ∈ x :: l, ¬ b.1 < m.1
  | [], x => ⟨x, by simp, rfl, fun b hb => by rw [List.mem_singleton.mp hb]; exact List.lt_irrefl _⟩
  | y :: l, x => by
    have step : minE (.str (tw x.1)) (stW (y :: l)) = minE (if PySem.W.dataLt (D.str (tw y.1)).py (D.str (tw x.1)).py then .str (tw y.1) else .str (tw x.1)) (stW l) := rfl
    rw [step, lt_str]
    by_cases h : y.1 < x.1
    · obtain ⟨m, h1, h2, h3⟩ := minE_str l y
      rw [if_pos (decide_eq_true h)]
      refine ⟨m, List.mem_cons_of_mem _ h1, h2, fun b hb => ?_⟩
      rcases List.mem_cons.mp hb with rfl | hb
      · intro z
        exact h3 y List.mem_cons_self (List.lt_trans h z)
      · exact h3 b hb
    · obtain ⟨m, h1, h2, h3⟩ := minE_str l x
      rw [if_neg (by simpa using h)]
      refine ⟨m, ?_, h2, fun b hb => ?_⟩
      · rcases List.mem_cons.mp h1 with rfl | h1
        · exact List.mem_cons_self
        · exact List.mem_cons_of_mem _ (List.mem_cons_of_mem _ h1)
      · rcases List.mem_cons.mp hb with rfl | hb
        · exact h3 _ List.mem_cons_self
        · rcases List.mem_cons.mp hb with rfl | hb
          · intro z
            have hx := h3 x List.mem_cons_self
            rcases lt_total x.1 b.1 h with q | q
            · exact hx (List.lt_trans q z)
            · rw [q] at hx; exact hx z
          · exact h3 b (List.mem_cons_of_mem _ hb)
theorem minG_str (L : List E) : minG (stW L) = true := by
  have h1 : ∀ d ∈ stW L, ∃ e : E, d = .str (tw e.1) := fun d hd => by
    obtain ⟨e, _, rfl⟩ := List.mem_map.mp hd
    exact ⟨e, rfl⟩
  unfold minG
  simp only [Bool.and_eq_true, decide_eq_true_eq]
  refine ⟨⟨⟨plAll_of fun d hd => by obtain ⟨e, rfl⟩ := h1 d hd; rfl, ?_⟩, ?_⟩, ?_⟩
  · unfold allAl
    rw [List.all_eq_true]
    intro d hd
    rw [List.all_eq_true]
    intro d' hd'
    obtain ⟨e, rfl⟩ := h1 d hd
    obtain ⟨e', rfl⟩ := h1 d' hd'
    rfl
  · rw [List.all_eq_true]
    intro d hd
    obtain ⟨e, rfl⟩ := h1 d hd
    rfl
  · have : ∀ l : List E, PyData.depthAll (pyAll (stW l)) = 0 := by
      intro l
      induction l with
      | nil => rfl
      | cons a l ih =>
        show PyData.depthAll ((D.str (tw a.1)).py :: pyAll (stW l)) = 0
        rw [PyData.depthAll, ih]
        simp [D.py, PyData.depth]
    rw [this]; decide
end Lw

set_option Elab.async false
set_option linter.all false
set_option maxRecDepth 100000
set_option maxHeartbeats 1000000
namespace Lw
open PySem MD L2
open Un (E)
theorem wU_let {kd : Kd} (ok : kd.Ok) : ∀ (w : List Nat) (s t : Nat), s < kd.rows.length → wU kd s w = some t → ∀ k ∈ w, k < kd.k
  | [], _, _, _, _, k, h => nomatch h
  | j :: w, s, t, hs, e, k, h => by
    obtain ⟨u, h1, h2⟩ := bnd (show ((sU kd s j).bind fun t => wU kd t w) = some t from e)
    have h3 := (sU_eq.mp h1).1
    rcases List.mem_cons.mp h with rfl | h
    · exact stp_k ok hs h3
    · exact wU_let ok w u t (stp_lt ok hs h3) h2 k h
theorem us_nil {kd : Kd} (ok : kd.Ok) (h0 : 0 ∉ us kd) : us kd = [] := by
  cases hu : us kd with
  | nil => rfl
  | cons s r =>
    exfalso
    have hs : s ∈ us kd := by rw [hu]; exact List.mem_cons_self
    obtain ⟨h1, h2, h3⟩ := us_mem.mp hs
    have key : ∀ {s : Nat}, Rc (nxs kd) [0] s → Rc (bks kd) (endS kd) s → Rc (bks kd) (endS kd) 0 := by
      intro s h
      induction h with
      | base h => intro ha; rw [← List.mem_singleton.mp h]; exact ha
      | @step s t h1 h2 ih => intro ha; exact ih (alive_back ok (Rc_lt ok h1) h2 ha)
    exact h0 (us_mem.mpr ⟨ok.m0, .base (by simp), key h2 h3⟩)
theorem wrong_us {kd : Kd} (ok : kd.Ok) {gs : List Int} {w : List Nat} (h : WrongU kd gs w) : 0 ∈ us kd := by
  obtain ⟨s, h1, h2, h3⟩ := h
  rw [wk_wU] at h1
  cases w with
  | nil => exact absurd rfl h3
  | cons k w =>
    apply Classical.byContradiction
    intro z
    obtain ⟨u, h4, _⟩ := bnd (show ((sU kd 0 k).bind fun t => wU kd t w) = some s from h1)
    have := (sU_eq.mp h4).2
    rw [us_nil ok z] at this
    cases this
/-- what unlike returns -/
def Res (kd : Kd) (gs : List Int) (r : D) : Prop := (r = .non ∧ ∀ w, ¬ WrongU kd gs w) ∨ ∃ w, r = .str (tw w) ∧ Un.First (sU kd) (gF gs) (isE kd) w ∧ w.length ≤ 2 * kd.rows.length
theorem Res.uniq {kd : Kd} {gs : List Int} {r r' : D} (h : Res kd gs r) (h' : Res kd gs r') : r = r' := by
  rcases h with ⟨rfl, h⟩ | ⟨w, rfl, h, _⟩
  · rcases h' with ⟨rfl, _⟩ | ⟨u, rfl, h', _⟩
    · rfl
    · exact absurd h'.1 (h u)
  · rcases h' with ⟨rfl, h'⟩ | ⟨u, rfl, h', _⟩
    · exact absurd h.1 (h' w)
    · rw [h.uniq h']
def gsub (fm fo : List Int) : List Int := List.zipWith (fun x y => x - y) fm fo
theorem gap_comp (st : S) (x0 x1 x2 x3 x4 x5 : Sl) : ∀ (fm fo : List Int), compL (tupT 2 (consT (nameT 6) (consT (nameT 7) nilT))) yesM (opM subM (rd 6) (rd 7)) [x0, x1, x2, x3, x4, x5, .un, .un] (zipD (fm.map D.int) (fo.map D.int)) st = some ((gsub fm fo).map D.int, st)
  | [], fo => rfl
  | x :: fm, [] => rfl
  | x :: fm, y :: fo => by
    have ih := gap_comp st x0 x1 x2 x3 x4 x5 fm fo
    show compL _ _ _ _ (D.tup [.int x, .int y] :: zipD (fm.map D.int) (fo.map D.int)) st = _
    rw [v_compL]
    show ((compL (tupT 2 (consT (nameT 6) (consT (nameT 7) nilT))) yesM (opM subM (rd 6) (rd 7)) [x0, x1, x2, x3, x4, x5, .un, .un] (zipD (fm.map D.int) (fo.map D.int)) st).map _) = _
    rw [ih]; rfl
noncomputable def unC : MT := (tstM (opM eqM (callM m_wrong_words (aCons (rd 0) (aCons (rd 5) aNil))) (frz (lstM aNil))))
noncomputable def unB : MS := (asgM (nameT 5) (callM m_next_worths (aCons (rd 4) (aCons (rd 3) (aCons (rd 5) aNil)))))
section
variable {kd : Kd} {gs : List Int} (ok : kd.Ok) (hg : gs.length = kd.k)
include ok hg
omit hg in
theorem PLy.nice {n : Nat} {ss : List Nat} {P : Nat → List E} (h : PLy kd gs n ss P) : ∀ d ∈ stW (wL kd ss P), Nice d := by
  intro d hd
  obtain ⟨e, he, rfl⟩ := List.mem_map.mp hd
  have hm := ((wL_mem h.st).mp he).1
  obtain ⟨_, h2, _⟩ := h.lay.so e.1 e.2.1 e.2.2 hm
  rw [wk_wU] at h2
  refine Nice.strW fun c hc => ?_
  obtain ⟨k, hk, rfl⟩ := List.mem_map.mp hc
  have := wU_let ok _ _ _ ok.m0 h2 k hk
  have := ok.k4
  omega
omit hg in
theorem un_cond (st : S) {n : Nat} {ss : List Nat} {P : Nat → List E} (h : PLy kd gs n ss P) (x1 x2 x3 x4 x6 x7 : Sl) : callM m_wrong_words (aCons (rd 0) (aCons (rd 5) aNil)) [.val (tK kd), x1, x2, x3, x4, .val (lyD ss P), x6, x7] st = some (.lst (stW (wL kd ss P)), st) := by
  have hl : ss.length ≤ (us kd).length := nodup_sub h.nd h.us
  have hu := us_len kd
  have hm := ok.m8
  exact call_of (ds := [tK kd, lyD ss P]) (s1 := st) rfl (ww_ok ok st h.le (fun s hs => us_lt (h.us s hs)) (by omega))
theorem un_loop (st : S) (x1 x2 x6 x7 : Sl) {w0 : List Nat} (hw0 : WrongU kd gs w0) (hl0 : w0.length ≤ 2 * kd.rows.length) : ∀ (j n : Nat) (ss : List Nat) (P : Nat → List E), n + j = w0.length → PLy kd gs n ss P → (∀ u, u.length < n → ¬ WrongU kd gs u) →
    ∃ n' ss' P', whF unC unB (j + 1) [.val (tK kd), x1, x2, .val (.lst (gs.map D.int)), .val (stD kd), .val (lyD ss P), x6, x7] st = some (.nx [.val (tK kd), x1, x2, .val (.lst (gs.map D.int)), .val (stD kd), .val (lyD ss' P'), x6, x7], st) ∧ PLy kd gs n' ss' P' ∧ n' ≤ w0.length ∧ (∀ u, u.length < n' → ¬ WrongU kd gs u) ∧ wL kd ss' P' ≠ []
  | j, n, ss, P, hj, h, hno => by
    have hm := ok.m8
    have hc : unC [.val (tK kd), x1, x2, .val (.lst (gs.map D.int)), .val (stD kd), .val (lyD ss P), x6, x7] st = some ((wL kd ss P).isEmpty, st) := by
      unfold unC
      rw [v_tstM, v_opM, un_cond ok st h, Option.bind_some]
      show ((eqM (.lst (stW (wL kd ss P))) (.lst [])).map _).bind _ = _
      rw [eq_nil (h.nice ok)]
      show some ((stW (wL kd ss P)).isEmpty, st) = _
      rw [List.isEmpty_map]
    by_cases he : wL kd ss P = []
    · have hnn : ∀ u, u.length = n → ¬ WrongU kd gs u := fun u hu => h.lay.no (fun e hm => by
        cases hq : Un.wrE (isE kd) e with
        | false => rfl
        | true =>
          have := (wL_mem h.st).mpr ⟨hm, hq⟩
          rw [he] at this; cases this) hu
      cases j with
      | zero => exact absurd hw0 (hnn w0 (by omega))
      | succ j =>
        obtain ⟨ss1, P1, e1, h1⟩ := next_ok ok hg (by omega) h st
        have eB : unB [.val (tK kd), x1, x2, .val (.lst (gs.map D.int)), .val (stD kd), .val (lyD ss P), x6, x7] st = some (.nx [.val (tK kd), x1, x2, .val (.lst (gs.map D.int)), .val (stD kd), .val (lyD ss1 P1), x6, x7], st) := asg_nx (call_of (ds := [stD kd, .lst (gs.map D.int), lyD ss P]) (s1 := st) rfl e1)
        obtain ⟨n', ss', P', e2, h2, h3, h4, h5⟩ := un_loop st x1 x2 x6 x7 hw0 hl0 j (n + 1) ss1 P1 (by omega) h1 fun u hu => by
          rcases Nat.lt_or_ge u.length n with z | z
          · exact hno u z
          · exact hnn u (by omega)
        refine ⟨n', ss', P', ?_, h2, h3, h4, h5⟩
        rw [whF, hc, he]
        show ((unB _ st).bind _) = _
        rw [eB]
        exact e2
    · refine ⟨n, ss, P, ?_, h, by omega, hno, he⟩
      rw [whF, hc]
      have : (wL kd ss P).isEmpty = false := by
        cases hq : wL kd ss P with
        | nil => exact absurd hq he
        | cons a l => rfl
      rw [this]; rfl
end
theorem unlike_ok {kd : Kd} (ok : kd.Ok) {fm fo : List Int} (hf : fm.length = kd.k) (ho : fo.length = kd.k) (st : S) : ∃ (r : D) (s1 : S), m_unlike [tK kd, tI fm, tI fo] st = some (r, s1) ∧ s1.n = st.n ∧ Res kd (gsub fm fo) r := by
  have hm := ok.m8
  have hk4 := ok.k4
  have hg : (gsub fm fo).length = kd.k := by unfold gsub; rw [List.length_zipWith]; omega
  obtain ⟨s1, a1, a2⟩ := steps_ok ok st
  have ep : parM 3 4 (aCons (frz (compM (zipI (rd 1) (rd 2)) (tupT 2 (consT (nameT 6) (consT (nameT 7) nilT))) yesM (opM subM (rd 6) (rd 7)) [6, 7])) (aCons (callM m_steps_of (aCons (rd 0) aNil)) aNil)) [.val (tK kd), .val (tI fm), .val (tI fo), .un, .un, .un, .un, .un] st = some (.nx [.val (tK kd), .val (tI fm), .val (tI fo), .val (.lst ((gsub fm fo).map D.int)), .val (stD kd), .un, .un, .un], s1) := by
    refine par_nx (cons_of (s1 := st) ?_ (cons_of (call_of (ds := [tK kd]) (s1 := st) rfl a1) v_aNil))
    have ez : zipI (rd 1) (rd 2) [.val (tK kd), .val (tI fm), .val (tI fo), .un, .un, .un, .un, .un] st = some (zipD (fm.map D.int) (fo.map D.int), st) := rfl
    rw [v_frz, v_compM, ez, Option.bind_some, grd_of (by unfold zipD; rw [List.length_zipWith, List.length_map]; omega)]
    simp only [v_wipe1, v_wipe0, List.set_cons_succ, List.set_cons_zero]
    rw [gap_comp]; rfl
  have e0 : tstM (opM (cntD true) (cst (.int 0)) (rd 4)) [.val (tK kd), .val (tI fm), .val (tI fo), .val (.lst ((gsub fm fo).map D.int)), .val (stD kd), .un, .un, .un] s1 = some (!decide (0 ∈ us kd), s1) := by
    by_cases h : 0 ∈ us kd
    · have hgk := getK_map (stV kd) h
      have hgk' : getK (tKs (us kd)) ((us kd).map (stV kd)) (.inl 0) = some (stV kd 0) := hgk
      rw [v_tstM, v_opM]
      show (((cntD true (.int 0) (stD kd)).map _).bind _) = _
      rw [v_cntD, v_keyI]
      simp only [Option.map_some, hgk', Option.bind_some, h, decide_true, Option.isSome_some]
      rfl
    · have hgk := getK_no (stV kd) h
      have hgk' : getK (tKs (us kd)) ((us kd).map (stV kd)) (.inl 0) = none := hgk
      rw [v_tstM, v_opM]
      show (((cntD true (.int 0) (stD kd)).map _).bind _) = _
      rw [v_cntD, v_keyI]
      simp only [Option.map_some, hgk', Option.bind_some, h, decide_false, Option.isSome_none]
      rfl
  have hb : b_unlike = seqM (parM 3 4 (aCons (frz (compM (zipI (rd 1) (rd 2)) (tupT 2 (consT (nameT 6) (consT (nameT 7) nilT))) yesM (opM subM (rd 6) (rd 7)) [6, 7])) (aCons (callM m_steps_of (aCons (rd 0) aNil)) aNil))) (seqM (ifS (orM (tstM (opM (cntD true) (cst (.int 0)) (rd 4))) (truM (callM m_is_nought (aCons (rd 0) (aCons (rd 4) (aCons (rd 3) aNil)))))) (retM (cst .non)) nxM) (seqM (asgM (nameT 5) (frzK (dispK (pCons (cst (.int 0)) (frz (lstM (aCons (tupM (aCons (cst (.int 0)) (aCons (cst (.str "")) aNil))) aNil))) pNil)))) (seqM (whM unC unB) (retM (cbM minDM (aCons (callM m_wrong_words (aCons (rd 0) (aCons (rd 5) aNil))) aNil)))))) := rfl
  by_cases h0 : 0 ∈ us kd
  · rw [decide_eq_true h0] at e0
    obtain ⟨b, s2, n1, n2, n3, n4⟩ := nought_ok ok hg h0 s1
    have ec : orM (tstM (opM (cntD true) (cst (.int 0)) (rd 4))) (truM (callM m_is_nought (aCons (rd 0) (aCons (rd 4) (aCons (rd 3) aNil))))) [.val (tK kd), .val (tI fm), .val (tI fo), .val (.lst ((gsub fm fo).map D.int)), .val (stD kd), .un, .un, .un] s1 = some (b, s2) := by
      rw [v_orM, e0]
      show truM _ _ s1 = _
      rw [v_truM, call_of (ds := [tK kd, stD kd, .lst ((gsub fm fo).map D.int)]) (s1 := s1) rfl n1]; rfl
    cases b with
    | true =>
      refine ⟨.non, s2, run_of ?_, n2.trans a2, .inl ⟨rfl, n3 rfl⟩⟩
      rw [hb]
      exact (seq_nx ep).trans (seq_rt (ifs_t ec rfl))
    | false =>
      obtain ⟨w0, hw0, hl0⟩ := n4 rfl
      have hP0 : PLy kd (gsub fm fo) 0 [0] fun _ => [([], 0, 0)] := ⟨by simp, fun s hs => by rw [List.mem_singleton.mp hs]; exact h0, fun s hs e he => by rw [List.mem_singleton.mp hs, List.mem_singleton.mp he], fun s => by simp, by simpa using Un.lay0⟩
      obtain ⟨n', ss', P', e2, h2, h3, h4, h5⟩ := un_loop ok hg s2 (.val (tI fm)) (.val (tI fo)) .un .un hw0 hl0 w0.length 0 [0] (fun _ => [([], 0, 0)]) (by omega) hP0 fun u hu => by omega
      cases hq : wL kd ss' P' with
      | nil => exact absurd hq h5
      | cons x l =>
        obtain ⟨m, m1, m2, m3⟩ := minE_str l x
        rw [← hq] at m1 m3
        have hme := (wL_mem h2.st).mp m1
        have mlen := h2.lay.wr hme.1 hme.2
        refine ⟨.str (tw m.1), s2, run_of ?_, n2.trans a2, .inr ⟨m.1, rfl, ?_, by have := mlen.2; omega⟩⟩
        · rw [hb]
          refine (seq_nx ep).trans ((seq_nx (ifs_f ec rfl)).trans ?_)
          refine (seq_nx (e := [.val (tK kd), .val (tI fm), .val (tI fo), .val (.lst ((gsub fm fo).map D.int)), .val (stD kd), .val (lyD [0] fun _ => [([], 0, 0)]), .un, .un]) (s1 := s2) ?_).trans ?_
          · have : (.str "" : D) = .str (tw []) := by rw [tw_nil]
            rw [this]; rfl
          · refine (seq_nx (whM_of e2)).trans (ret_of ?_)
            rw [v_cbM, cons_of (un_cond ok s2 h2 _ _ _ _ _ _) v_aNil, Option.bind_some]
            show (minDM [.lst (stW (wL kd ss' P'))]).map _ = _
            rw [hq]
            show ((if minG (.str (tw x.1) :: stW l) = true then some (minE (.str (tw x.1)) (stW l)) else none).map _) = _
            have hG : minG (.str (tw x.1) :: stW l) = true := minG_str (x :: l)
            rw [if_pos hG, m2]; rfl
        · refine Un.first_of h2.lay h4 hme.1 hme.2 fun e' he' hw' => ?_
          have hl1 := (h2.lay.wr he' hw').2
          refine .inr ⟨by omega, ?_⟩
          exact lt_total _ _ (m3 e' ((wL_mem h2.st).mpr ⟨he', hw'⟩))
  · rw [decide_eq_false h0] at e0
    refine ⟨.non, s1, run_of ?_, a2, .inl ⟨rfl, fun w hw => h0 (wrong_us ok hw)⟩⟩
    rw [hb]
    refine (seq_nx ep).trans (seq_rt (ifs_t (s1 := s1) ?_ rfl))
    rw [v_orM, e0]; rfl
end Lw

set_option Elab.async false
set_option linter.all false
set_option maxRecDepth 100000
set_option maxHeartbeats 1000000
namespace Lw
open PySem MD L2
open Un (E)
/-! ### the store -/
theorem ob_lt {st : S} {k : Nat} {o : Ob} (h : st.ob[k]? = some o) : k < st.ob.length := by
  rcases Nat.lt_or_ge k st.ob.length with z | z
  · exact z
  · rw [List.getElem?_eq_none z] at h; cases h
theorem put_ne {st : S} {n k : Nat} {o o' : Ob} (hn : k ≠ n) (h : st.ob[k]? = some o) : (st.put n o').ob[k]? = some o := by
  show (st.ob.set n o')[k]? = _
  rw [List.getElem?_set_ne (fun z => hn z.symm)]
  exact h
theorem dicAt_of {st : S} {n : Nat} {ks : List Key} {ds : List D} (h : st.ob[n]? = some (.dic false ks ds)) : dicAt st n = some (ks, ds) := by unfold dicAt; rw [h]
structure LdI (n0 : Nat) (st : S) (ss : List Nat) (ρ : Nat → Nat) (C : List E) : Prop where
  dic : st.ob[n0]? = some (.dic false (tKs ss) (ss.map fun s => .ref (ρ s)))
  lst : ∀ s ∈ ss, st.ob[ρ s]? = some (.lst ((Un.at_ s C).map enR))
  ne : ∀ s ∈ ss, ρ s ≠ n0
  inj : ∀ s ∈ ss, ∀ s' ∈ ss, ρ s = ρ s' → s = s'
  fd : FdI ss C
theorem at_app (s : Nat) (C : List E) (e : E) : Un.at_ s (C ++ [e]) = if s = e.2.2 then Un.at_ s C ++ [e] else Un.at_ s C := by
  unfold Un.at_
  rw [List.filter_append]
  by_cases h : s = e.2.2
  · rw [if_pos h, List.filter_cons_of_pos (by simp [h])]; rfl
  · rw [if_neg h, List.filter_cons_of_neg (by simp; exact fun z => h z.symm), List.filter_nil, List.append_nil]
theorem at_none {s : Nat} {C : List E} (h : ¬ ∃ e ∈ C, e.2.2 = s) : Un.at_ s C = [] := by
  unfold Un.at_
  exact List.filter_eq_nil_iff.mpr fun e he => by simp; exact fun z => h ⟨e, he, z⟩
theorem FdI.snoc {ss : List Nat} {C : List E} (h : FdI ss C) (e : E) : FdI (if e.2.2 ∈ ss then ss else ss ++ [e.2.2]) (C ++ [e]) := by
  by_cases hm : e.2.2 ∈ ss
  · rw [if_pos hm]
    refine ⟨h.nd, fun s => ?_⟩
    rw [h.mem]
    constructor
    · rintro ⟨a, ha, hs⟩; exact ⟨a, List.mem_append_left _ ha, hs⟩
    · rintro ⟨a, ha, hs⟩
      rcases List.mem_append.mp ha with ha | ha
      · exact ⟨a, ha, hs⟩
      · rw [List.mem_singleton.mp ha] at hs
        exact (h.mem s).mp (by rw [← hs]; exact hm)
  · rw [if_neg hm]
    refine ⟨?_, fun s => ?_⟩
    · rw [List.nodup_append]
      exact ⟨h.nd, by simp, fun a ha b hb z => hm (by rw [List.mem_singleton.mp hb] at z; rw [← z]; exact ha)⟩
    · rw [List.mem_append, h.mem, List.mem_singleton]
      constructor
      · rintro (⟨a, ha, hs⟩ | hs)
        · exact ⟨a, List.mem_append_left _ ha, hs⟩
        · exact ⟨e, by simp, hs.symm⟩
      · rintro ⟨a, ha, hs⟩
        rcases List.mem_append.mp ha with ha | ha
        · exact .inl ⟨a, ha, hs⟩
        · rw [List.mem_singleton.mp ha] at hs; exact .inr hs.symm
/-- found.setdefault(state, []).append(row) -/
noncomputable def ldS (tp : ME) : MS := sappM (sdefM (rd 3) (rd 8) (stoL (lstM aNil))) tp
theorem ld_turn {n0 : Nat} {st : S} {ss : List Nat} {ρ : Nat → Nat} {C : List E} (h : LdI n0 st ss ρ C) (e : E) {env : Sg} (h3 : env[3]? = some (.val (.ref n0))) (h8 : env[8]? = some (.val (nD e.2.2))) {tp : ME} (htp : ∀ st, tp env st = some (enR e, st)) (hl : ss.length ≤ 1000) (hc : C.length ≤ 1000) :
    ∃ (st' : S) (ρ' : Nat → Nat), ldS tp env st = some (.nx env, st') ∧ st'.n = st.n ∧ LdI n0 st' (if e.2.2 ∈ ss then ss else ss ++ [e.2.2]) ρ' (C ++ [e]) := by
  have q3 : ∀ s : S, rd 3 env s = some (.ref n0, s) := fun s => by rw [v_rd, h3]
  have q8 : ∀ s : S, rd 8 env s = some (nD e.2.2, s) := fun s => by rw [v_rd, h8]
  have qx : stoL (lstM aNil) env st = some (.ref st.ob.length, st.ad (.lst [])) := by
    rw [v_stoL, v_lstM, v_aNil, Option.bind_some, grd_of (by simp)]; rfl
  have hd1 : (st.ad (.lst [])).ob[n0]? = some (.dic false (tKs ss) (ss.map fun s => .ref (ρ s))) := ad_old h.dic
  have hn0 := ob_lt h.dic
  have lat : ∀ s, (Un.at_ s C).length ≤ 1000 := fun s => Nat.le_trans (List.length_filter_le _ _) hc
  have hsd : sdefM (rd 3) (rd 8) (stoL (lstM aNil)) env st = (match getK (tKs ss) (ss.map fun s => D.ref (ρ s)) (nK e.2.2) with
      | some d => some (d, st.ad (.lst []))
      | none => some (.ref st.ob.length, (st.ad (.lst [])).put n0 (.dic false (putKs (tKs ss) (nK e.2.2)) (putVs (tKs ss) (ss.map fun s => D.ref (ρ s)) (nK e.2.2) (.ref st.ob.length))))) := by
    unfold sdefM
    rw [q3, Option.bind_some]
    show (some n0).bind _ = _
    rw [Option.bind_some]
    show (dicAt st n0).bind _ = _
    rw [dicAt_of h.dic, Option.bind_some]
    show (rd 8 env st).bind _ = _
    rw [q8, Option.bind_some]
    show (stoL (lstM aNil) env st).bind _ = _
    rw [qx, Option.bind_some]
    show (dicAt (st.ad (.lst [])) n0).bind _ = _
    rw [dicAt_of hd1, Option.bind_some]
    show (some (nK e.2.2)).bind _ = _
    rw [Option.bind_some]
    show (if (ss.map fun s => D.ref (ρ s)).length < sizeLine then _ else none) = _
    rw [if_pos (by rw [List.length_map]; exact Nat.lt_of_le_of_lt hl (by decide))]
    all_goals (dsimp only; cases getK (tKs ss) (ss.map fun s => D.ref (ρ s)) (nK e.2.2) <;> rfl)
  by_cases hm : e.2.2 ∈ ss
  · rw [getK_map (fun s => D.ref (ρ s)) hm] at hsd
    have hlt := h.lst _ hm
    have hl1 : (st.ad (.lst [])).ob[ρ e.2.2]? = some (.lst ((Un.at_ e.2.2 C).map enR)) := ad_old hlt
    refine ⟨(st.ad (.lst [])).put (ρ e.2.2) (.lst ((Un.at_ e.2.2 C).map enR ++ [enR e])), ρ, ?_, rfl, ?_⟩
    · unfold ldS
      rw [v_sappM, hsd, Option.bind_some]
      show (lstAt (st.ad (.lst [])) (ρ e.2.2)).bind _ = _
      rw [lstAt_of hl1, Option.bind_some]
      show (tp env (st.ad (.lst []))).bind _ = _
      rw [htp, Option.bind_some]
      show (lstAt (st.ad (.lst [])) (ρ e.2.2)).bind _ = _
      rw [lstAt_of hl1, Option.bind_some, grd_of (by rw [List.length_map]; have := lat e.2.2; omega)]
    · have hF := h.fd.snoc e
      rw [if_pos hm] at hF ⊢
      refine ⟨put_ne (fun z => h.ne _ hm z.symm) hd1, fun s hs => ?_, h.ne, h.inj, hF⟩
      rw [at_app]
      by_cases he : s = e.2.2
      · rw [if_pos he, List.map_append, he]
        exact put_at hl1
      · rw [if_neg he]
        exact put_ne (fun z => he (h.inj _ hs _ hm z)) (ad_old (h.lst s hs))
  · rw [getK_no (fun s => D.ref (ρ s)) hm] at hsd
    obtain ⟨e1, e2⟩ := putK_gen hm (ss.map fun s => D.ref (ρ s)) (.ref st.ob.length)
    rw [e1, e2] at hsd
    have hat : Un.at_ e.2.2 C = [] := at_none fun z => hm ((h.fd.mem _).mpr z)
    have hmn : st.ob.length ≠ n0 := by omega
    obtain ⟨st2, hs2⟩ : ∃ st2, st2 = (st.ad (.lst [])).put n0 (.dic false (tKs (ss ++ [e.2.2])) ((ss.map fun s => D.ref (ρ s)) ++ [.ref st.ob.length])) := ⟨_, rfl⟩
    rw [← hs2] at hsd
    have hnew : st2.ob[st.ob.length]? = some (.lst []) := by rw [hs2]; exact put_ne hmn ad_at'
    have hd2 : st2.ob[n0]? = some (.dic false (tKs (ss ++ [e.2.2])) ((ss.map fun s => D.ref (ρ s)) ++ [.ref st.ob.length])) := by rw [hs2]; exact put_at hd1
    refine ⟨st2.put st.ob.length (.lst ([] ++ [enR e])), fun s => if s = e.2.2 then st.ob.length else ρ s, ?_, by rw [hs2]; rfl, ?_⟩
    · unfold ldS
      rw [v_sappM, hsd, Option.bind_some]
      show (lstAt st2 st.ob.length).bind _ = _
      rw [lstAt_of hnew, Option.bind_some]
      show (tp env st2).bind _ = _
      rw [htp, Option.bind_some]
      show (lstAt st2 st.ob.length).bind _ = _
      rw [lstAt_of hnew, Option.bind_some, grd_of (by simp)]
    · have hF := h.fd.snoc e
      rw [if_neg hm] at hF ⊢
      have hρ : ∀ s ∈ ss, (if s = e.2.2 then st.ob.length else ρ s) = ρ s := fun s hs => if_neg fun z => hm (by rw [← z]; exact hs)
      have hlt : ∀ s ∈ ss, ρ s < st.ob.length := fun s hs => ob_lt (h.lst s hs)
      refine ⟨?_, fun s hs => ?_, fun s hs => ?_, fun s hs s' hs' z => ?_, hF⟩
      · rw [put_ne hmn.symm hd2]
        congr 2
        rw [List.map_append]
        congr 1
        · exact List.map_congr_left fun s hs => by rw [hρ s hs]
        · simp
      · rw [at_app]
        rcases List.mem_append.mp hs with hs | hs
        · have he : s ≠ e.2.2 := fun z => hm (by rw [← z]; exact hs)
          rw [if_neg he, if_neg he]
          refine put_ne (by have := hlt s hs; omega) ?_
          rw [hs2]
          exact put_ne (h.ne s hs) (ad_old (h.lst s hs))
        · have he := List.mem_singleton.mp hs
          rw [if_pos he, if_pos he, he, hat]
          exact put_at hnew
      · rcases List.mem_append.mp hs with hs | hs
        · rw [hρ s hs]; exact h.ne s hs
        · rw [if_pos (List.mem_singleton.mp hs)]; exact hmn
      · rcases List.mem_append.mp hs with hs | hs
        · rcases List.mem_append.mp hs' with hs' | hs'
          · rw [hρ s hs, hρ s' hs'] at z
            exact h.inj s hs s' hs' z
          · rw [hρ s hs, if_pos (List.mem_singleton.mp hs')] at z
            have := hlt s hs
            omega
        · rcases List.mem_append.mp hs' with hs' | hs'
          · rw [hρ s' hs', if_pos (List.mem_singleton.mp hs)] at z
            have := hlt s' hs'
            omega
          · rw [List.mem_singleton.mp hs, List.mem_singleton.mp hs']
/-! ### the rows -/
noncomputable def cdL (kd : Kd) (gs : List Int) (e : E) (js : List Nat) : List E := js.filterMap fun k => (stp kd e.2.2 k).map fun t => (e.1 ++ [k], e.2.1 + gF gs k, t)
noncomputable def llT : ME := (tupM (aCons (opM addM (rd 4) (opM subD (cst (.str "abcd")) (rd 7))) (aCons (opM addM (rd 5) (opM subD (rd 1) (rd 7))) (aCons (rd 8) aNil))))
noncomputable def llB : MS := (seqM (asgM (nameT 8) (opM subD (opM subD (opM subD (rd 0) (cst (.int 1))) (rd 6)) (rd 7)))
 (ifS (tstM (opM isNotM (rd 8) (cst .non)))
 (sappM (sdefM (rd 3) (rd 8) (stoL (lstM aNil))) (tupM (aCons (opM addM (rd 4) (opM subD (cst (.str "abcd")) (rd 7))) (aCons (opM addM (rd 5) (opM subD (rd 1) (rd 7))) (aCons (rd 8) aNil)))))
 nxM))
section
variable {kd : Kd} {gs : List Int} (ok : kd.Ok) (hg : gs.length = kd.k)
include ok hg
theorem ll_js (n0 : Nat) (x2 x9 x10 x11 : Sl) (e : E) (hs : e.2.2 < kd.rows.length) (hw : e.1.length ≤ 1000) : ∀ (js : List Nat) (C : List E) (ss : List Nat) (ρ : Nat → Nat) (st : S) (x7 x8 : Sl), (∀ j ∈ js, j < kd.k) → LdI n0 st ss ρ C → (∀ s ∈ ss, s < kd.rows.length) → C.length + js.length ≤ 1000 →
    ∃ (ss' : List Nat) (ρ' : Nat → Nat) (st' : S) (y7 y8 : Sl), forL (nameT 7) llB (tN js) [.val (tK kd), .val (.lst (gs.map D.int)), x2, .val (.ref n0), .val (.str (tw e.1)), .val (.int e.2.1), .val (nD e.2.2), x7, x8, x9, x10, x11] st = some (.nx [.val (tK kd), .val (.lst (gs.map D.int)), x2, .val (.ref n0), .val (.str (tw e.1)), .val (.int e.2.1), .val (nD e.2.2), y7, y8, x9, x10, x11], st') ∧ st'.n = st.n ∧ LdI n0 st' ss' ρ' (C ++ cdL kd gs e js) ∧ ∀ s ∈ ss', s < kd.rows.length
  | [], C, ss, ρ, st, x7, x8, _, h, hss, _ => ⟨ss, ρ, st, x7, x8, rfl, rfl, by unfold cdL; rw [List.filterMap_nil, List.append_nil]; exact h, hss⟩
  | j :: js, C, ss, ρ, st, x7, x8, hj, h, hss, hl => by
    rw [List.length_cons] at hl
    have hk := hj j List.mem_cons_self
    have hk4 := ok.k4
    have hm8 := ok.m8
    have hl2 : ss.length ≤ 1000 := by
      have := nodup_le h.fd.nd hss
      omega
    have e1 : asgM (nameT 8) (opM subD (opM subD (opM subD (rd 0) (cst (.int 1))) (rd 6)) (rd 7)) [.val (tK kd), .val (.lst (gs.map D.int)), x2, .val (.ref n0), .val (.str (tw e.1)), .val (.int e.2.1), .val (nD e.2.2), .val (nD j), x8, x9, x10, x11] st = some (.nx [.val (tK kd), .val (.lst (gs.map D.int)), x2, .val (.ref n0), .val (.str (tw e.1)), .val (.int e.2.1), .val (nD e.2.2), .val (nD j), .val (optD (stp kd e.2.2 j)), x9, x10, x11], st) := by
      refine asg_nx ?_
      simp [tK1, row_D hs, item_D ok hs hk]
    have et : ∀ s1 : S, tstM (opM isNotM (rd 8) (cst .non)) [.val (tK kd), .val (.lst (gs.map D.int)), x2, .val (.ref n0), .val (.str (tw e.1)), .val (.int e.2.1), .val (nD e.2.2), .val (nD j), .val (optD (stp kd e.2.2 j)), x9, x10, x11] s1 = some ((stp kd e.2.2 j).isSome, s1) := fun s1 => by
      cases stp kd e.2.2 j <;> rfl
    cases hst : stp kd e.2.2 j with
    | none =>
      rw [hst] at e1 et
      obtain ⟨ss', ρ', st', y7, y8, e2, n2, h2, h3⟩ := ll_js n0 x2 x9 x10 x11 e hs hw js C ss ρ st (.val (nD j)) (.val (optD none)) (fun x hx => hj x (List.mem_cons_of_mem _ hx)) h hss (by omega)
      refine ⟨ss', ρ', st', y7, y8, ?_, n2, ?_, h3⟩
      · refine forL_cons_of (e1 := [.val (tK kd), .val (.lst (gs.map D.int)), x2, .val (.ref n0), .val (.str (tw e.1)), .val (.int e.2.1), .val (nD e.2.2), .val (nD j), x8, x9, x10, x11]) rfl ?_ e2
        exact (seq_nx e1).trans (ifs_f (et st) rfl)
      · have : cdL kd gs e (j :: js) = cdL kd gs e js := by
          unfold cdL
          rw [List.filterMap_cons, hst]; rfl
        rw [this]; exact h2
    | some t =>
      rw [hst] at e1 et
      have ht := stp_lt ok hs hst
      have htp : ∀ s1 : S, llT [.val (tK kd), .val (.lst (gs.map D.int)), x2, .val (.ref n0), .val (.str (tw e.1)), .val (.int e.2.1), .val (nD e.2.2), .val (nD j), .val (nD t), x9, x10, x11] s1 = some (enR (e.1 ++ [j], e.2.1 + gF gs j, t), s1) := fun s1 => by
        have g3 := form_at (fm := gs) (k := j) (by omega)
        have g4 := abcd_tw (k := j) (by omega)
        have ha : addM (.str (tw e.1)) (.str (tw [j])) = some (.str (tw (e.1 ++ [j]))) := by
          rw [v_addS, grd_of (by rw [tw_len, tw_len]; simp; omega), tw_app]
        have t1 : opM addM (rd 4) (opM subD (cst (.str "abcd")) (rd 7)) [.val (tK kd), .val (.lst (gs.map D.int)), x2, .val (.ref n0), .val (.str (tw e.1)), .val (.int e.2.1), .val (nD e.2.2), .val (nD j), .val (nD t), x9, x10, x11] s1 = some (.str (tw (e.1 ++ [j])), s1) := by
          have : opM subD (cst (.str "abcd")) (rd 7) [.val (tK kd), .val (.lst (gs.map D.int)), x2, .val (.ref n0), .val (.str (tw e.1)), .val (.int e.2.1), .val (nD e.2.2), .val (nD j), .val (nD t), x9, x10, x11] s1 = some (.str (tw [j]), s1) := by
            rw [v_opM]
            show ((subD (.str "abcd") (nD j)).map _) = _
            rw [v_subS, g4]; rfl
          rw [v_opM]
          show ((opM subD (cst (.str "abcd")) (rd 7) _ s1).bind _) = _
          rw [this, Option.bind_some]
          show ((addM (.str (tw e.1)) (.str (tw [j]))).map _) = _
          rw [ha]; rfl
        have t2 : opM addM (rd 5) (opM subD (rd 1) (rd 7)) [.val (tK kd), .val (.lst (gs.map D.int)), x2, .val (.ref n0), .val (.str (tw e.1)), .val (.int e.2.1), .val (nD e.2.2), .val (nD j), .val (nD t), x9, x10, x11] s1 = some (.int (e.2.1 + gF gs j), s1) := by
          simp [g3]
        unfold llT
        rw [v_tupM, cons_of t1 (cons_of t2 (cons_of (d := nD t) (s1 := s1) rfl v_aNil)), Option.bind_some, grd_of (by simp)]
        rfl
      obtain ⟨st1, ρ1, e3, n3, h3⟩ := ld_turn h (e.1 ++ [j], e.2.1 + gF gs j, t) (env := [.val (tK kd), .val (.lst (gs.map D.int)), x2, .val (.ref n0), .val (.str (tw e.1)), .val (.int e.2.1), .val (nD e.2.2), .val (nD j), .val (nD t), x9, x10, x11]) rfl rfl htp hl2 (by omega)
      have hss1 : ∀ s ∈ (if t ∈ ss then ss else ss ++ [t]), s < kd.rows.length := fun s hs' => by
        split at hs'
        · exact hss s hs'
        · rcases List.mem_append.mp hs' with z | z
          · exact hss s z
          · rw [List.mem_singleton.mp z]; exact ht
      obtain ⟨ss', ρ', st', y7, y8, e2, n2, h2, h4⟩ := ll_js n0 x2 x9 x10 x11 e hs hw js (C ++ [(e.1 ++ [j], e.2.1 + gF gs j, t)]) _ ρ1 st1 (.val (nD j)) (.val (nD t)) (fun x hx => hj x (List.mem_cons_of_mem _ hx)) h3 hss1 (by simp; omega)
      refine ⟨ss', ρ', st', y7, y8, ?_, n2.trans n3, ?_, h4⟩
      · refine forL_cons_of (e1 := [.val (tK kd), .val (.lst (gs.map D.int)), x2, .val (.ref n0), .val (.str (tw e.1)), .val (.int e.2.1), .val (nD e.2.2), .val (nD j), x8, x9, x10, x11]) rfl ?_ e2
        exact (seq_nx e1).trans (ifs_t (et st) e3)
      · have : cdL kd gs e (j :: js) = (e.1 ++ [j], e.2.1 + gF gs j, t) :: cdL kd gs e js := by
          unfold cdL
          rw [List.filterMap_cons, hst]; rfl
        rw [this]
        simpa using h2
noncomputable def llR : MS := (forM (r1M (aCons (opM subD (rd 0) (cst (.int 0))) aNil)) (nameT 7) llB)
theorem ll_rows (n0 : Nat) (x2 x9 x10 x11 : Sl) : ∀ (L : List E) (C : List E) (ss : List Nat) (ρ : Nat → Nat) (st : S) (x4 x5 x6 x7 x8 : Sl), (∀ e ∈ L, e.2.2 < kd.rows.length ∧ e.1.length ≤ 1000) → LdI n0 st ss ρ C → (∀ s ∈ ss, s < kd.rows.length) → C.length + 4 * L.length ≤ 900 →
    ∃ (ss' : List Nat) (ρ' : Nat → Nat) (st' : S) (y4 y5 y6 y7 y8 : Sl), forL (tupT 3 (consT (nameT 4) (consT (nameT 5) (consT (nameT 6) nilT)))) llR (L.map enR) [.val (tK kd), .val (.lst (gs.map D.int)), x2, .val (.ref n0), x4, x5, x6, x7, x8, x9, x10, x11] st = some (.nx [.val (tK kd), .val (.lst (gs.map D.int)), x2, .val (.ref n0), y4, y5, y6, y7, y8, x9, x10, x11], st') ∧ st'.n = st.n ∧ LdI n0 st' ss' ρ' (C ++ L.flatMap fun e => cdL kd gs e (List.range kd.k)) ∧ ∀ s ∈ ss', s < kd.rows.length
  | [], C, ss, ρ, st, x4, x5, x6, x7, x8, _, h, hss, _ => ⟨ss, ρ, st, x4, x5, x6, x7, x8, rfl, rfl, by rw [List.flatMap_nil, List.append_nil]; exact h, hss⟩
  | e :: L, C, ss, ρ, st, x4, x5, x6, x7, x8, hL, h, hss, hl => by
    rw [List.length_cons] at hl
    have hk4 := ok.k4
    obtain ⟨a1, a2⟩ := hL e List.mem_cons_self
    have lc : (cdL kd gs e (List.range kd.k)).length ≤ 4 := by
      have := List.length_filterMap_le (fun k => (stp kd e.2.2 k).map fun t => (e.1 ++ [k], e.2.1 + gF gs k, t)) (List.range kd.k)
      rw [List.length_range] at this
      unfold cdL
      omega
    obtain ⟨ss1, ρ1, st1, y7, y8, e1, n1, h1, s1⟩ := ll_js ok hg n0 x2 x9 x10 x11 e a1 a2 (List.range kd.k) C ss ρ st x7 x8 (fun j hj => List.mem_range.mp hj) h hss (by rw [List.length_range]; omega)
    obtain ⟨ss', ρ', st', z4, z5, z6, z7, z8, e2, n2, h2, s2⟩ := ll_rows n0 x2 x9 x10 x11 L (C ++ cdL kd gs e (List.range kd.k)) ss1 ρ1 st1 (.val (.str (tw e.1))) (.val (.int e.2.1)) (.val (nD e.2.2)) y7 y8 (fun x hx => hL x (List.mem_cons_of_mem _ hx)) h1 s1 (by rw [List.length_append]; omega)
    refine ⟨ss', ρ', st', z4, z5, z6, z7, z8, ?_, n2.trans n1, ?_, s2⟩
    · refine forL_cons_of (e1 := [.val (tK kd), .val (.lst (gs.map D.int)), x2, .val (.ref n0), .val (.str (tw e.1)), .val (.int e.2.1), .val (nD e.2.2), x7, x8, x9, x10, x11]) rfl ?_ e2
      unfold llR
      refine forM_of (ds := tN (List.range kd.k)) ?_ e1
      exact r1_of (by omega) (cons_of (d := nD kd.k) (s1 := st) (by simp) v_aNil)
    · rw [List.flatMap_cons, ← List.append_assoc]
      exact h2
end
end Lw

set_option Elab.async false
set_option linter.all false
set_option maxRecDepth 100000
set_option maxHeartbeats 1000000
namespace Lw
open PySem MD L2
open Un (E)
theorem cutD_to' {ds : List D} {n : Nat} : cutD ds none (some ((n : Nat) : Int)) = ds.take n := by
  unfold cutD
  rw [HT.sIx_none, HT.sIx_nat, List.drop_zero, Nat.sub_zero]
  by_cases h : n ≤ ds.length
  · rw [Nat.min_eq_left h]
  · rw [Nat.min_eq_right (by omega), List.take_of_length_le (Nat.le_refl _), List.take_of_length_le (by omega)]
theorem cutD_from' {ds : List D} {n : Nat} : cutD ds (some ((n : Nat) : Int)) none = ds.drop n := by
  unfold cutD
  rw [HT.sIx_none, HT.sIx_nat, List.take_of_length_le (by rw [List.length_drop]; exact Nat.le_refl _)]
  by_cases h : n ≤ ds.length
  · rw [Nat.min_eq_left h]
  · rw [Nat.min_eq_right (by omega), List.drop_of_length_le (Nat.le_refl _), List.drop_of_length_le (by omega)]
theorem slt_to {f g : ME} {env : Sg} {st s1 s2 : S} {ds : List D} {n : Nat} (hf : f env st = some (.tup ds, s1)) (hg : g env s1 = some (nD n, s2)) : slM slAny f noP (prt g) env st = some (.tup (ds.take n), s2) := by
  have hp : prt g env s1 = some (some ((n : Nat) : Int), s2) := by rw [v_prt, hg, Option.bind_some]; rfl
  rw [v_slM, hf, Option.bind_some, v_noP, Option.bind_some, hp, Option.bind_some]
  show ((slAny (.tup ds) none (some ((n : Nat) : Int))).map _ : Option (D × S)) = _
  rw [v_slT, cutD_to']; rfl
theorem slt_fr {f g : ME} {env : Sg} {st s1 s2 : S} {ds : List D} {n : Nat} (hf : f env st = some (.tup ds, s1)) (hg : g env s1 = some (nD n, s2)) : slM slAny f (prt g) noP env st = some (.tup (ds.drop n), s2) := by
  have hp : prt g env s1 = some (some ((n : Nat) : Int), s2) := by rw [v_prt, hg, Option.bind_some]; rfl
  rw [v_slM, hf, Option.bind_some, hp, Option.bind_some, v_noP, Option.bind_some]
  show ((slAny (.tup ds) (some ((n : Nat) : Int)) none).map _ : Option (D × S)) = _
  rw [v_slT, cutD_from']; rfl
theorem add_W {f h : ME} {env : Sg} {st s1 s2 : S} {a b : List Nat} (h1 : f env st = some (.str (W a), s1)) (h2 : h env s1 = some (.str (W b), s2)) (hl : a.length + b.length ≤ 1000000) : opM addM f h env st = some (.str (W (a ++ b)), s2) := by
  rw [v_opM, h1, Option.bind_some, h2, Option.bind_some]
  simp only [dr_str, v_addS]
  rw [grd_of (by rw [W_len, W_len]; exact hl), W_app]; rfl
theorem add1_of {f : ME} {env : Sg} {st s1 : S} {n : Nat} (h : f env st = some (nD n, s1)) : opM addM f (cst (.int 1)) env st = some (nD (n + 1), s1) := by
  rw [v_opM, h, Option.bind_some]
  show some (D.int (((n : Nat) : Int) + 1), s1) = _
  rw [show ((n : Nat) : Int) + 1 = ((n + 1 : Nat) : Int) by omega]
theorem sll_to {f g : ME} {env : Sg} {st s1 s2 : S} {ds : List D} {n : Nat} (hf : f env st = some (.lst ds, s1)) (hg : g env s1 = some (nD n, s2)) : slM slAny f noP (prt g) env st = some (.lst (ds.take n), s2) := by
  have hp : prt g env s1 = some (some ((n : Nat) : Int), s2) := by rw [v_prt, hg, Option.bind_some]; rfl
  rw [v_slM, hf, Option.bind_some, v_noP, Option.bind_some, hp, Option.bind_some]
  show ((slAny (.lst ds) none (some ((n : Nat) : Int))).map _ : Option (D × S)) = _
  rw [v_slL, cutD_to']; rfl
/-! ### numbers, sorted -/
theorem srt_nats (ss : List Nat) : ∃ ts : List Nat, ts.Perm ss ∧ ∀ (f : ME) (env : Sg) (st s1 : S), f env st = some (.lst (tN ss), s1) → frz (sortM f) env st = some (.lst (tN ts), s1) := by
  refine ⟨ss.mergeSort fun a b => PySem.W.dataLe false D.py (nD a) (nD b), List.mergeSort_perm _ _, fun f env st s1 h => ?_⟩
  have hG : sortG (tN ss) = true := by
    have h1 : ∀ d ∈ tN ss, ∃ i : Int, d = .int i := fun d hd => by
      obtain ⟨e, _, rfl⟩ := List.mem_map.mp hd
      exact ⟨_, rfl⟩
    unfold sortG
    simp only [Bool.and_eq_true]
    refine ⟨⟨⟨plAll_of fun d hd => by obtain ⟨e, rfl⟩ := h1 d hd; rfl, ?_⟩, ?_⟩, ?_⟩
    · unfold allAl
      rw [List.all_eq_true]
      intro d hd
      rw [List.all_eq_true]
      intro d' hd'
      obtain ⟨e, rfl⟩ := h1 d hd
      obtain ⟨e', rfl⟩ := h1 d' hd'
      rfl
    · rw [Bool.or_eq_true]
      right
      rw [List.all_eq_true]
      intro d hd
      obtain ⟨e, rfl⟩ := h1 d hd
      rfl
    · rw [List.all_eq_true]
      intro d hd
      obtain ⟨e, rfl⟩ := h1 d hd
      exact decide_eq_true (by simp [D.py, PyData.depth])
  rw [v_frz]
  unfold sortM
  rw [h, Option.bind_some]
  show (if sortG (tN ss) = true then some (srtD (tN ss), s1) else none).map _ = _
  rw [if_pos hG]
  unfold srtD
  rw [← PySem.W.sort_maps (r := fun a b => PySem.W.dataLe false D.py (nD a) (nD b)) (s := PySem.W.dataLe false D.py) (fun a => nD a) (l := ss) fun a _ b _ => rfl]
  rfl
/-! ### the first two rows of each state -/
noncomputable def lfC : MA := compR (opM subD (rd 3) (rd 6)) (nameT 11) (tstM (opM neM (opM subD (rd 11) (cst (.int 1))) (opM subD (rd 10) (cst (.int 1))))) (rd 11) [11]
noncomputable def lfB : MS := (seqM (asgM (nameT 10) (opM subD (opM subD (rd 3) (rd 6)) (cst (.int 0))))
 (seqM (appM 9 (rd 10))
 (extM 9 (slM slAny (frz lfC) noP (prt (cst (.int 1)))))))
theorem compLc_of {st : S} {n : Nat} {ds0 : List D} (h : lstAt st n = some ds0) (x0 x1 x2 x3 x4 x5 x6 x7 x8 x9 : Sl) (f : E) : ∀ l : List E, compLc n ds0 (nameT 11) (tstM (opM neM (opM subD (rd 11) (cst (.int 1))) (opM subD (rd 10) (cst (.int 1))))) (rd 11) [x0, x1, x2, x3, x4, x5, x6, x7, x8, x9, .val (enR f), .un] (l.map enR) st = some ((l.filter fun e => decide (e.2.1 ≠ f.2.1)).map enR, st)
  | [] => by
    show cif (lstAt st n = some ds0) _ = _
    rw [cif_of h]; rfl
  | e :: l => by
    have ih := compLc_of h x0 x1 x2 x3 x4 x5 x6 x7 x8 x9 f l
    have ht : tstM (opM neM (opM subD (rd 11) (cst (.int 1))) (opM subD (rd 10) (cst (.int 1)))) [x0, x1, x2, x3, x4, x5, x6, x7, x8, x9, .val (enR f), .val (enR e)] st = some (!decide (e.2.1 = f.2.1), st) := rfl
    show cif (lstAt st n = some ds0) _ = _
    rw [cif_of h]
    show ((some [x0, x1, x2, x3, x4, x5, x6, x7, x8, x9, .val (enR f), .val (enR e)]).bind _) = _
    rw [Option.bind_some, ht, Option.bind_some]
    by_cases hv : e.2.1 = f.2.1
    · rw [decide_eq_true hv, List.filter_cons_of_neg (by simp [hv])]
      exact ih
    · rw [decide_eq_false hv, List.filter_cons_of_pos (by simp [hv])]
      show ((compLc _ _ _ _ _ [x0, x1, x2, x3, x4, x5, x6, x7, x8, x9, .val (enR f), .un] (l.map enR) st).map _) = _
      rw [ih]; rfl
theorem lf_turn {n0 : Nat} {st : S} {ss : List Nat} {ρ : Nat → Nat} {C : List E} (h : LdI n0 st ss ρ C) (hC : C.length ≤ 1000) {s : Nat} (hs : s ∈ ss) (acc : List E) (ha : acc.length ≤ 1000) (x0 x1 x2 x4 x5 x7 x8 x10 x11 : Sl) :
    ∃ y10, lfB [x0, x1, x2, .val (.ref n0), x4, x5, .val (nD s), x7, x8, .own (.lst, acc.map enR), x10, x11] st = some (.nx [x0, x1, x2, .val (.ref n0), x4, x5, .val (nD s), x7, x8, .own (.lst, (acc ++ Un.pick s C).map enR), y10, x11], st) := by
  have hl := h.lst s hs
  obtain ⟨f, r, hr⟩ : ∃ f r, Un.at_ s C = f :: r := by
    cases hq : Un.at_ s C with
    | cons f r => exact ⟨f, r, rfl⟩
    | nil =>
      obtain ⟨e, he, hes⟩ := (h.fd.mem s).mp hs
      have := Un.at_mem.mpr ⟨he, hes⟩
      rw [hq] at this; cases this
  have hlen : (Un.at_ s C).length ≤ 1000 := Nat.le_trans (List.length_filter_le _ _) hC
  rw [hr] at hl hlen
  have hg := getK_map (fun s => D.ref (ρ s)) hs
  have e1 : ∀ (x10 : Sl), opM subD (rd 3) (rd 6) [x0, x1, x2, .val (.ref n0), x4, x5, .val (nD s), x7, x8, .own (.lst, acc.map enR), x10, x11] st = some (.ref (ρ s), st) := fun x10 => by
    rw [v_opM]
    show ((subD (dr st (.ref n0)) (nD s)).map _) = _
    rw [dr_ref, h.dic]
    show ((getK (tKs ss) (ss.map fun s => D.ref (ρ s)) (nK s)).map _) = _
    rw [hg]; rfl
  refine ⟨.val (enR f), ?_⟩
  have e2 : asgM (nameT 10) (opM subD (opM subD (rd 3) (rd 6)) (cst (.int 0))) [x0, x1, x2, .val (.ref n0), x4, x5, .val (nD s), x7, x8, .own (.lst, acc.map enR), x10, x11] st = some (.nx [x0, x1, x2, .val (.ref n0), x4, x5, .val (nD s), x7, x8, .own (.lst, acc.map enR), .val (enR f), x11], st) := by
    refine asg_nx ?_
    rw [v_opM, e1, Option.bind_some]
    show ((subD (dr st (.ref (ρ s))) (.int 0)).map _) = _
    rw [dr_ref, hl]
    show ((L2.atI (enR f :: r.map enR) 0).map _) = _
    rw [show L2.atI (enR f :: r.map enR) 0 = some (enR f) from atI_of (j := 0) rfl]
    rfl
  have e3 : appM 9 (rd 10) [x0, x1, x2, .val (.ref n0), x4, x5, .val (nD s), x7, x8, .own (.lst, acc.map enR), .val (enR f), x11] st = some (.nx [x0, x1, x2, .val (.ref n0), x4, x5, .val (nD s), x7, x8, .own (.lst, acc.map enR ++ [enR f]), .val (enR f), x11], st) := by
    rw [v_appM]
    show grd ((acc.map enR).length + 1) _ = _
    rw [grd_of (by rw [List.length_map]; omega)]; rfl
  have e4 : frz lfC [x0, x1, x2, .val (.ref n0), x4, x5, .val (nD s), x7, x8, .own (.lst, acc.map enR ++ [enR f]), .val (enR f), x11] st = some (.lst (((f :: r).filter fun e => decide (e.2.1 ≠ f.2.1)).map enR), st) := by
    rw [v_frz]
    have : lfC [x0, x1, x2, .val (.ref n0), x4, x5, .val (nD s), x7, x8, .own (.lst, acc.map enR ++ [enR f]), .val (enR f), x11] st = some (((f :: r).filter fun e => decide (e.2.1 ≠ f.2.1)).map enR, st) := by
      unfold lfC compR
      have e1' : opM subD (rd 3) (rd 6) [x0, x1, x2, .val (.ref n0), x4, x5, .val (nD s), x7, x8, .own (.lst, acc.map enR ++ [enR f]), .val (enR f), x11] st = some (.ref (ρ s), st) := by
        rw [v_opM]
        show ((subD (dr st (.ref n0)) (nD s)).map _) = _
        rw [dr_ref, h.dic]
        show ((getK (tKs ss) (ss.map fun s => D.ref (ρ s)) (nK s)).map _) = _
        rw [hg]; rfl
      rw [e1', Option.bind_some]
      show (lstAt st (ρ s)).bind _ = _
      rw [lstAt_of hl, Option.bind_some, if_pos (by rw [List.length_map]; exact Nat.le_trans hlen (by decide))]
      exact compLc_of (lstAt_of hl) x0 x1 x2 _ x4 x5 _ x7 x8 _ f (f :: r)
    rw [this]; rfl
  unfold lfB
  refine (seq_nx e2).trans ((seq_nx e3).trans ?_)
  have e5 := sll_to (n := 1) e4 (g := cst (.int 1)) (s2 := st) v_cst
  have hf0 : (f :: r).filter (fun e => decide (e.2.1 ≠ f.2.1)) = r.filter fun e => decide (e.2.1 ≠ f.2.1) := List.filter_cons_of_neg (by simp)
  rw [hf0, ← List.map_take] at e5
  refine (ext_nx (i := 9) (ds := acc.map enR ++ [enR f]) rfl e5 ?_).trans ?_
  · have := List.length_take_le 1 (r.filter fun e : E => decide (e.2.1 ≠ f.2.1))
    simp only [List.length_append, List.length_map, List.length_singleton]
    omega
  · have : acc.map enR ++ [enR f] ++ ((r.filter fun e => decide (e.2.1 ≠ f.2.1)).take 1).map enR = (acc ++ Un.pick s C).map enR := by
      have hp : Un.pick s C = f :: (r.filter fun e => decide (e.2.1 ≠ f.2.1)).take 1 := by
        unfold Un.pick
        rw [hr]; rfl
      rw [hp]
      simp
    rw [this]; rfl
theorem lf_for {n0 : Nat} {st : S} {ss : List Nat} {ρ : Nat → Nat} {C : List E} (h : LdI n0 st ss ρ C) (hC : C.length ≤ 1000) (x0 x1 x2 x4 x5 x7 x8 x11 : Sl) : ∀ (ts : List Nat) (acc : List E) (x6 x10 : Sl), (∀ s ∈ ts, s ∈ ss) → acc.length + 2 * ts.length ≤ 900 →
    ∃ y6 y10, forL (nameT 6) lfB (tN ts) [x0, x1, x2, .val (.ref n0), x4, x5, x6, x7, x8, .own (.lst, acc.map enR), x10, x11] st = some (.nx [x0, x1, x2, .val (.ref n0), x4, x5, y6, x7, x8, .own (.lst, (acc ++ ts.flatMap fun s => Un.pick s C).map enR), y10, x11], st)
  | [], acc, x6, x10, _, _ => ⟨x6, x10, by rw [List.flatMap_nil, List.append_nil]; rfl⟩
  | s :: ts, acc, x6, x10, hs, hl => by
    rw [List.length_cons] at hl
    obtain ⟨y10, e1⟩ := lf_turn h hC (hs s List.mem_cons_self) acc (by omega) x0 x1 x2 x4 x5 x7 x8 x10 x11
    have := Un.two_len (Un.at_ s C)
    obtain ⟨z6, z10, e2⟩ := lf_for h hC x0 x1 x2 x4 x5 x7 x8 x11 ts (acc ++ Un.pick s C) (.val (nD s)) y10 (fun x hx => hs x (List.mem_cons_of_mem _ hx)) (by rw [List.length_append]; unfold Un.pick; omega)
    refine ⟨z6, z10, ?_⟩
    refine forL_cons_of (e1 := [x0, x1, x2, .val (.ref n0), x4, x5, .val (nD s), x7, x8, .own (.lst, acc.map enR), x10, x11]) rfl e1 ?_
    rw [List.flatMap_cons, ← List.append_assoc]
    exact e2
/-! ### the law's layers -/
structure LLy (kd : Kd) (gs : List Int) (n : Nat) (L : List E) : Prop where
  lay : Un.LayI (stp kd) (gF gs) n L
  srt : L.Pairwise fun a b => Bf.slt a.1 b.1
  st : ∀ e ∈ L, e.2.2 < kd.rows.length
  le : L.length ≤ 2 * kd.rows.length
theorem slt_ne {a b : List Nat} (h : Bf.slt a b) : a ≠ b := fun z => by
  subst z
  rcases h with h | ⟨_, h⟩
  · omega
  · exact List.lt_irrefl _ h
theorem slt_snoc {a b : List Nat} {j k : Nat} (h : Bf.slt a b) : Bf.slt (a ++ [j]) (b ++ [k]) := by
  rcases h with h | ⟨h1, h2⟩
  · exact .inl (by simp; omega)
  · exact .inr ⟨by simp [h1], Bf.lt_app _ _ h1 h2⟩
section
variable {kd : Kd} {gs : List Int} (ok : kd.Ok) (hg : gs.length = kd.k)
include ok hg
theorem ll_ok {n : Nat} (hn : n ≤ 500) {L : List E} (h : LLy kd gs n L) (st : S) : ∃ (L' : List E) (st' : S), m__law_layer [tK kd, .lst (gs.map D.int), .lst (L.map enR)] st = some (.lst (L'.map enR), st') ∧ st'.n = st.n ∧ LLy kd gs (n + 1) L' := by
  have hm := ok.m8
  have hk4 := ok.k4
  have h0 : LdI st.ob.length (st.ad (.dic false [] [])) [] (fun _ => 0) [] := ⟨ad_at', (fun s hs => by cases hs), (fun s hs => by cases hs), (fun s hs => by cases hs), ⟨by simp, fun s => by simp⟩⟩
  have hle := h.le
  obtain ⟨ss, ρ, st1, y4, y5, y6, y7, y8, e1, n1, h1, s1⟩ := ll_rows ok hg st.ob.length (.val (.lst (L.map enR))) .un .un .un L [] [] (fun _ => 0) (st.ad (.dic false [] [])) .un .un .un .un .un (fun e he => ⟨h.st e he, by
    have := (h.lay.so e.1 e.2.1 e.2.2 he).1
    omega⟩) h0 (fun s hs => by cases hs) (by simp; omega)
  rw [List.nil_append] at h1
  generalize hC : (L.flatMap fun e => cdL kd gs e (List.range kd.k)) = C at h1
  have memC : ∀ e, e ∈ C ↔ Un.Cand (stp kd) (gF gs) L e := by
    intro e
    rw [← hC, List.mem_flatMap]
    constructor
    · rintro ⟨e0, h2, h3⟩
      obtain ⟨k, h4, h5⟩ := List.mem_filterMap.mp h3
      obtain ⟨t, h6, h7⟩ := mpd h5
      cases h7
      exact ⟨e0.1, e0.2.1, e0.2.2, k, h2, h6, rfl, rfl⟩
    · rintro ⟨w, v, s0, k, h2, h3, h4, h5⟩
      refine ⟨_, h2, List.mem_filterMap.mpr ⟨k, List.mem_range.mpr (stp_k ok (h.st _ h2) h3), ?_⟩⟩
      dsimp only
      rw [h3, Option.map_some, ← h4, ← h5]
  have lenC : ∀ e ∈ C, e.1.length = n + 1 := fun e he => by
    obtain ⟨w, v, s0, k, h2, h3, h4, h5⟩ := (memC e).mp he
    rw [h4, List.length_append, (h.lay.so _ _ _ h2).1]; rfl
  have srtC : C.Pairwise fun a b => Bf.slt a.1 b.1 := by
    rw [← hC, List.pairwise_flatMap]
    refine ⟨fun e he => ?_, ?_⟩
    · unfold cdL
      rw [List.pairwise_filterMap]
      refine List.Pairwise.imp ?_ (List.pairwise_lt_range (n := kd.k))
      intro j k hjk a ha b hb
      obtain ⟨t, _, rfl⟩ := mpd ha
      obtain ⟨u, _, rfl⟩ := mpd hb
      exact .inr ⟨by simp, Bf.lt_snoc hjk⟩
    · refine List.Pairwise.imp ?_ h.srt
      intro a b hab x hx y hy
      obtain ⟨j, _, hj⟩ := List.mem_filterMap.mp hx
      obtain ⟨k, _, hk⟩ := List.mem_filterMap.mp hy
      obtain ⟨t, _, rfl⟩ := mpd hj
      obtain ⟨u, _, rfl⟩ := mpd hk
      exact slt_snoc hab
  have lC : C.length ≤ 200 := by
    have : ∀ l : List E, (l.flatMap fun e => cdL kd gs e (List.range kd.k)).length ≤ 4 * l.length := by
      intro l
      induction l with
      | nil => exact Nat.le_refl _
      | cons a l ih =>
        rw [List.flatMap_cons, List.length_append, List.length_cons]
        have : (cdL kd gs a (List.range kd.k)).length ≤ 4 := by
          have := List.length_filterMap_le (fun k => (stp kd a.2.2 k).map fun t => (a.1 ++ [k], a.2.1 + gF gs k, t)) (List.range kd.k)
          rw [List.length_range] at this
          unfold cdL
          omega
        omega
    have := this L
    rw [hC] at this
    omega
  have lss := nodup_le h1.fd.nd s1
  obtain ⟨ts, hp, hts⟩ := srt_nats ss
  have lts : ts.length ≤ 9 := by rw [hp.length_eq]; omega
  obtain ⟨z6, z10, e2⟩ := lf_for h1 (by omega) (.val (tK kd)) (.val (.lst (gs.map D.int))) (.val (.lst (L.map enR))) y4 y5 y7 y8 .un ts [] y6 .un (fun s hs => hp.mem_iff.mp hs) (by simp; omega)
  rw [List.nil_append] at e2
  generalize hLt : (ts.flatMap fun s => Un.pick s C) = Lt at e2
  have memL : ∀ e, e ∈ Lt ↔ e ∈ Un.pick e.2.2 C := by
    intro e
    rw [← hLt, List.mem_flatMap]
    constructor
    · rintro ⟨s, _, h3⟩
      rw [(Un.pick_mem h3).2]; exact h3
    · intro h3
      exact ⟨e.2.2, hp.mem_iff.mpr ((h1.fd.mem _).mpr ⟨e, (Un.pick_mem h3).1, rfl⟩), h3⟩
  have sub : ∀ e ∈ Lt, e ∈ C := fun e he => (Un.pick_mem ((memL e).mp he)).1
  have ndL : Lt.Pairwise fun a b => a.1 ≠ b.1 := by
    have key : ∀ a ∈ C, ∀ b ∈ C, a.1 = b.1 → a = b := by
      intro a ha b hb hab
      obtain ⟨i, hi, rfl⟩ := List.getElem_of_mem ha
      obtain ⟨j, hj, rfl⟩ := List.getElem_of_mem hb
      rcases Nat.lt_trichotomy i j with z | z | z
      · exact absurd hab (slt_ne (List.pairwise_iff_getElem.mp srtC i j hi hj z))
      · subst z; rfl
      · exact absurd hab.symm (slt_ne (List.pairwise_iff_getElem.mp srtC j i hj hi z))
    rw [← hLt, List.pairwise_flatMap]
    refine ⟨fun s hs => ?_, ?_⟩
    · have hat : (Un.at_ s C).Pairwise fun a b => Bf.slt a.1 b.1 := srtC.filter _
      have : (Un.pick s C).Pairwise fun a b => Bf.slt a.1 b.1 := by
        unfold Un.pick
        cases hq : Un.at_ s C with
        | nil => exact .nil
        | cons f r =>
          rw [hq] at hat
          obtain ⟨a1, a2⟩ := List.pairwise_cons.mp hat
          refine List.pairwise_cons.mpr ⟨fun x hx => a1 x (List.mem_filter.mp (List.mem_of_mem_take hx)).1, ?_⟩
          exact List.Pairwise.sublist (List.take_sublist _ _) (a2.filter _)
      exact this.imp fun hab => slt_ne hab
    · have hnd : ts.Nodup := hp.nodup_iff.mpr h1.fd.nd
      refine List.Pairwise.imp ?_ hnd
      intro s t hst x hx y hy hxy
      have e3 := key x (Un.pick_mem hx).1 y (Un.pick_mem hy).1 hxy
      apply hst
      rw [← (Un.pick_mem hx).2, ← (Un.pick_mem hy).2, e3]
  have lLt : Lt.length ≤ 2 * ts.length := by
    rw [← hLt]
    clear hLt e2 memL sub ndL hts lts hp
    induction ts with
    | nil => exact Nat.le_refl _
    | cons a l ih =>
      rw [List.flatMap_cons, List.length_append, List.length_cons]
      have : (Un.pick a C).length ≤ 2 := Un.two_len (Un.at_ a C)
      omega
  have lenL : ∀ e ∈ Lt, e.1.length = n + 1 := fun e he => lenC e (sub e he)
  refine ⟨srE Lt, st1, ?_, n1, ?_, ?_, ?_, ?_⟩
  · refine run_of (b := b__law_layer) ?_
    show seqM (asgM (nameT 3) (stoK newK)) (seqM (forM (seqI (rd 2)) (tupT 3 (consT (nameT 4) (consT (nameT 5) (consT (nameT 6) nilT)))) llR) (seqM (ownM 9 (lstM aNil)) (seqM (forM (seqI (frz (sortM (frz (listM (aCons (rd 3) aNil)))))) (nameT 6) lfB) (retM (frz (sortM (rdW 9))))))) [.val (tK kd), .val (.lst (gs.map D.int)), .val (.lst (L.map enR)), .un, .un, .un, .un, .un, .un, .un, .un, .un] st = _
    refine (seq_nx (e := [.val (tK kd), .val (.lst (gs.map D.int)), .val (.lst (L.map enR)), .val (.ref st.ob.length), .un, .un, .un, .un, .un, .un, .un, .un]) (s1 := st.ad (.dic false [] [])) rfl).trans ?_
    refine (seq_nx (forM_of (ds := L.map enR) rfl e1)).trans ?_
    refine (seq_nx (own_nx (i := 9) (ds := []) (s1 := st1) (by rw [v_lstM, v_aNil, Option.bind_some, grd_of (by simp)]))).trans ?_
    have es : seqI (frz (sortM (frz (listM (aCons (rd 3) aNil))))) [.val (tK kd), .val (.lst (gs.map D.int)), .val (.lst (L.map enR)), .val (.ref st.ob.length), y4, y5, y6, y7, y8, .own (.lst, []), .un, .un] st1 = some (tN ts, st1) := by
      rw [v_seqI, hts _ _ st1 st1 ?_]
      · rfl
      · rw [v_frz, v_listM, cons_of (d := .ref st.ob.length) (s1 := st1) rfl v_aNil, Option.bind_some]
        show (((listD [dr st1 (.ref st.ob.length)]).map _).map _) = _
        rw [dr_ref, h1.dic]
        show some (D.lst ((tKs ss).map keyD), st1) = _
        rw [List.map_map]; rfl
    refine (seq_nx (forM_of es e2)).trans (ret_of (sort_of (L := Lt) (s1 := st1) rfl))
  · exact h.lay.next (C := C) memC (srtC.imp fun hab => by
      rcases hab with z | ⟨z1, z2⟩
      · exact .inl z
      · exact .inr ⟨z1, .inl z2⟩) fun e => by rw [srE_mem]; exact memL e
  · have h2 := srE_srt lenL
    have h3 : (srE Lt).Pairwise fun a b => a.1 ≠ b.1 := ndL.perm (srE_perm Lt).symm fun hab z => hab z.symm
    refine List.Pairwise.imp_of_mem ?_ (h2.and h3)
    intro a b ha hb hab
    rcases hab.1 with z | ⟨z1, z2 | z2⟩
    · exact .inl z
    · exact .inr ⟨z1, z2⟩
    · exact absurd z2 hab.2
  · intro e he
    obtain ⟨w, v, s0, k, h2, h3, h4, h5⟩ := (memC e).mp (sub e (srE_mem.mp he))
    exact stp_lt ok (h.st _ h2) h3
  · rw [srE_len]
    rw [hp.length_eq] at lLt
    omega
end
end Lw

set_option Elab.async false
set_option linter.all false
set_option maxRecDepth 100000
set_option maxHeartbeats 1000000
namespace Lw
open PySem MD L2
open Un (E)
abbrev WrongS (kd : Kd) (gs : List Int) (w : List Nat) : Prop := Un.Wrong (stp kd) (gF gs) (isE kd) w
theorem stp_wU {kd : Kd} (ok : kd.Ok) : ∀ (w : List Nat) (s e : Nat), Rc (nxs kd) [0] s → Un.wk (stp kd) s w = some e → isE kd e = true → wU kd s w = some e ∧ Rc (bks kd) (endS kd) s
  | [], s, e, h, hw, he => by
    cases hw
    refine ⟨rfl, .base ?_⟩
    unfold endS
    exact List.mem_filter.mpr ⟨List.mem_range.mpr (Rc_lt ok h), he⟩
  | k :: w, s, e, h, hw, he => by
    obtain ⟨u, h1, h2⟩ := bnd (show ((stp kd s k).bind fun t => Un.wk (stp kd) t w) = some e from hw)
    have hn : u ∈ nxs kd s := nxs_stp.mpr ⟨k, h1⟩
    have hu : Rc (nxs kd) [0] u := .step h hn
    obtain ⟨h3, h4⟩ := stp_wU ok w u e hu h2 he
    refine ⟨?_, alive_back ok (Rc_lt ok h) hn h4⟩
    show (sU kd s k).bind _ = _
    rw [sU_eq.mpr ⟨h1, us_mem.mpr ⟨Rc_lt ok hu, hu, h4⟩⟩]
    exact h3
theorem wU_stp {kd : Kd} : ∀ (w : List Nat) (s e : Nat), wU kd s w = some e → Un.wk (stp kd) s w = some e
  | [], s, e, h => h
  | k :: w, s, e, h => by
    obtain ⟨u, h1, h2⟩ := bnd (show ((sU kd s k).bind fun t => wU kd t w) = some e from h)
    show (stp kd s k).bind _ = _
    rw [(sU_eq.mp h1).1]
    exact wU_stp w u e h2
theorem wrong_iff {kd : Kd} (ok : kd.Ok) {gs : List Int} {w : List Nat} : WrongS kd gs w ↔ WrongU kd gs w := by
  constructor
  · rintro ⟨s, h1, h2, h3⟩
    exact ⟨s, by rw [wk_wU]; exact (stp_wU ok w 0 s (.base (by simp)) h1 h2).1, h2, h3⟩
  · rintro ⟨s, h1, h2, h3⟩
    rw [wk_wU] at h1
    exact ⟨s, wU_stp w 0 s h1, h2, h3⟩
noncomputable def fuW : ME := (frz (compM (seqI (rd 4)) (nameT 8) (andM (truM (opM subD (opM subD (rd 0) (cst (.int 2))) (opM subD (rd 8) (cst (.int 2))))) (tstM (opM neM (opM subD (rd 8) (cst (.int 1))) (cst (.int 0))))) (opM subD (rd 8) (cst (.int 0))) [8]))
noncomputable def fuB : MS := (seqM (asgM (nameT 6) fuW)
 (seqM (ifS (tstM (opM neM (rd 6) (frz (lstM aNil))))
 (retM (opM subD (rd 6) (cst (.int 0))))
 nxM)
 (asgM (nameT 4) (callM m__law_layer (aCons (rd 0) (aCons (rd 3) (aCons (rd 4) aNil)))))))
section
variable {kd : Kd} {gs : List Int} (ok : kd.Ok) (hg : gs.length = kd.k)
include ok
theorem fu_comp (st : S) (x1 x2 x3 x4 x5 x6 x7 : Sl) : ∀ L : List E, (∀ e ∈ L, e.2.2 < kd.rows.length) → compL (nameT 8) (andM (truM (opM subD (opM subD (rd 0) (cst (.int 2))) (opM subD (rd 8) (cst (.int 2))))) (tstM (opM neM (opM subD (rd 8) (cst (.int 1))) (cst (.int 0))))) (opM subD (rd 8) (cst (.int 0))) [.val (tK kd), x1, x2, x3, x4, x5, x6, x7, .un] (L.map enR) st = some (stW (L.filter (Un.wrE (isE kd))), st)
  | [], _ => rfl
  | e :: L, h => by
    have ih := fu_comp st x1 x2 x3 x4 x5 x6 x7 L fun x hx => h x (List.mem_cons_of_mem _ hx)
    have hs := h e List.mem_cons_self
    have q2 : opM subD (rd 8) (cst (.int 2)) [.val (tK kd), x1, x2, x3, x4, x5, x6, x7, .val (enR e)] st = some (nD e.2.2, st) := rfl
    have q1 : opM subD (rd 8) (cst (.int 1)) [.val (tK kd), x1, x2, x3, x4, x5, x6, x7, .val (enR e)] st = some (.int e.2.1, st) := rfl
    have q0 : opM subD (rd 8) (cst (.int 0)) [.val (tK kd), x1, x2, x3, x4, x5, x6, x7, .val (enR e)] st = some (.str (tw e.1), st) := rfl
    have qe : opM subD (rd 0) (cst (.int 2)) [.val (tK kd), x1, x2, x3, x4, x5, x6, x7, .val (enR e)] st = some (.tup (kd.ends.map D.bl), st) := by simp [tK2]
    have c1 : truM (opM subD (opM subD (rd 0) (cst (.int 2))) (opM subD (rd 8) (cst (.int 2)))) [.val (tK kd), x1, x2, x3, x4, x5, x6, x7, .val (enR e)] st = some (isE kd e.2.2, st) := by
      rw [v_truM, v_opM, qe, Option.bind_some, q2, Option.bind_some]
      show ((((L2.atI (kd.ends.map D.bl) ((e.2.2 : Nat) : Int)).map _).bind _) : Option (Bool × S)) = _
      rw [end_D ok hs]; rfl
    have c2 : tstM (opM neM (opM subD (rd 8) (cst (.int 1))) (cst (.int 0))) [.val (tK kd), x1, x2, x3, x4, x5, x6, x7, .val (enR e)] st = some (!decide (e.2.1 = 0), st) := by
      rw [v_tstM, v_opM, q1]; rfl
    have c3 : andM (truM (opM subD (opM subD (rd 0) (cst (.int 2))) (opM subD (rd 8) (cst (.int 2))))) (tstM (opM neM (opM subD (rd 8) (cst (.int 1))) (cst (.int 0)))) [.val (tK kd), x1, x2, x3, x4, x5, x6, x7, .val (enR e)] st = some (Un.wrE (isE kd) e, st) := by
      rw [v_andM, c1, Option.bind_some]
      unfold Un.wrE
      cases isE kd e.2.2 with
      | false => rfl
      | true =>
        show tstM _ _ st = _
        rw [c2]
        congr 2
        by_cases z : e.2.1 = 0 <;> simp [z]
    rw [List.map_cons, v_compL, v_nameT, Option.bind_some]
    show ((andM _ _ [.val (tK kd), x1, x2, x3, x4, x5, x6, x7, .val (enR e)] st).bind _) = _
    rw [c3, Option.bind_some]
    cases hq : Un.wrE (isE kd) e with
    | false =>
      rw [List.filter_cons_of_neg (by simp [hq])]
      exact ih
    | true =>
      rw [List.filter_cons_of_pos hq, if_pos rfl]
      show ((opM subD (rd 8) (cst (.int 0)) [.val (tK kd), x1, x2, x3, x4, x5, x6, x7, .val (enR e)] st).bind _) = _
      rw [q0, Option.bind_some]
      show ((compL _ _ _ [.val (tK kd), x1, x2, x3, x4, x5, x6, x7, .un] (L.map enR) st).map _) = _
      rw [ih]; rfl
theorem wk_let : ∀ (w : List Nat) (s t : Nat), s < kd.rows.length → Un.wk (stp kd) s w = some t → ∀ k ∈ w, k < kd.k
  | [], _, _, _, _, k, h => by cases h
  | j :: w, s, t, hs, e, k, h => by
    obtain ⟨u, h1, h2⟩ := bnd (show ((stp kd s j).bind fun t => Un.wk (stp kd) t w) = some t from e)
    rcases List.mem_cons.mp h with rfl | h
    · exact stp_k ok hs h1
    · exact wk_let w u t (stp_lt ok hs h1) h2 k h
theorem LLy.nice {n : Nat} {L : List E} (h : LLy kd gs n L) : ∀ d ∈ stW (L.filter (Un.wrE (isE kd))), Nice d := by
  intro d hd
  obtain ⟨e, he, rfl⟩ := List.mem_map.mp hd
  obtain ⟨_, h2, _⟩ := h.lay.so e.1 e.2.1 e.2.2 (List.mem_filter.mp he).1
  refine Nice.strW fun c hc => ?_
  obtain ⟨k, hk, rfl⟩ := List.mem_map.mp hc
  have := wk_let ok _ _ _ ok.m0 h2 k hk
  have := ok.k4
  omega
include hg
theorem fu_for (x1 x2 x7 x8 : Sl) : ∀ (ds : List D) (n : Nat) (L : List E) (st : S) (x5 x6 : Sl), LLy kd gs n L → n + ds.length ≤ 400 → (∀ u, u.length < n → ¬ WrongS kd gs u) →
    (∃ w s1, forL (nameT 5) fuB ds [.val (tK kd), x1, x2, .val (.lst (gs.map D.int)), .val (.lst (L.map enR)), x5, x6, x7, x8] st = some (.rt (.str (tw w)), s1) ∧ s1.n = st.n ∧ Un.First (stp kd) (gF gs) (isE kd) w) ∨
    (∃ e s1, forL (nameT 5) fuB ds [.val (tK kd), x1, x2, .val (.lst (gs.map D.int)), .val (.lst (L.map enR)), x5, x6, x7, x8] st = some (.nx e, s1) ∧ s1.n = st.n ∧ ∀ u, u.length < n + ds.length → ¬ WrongS kd gs u)
  | [], n, L, st, x5, x6, h, _, hno => .inr ⟨_, st, rfl, rfl, by simpa using hno⟩
  | d :: ds, n, L, st, x5, x6, h, hl, hno => by
    rw [List.length_cons] at hl
    have hm := ok.m8
    have hle := h.le
    have e1 : asgM (nameT 6) fuW [.val (tK kd), x1, x2, .val (.lst (gs.map D.int)), .val (.lst (L.map enR)), .val d, x6, x7, x8] st = some (.nx [.val (tK kd), x1, x2, .val (.lst (gs.map D.int)), .val (.lst (L.map enR)), .val d, .val (.lst (stW (L.filter (Un.wrE (isE kd))))), x7, x8], st) := by
      refine asg_nx ?_
      unfold fuW
      have es : seqI (rd 4) [.val (tK kd), x1, x2, .val (.lst (gs.map D.int)), .val (.lst (L.map enR)), .val d, x6, x7, x8] st = some (L.map enR, st) := rfl
      rw [v_frz, v_compM, es, Option.bind_some, grd_of (by rw [List.length_map]; omega)]
      simp only [v_wipe1, v_wipe0, List.set_cons_succ, List.set_cons_zero]
      rw [fu_comp ok st _ _ _ _ _ _ _ L h.st]; rfl
    have et : tstM (opM neM (rd 6) (frz (lstM aNil))) [.val (tK kd), x1, x2, .val (.lst (gs.map D.int)), .val (.lst (L.map enR)), .val d, .val (.lst (stW (L.filter (Un.wrE (isE kd))))), x7, x8] st = some (!(L.filter (Un.wrE (isE kd))).isEmpty, st) := by
      rw [v_tstM, v_opM]
      show ((((neM (.lst (stW (L.filter (Un.wrE (isE kd))))) (.lst [])).map _).bind _) : Option (Bool × S)) = _
      rw [ne_nil (h.nice ok), List.isEmpty_map]; rfl
    cases hq : L.filter (Un.wrE (isE kd)) with
    | cons e r =>
      have he : e ∈ L.filter (Un.wrE (isE kd)) := by rw [hq]; exact List.mem_cons_self
      obtain ⟨he1, he2⟩ := List.mem_filter.mp he
      rw [hq] at e1 et
      refine .inl ⟨e.1, st, ?_, rfl, ?_⟩
      · rw [v_forL, v_nameT, Option.bind_some]
        have : fuB [.val (tK kd), x1, x2, .val (.lst (gs.map D.int)), .val (.lst (L.map enR)), .val d, x6, x7, x8] st = some (.rt (.str (tw e.1)), st) := by
          unfold fuB
          refine (seq_nx e1).trans (seq_rt (ifs_t et (ret_of ?_)))
          rw [v_opM]
          show ((L2.atI (stW (e :: r)) 0).map _ : Option (D × S)) = _
          rw [show L2.atI (stW (e :: r)) 0 = some (.str (tw e.1)) from atI_of (j := 0) rfl]; rfl
        show ((fuB [.val (tK kd), x1, x2, .val (.lst (gs.map D.int)), .val (.lst (L.map enR)), .val d, x6, x7, x8] st).bind _) = _
        rw [this]; rfl
      · refine Un.first_of h.lay hno he1 he2 fun e' he' hw' => ?_
        have hp : (L.filter (Un.wrE (isE kd))).Pairwise fun a b => Bf.slt a.1 b.1 := h.srt.filter _
        have hm' : e' ∈ L.filter (Un.wrE (isE kd)) := List.mem_filter.mpr ⟨he', hw'⟩
        rw [hq] at hp hm'
        rcases List.mem_cons.mp hm' with rfl | hm'
        · exact Bf.sle_refl _
        · rcases (List.pairwise_cons.mp hp).1 e' hm' with z | ⟨z1, z2⟩
          · exact .inl z
          · exact .inr ⟨z1, .inl z2⟩
    | nil =>
      rw [hq] at e1 et
      have hnn : ∀ u, u.length = n → ¬ WrongS kd gs u := fun u hu => h.lay.no (fun e hm => by
        cases hw : Un.wrE (isE kd) e with
        | false => rfl
        | true =>
          have := List.mem_filter.mpr ⟨hm, hw⟩
          rw [hq] at this; cases this) hu
      obtain ⟨L', st1, e2, n2, h2⟩ := ll_ok ok hg (by omega) h st
      have eB : fuB [.val (tK kd), x1, x2, .val (.lst (gs.map D.int)), .val (.lst (L.map enR)), .val d, x6, x7, x8] st = some (.nx [.val (tK kd), x1, x2, .val (.lst (gs.map D.int)), .val (.lst (L'.map enR)), .val d, .val (.lst []), x7, x8], st1) := by
        unfold fuB
        refine (seq_nx e1).trans ((seq_nx (ifs_f et rfl)).trans ?_)
        exact asg_nx (call_of (ds := [tK kd, .lst (gs.map D.int), .lst (L.map enR)]) (s1 := st) rfl e2)
      have hno' : ∀ u, u.length < n + 1 → ¬ WrongS kd gs u := fun u hu => by
        rcases Nat.lt_or_ge u.length n with z | z
        · exact hno u z
        · exact hnn u (by omega)
      rcases fu_for x1 x2 x7 x8 ds (n + 1) L' st1 (.val d) (.val (.lst [])) h2 (by omega) hno' with ⟨w, s1, e3, n3, h3⟩ | ⟨e, s1, e3, n3, h3⟩
      · exact .inl ⟨w, s1, forL_cons_of rfl eB e3, n3.trans n2, h3⟩
      · exact .inr ⟨e, s1, forL_cons_of rfl eB e3, n3.trans n2, by rw [List.length_cons]; intro u hu; exact h3 u (by omega)⟩
end
theorem first_ok {kd : Kd} (ok : kd.Ok) {fm fo : List Int} (hf : fm.length = kd.k) (ho : fo.length = kd.k) (st : S) : ∃ (r : D) (s1 : S), m__law_first_unlike [tK kd, tI fm, tI fo] st = some (r, s1) ∧ s1.n = st.n ∧ Res kd (gsub fm fo) r := by
  have hm := ok.m8
  have hk4 := ok.k4
  have hg : (gsub fm fo).length = kd.k := by unfold gsub; rw [List.length_zipWith]; omega
  have gat : ∀ j, j < kd.k → (gsub fm fo).getD j 0 = fm.getD j 0 - fo.getD j 0 := fun j hj => by
    unfold gsub
    rw [List.getD_eq_getElem?_getD, List.getElem?_zipWith, List.getElem?_eq_getElem (by omega), List.getElem?_eq_getElem (by omega), List.getD_eq_getElem?_getD, List.getElem?_eq_getElem (by omega), List.getD_eq_getElem?_getD, List.getElem?_eq_getElem (by omega)]
    rfl
  have gmap : (List.range kd.k).map (fun j => D.int (fm.getD j 0 - fo.getD j 0)) = (gsub fm fo).map D.int := by
    apply List.ext_getElem?
    intro i
    rw [List.getElem?_map, List.getElem?_map]
    rcases Nat.lt_or_ge i kd.k with z | z
    · rw [List.getElem?_range z, List.getElem?_eq_getElem (by omega)]
      have := gat i z
      rw [List.getD_eq_getElem?_getD, List.getElem?_eq_getElem (by omega)] at this
      have t2 : (gsub fm fo)[i] = fm.getD i 0 - fo.getD i 0 := this
      rw [t2]; rfl
    · rw [List.getElem?_eq_none (by simpa using z), List.getElem?_eq_none (by omega)]; rfl
  have gc : ∀ js : List Nat, (∀ j ∈ js, j < kd.k) → compL (nameT 7) yesM (opM subM (opM subD (rd 1) (rd 7)) (opM subD (rd 2) (rd 7))) [.val (tK kd), .val (tI fm), .val (tI fo), .un, .un, .un, .un, .un, .un] (tN js) st = some (js.map (fun j => D.int (fm.getD j 0 - fo.getD j 0)), st) := by
    intro js
    induction js with
    | nil => intro _; rfl
    | cons j js ih =>
      intro h
      have hj := h j List.mem_cons_self
      have g1 := form_at (fm := fm) (k := j) (by omega)
      have g2 := form_at (fm := fo) (k := j) (by omega)
      have c1 : opM subM (opM subD (rd 1) (rd 7)) (opM subD (rd 2) (rd 7)) [.val (tK kd), .val (tI fm), .val (tI fo), .un, .un, .un, .un, .val (nD j), .un] st = some (.int (fm.getD j 0 - fo.getD j 0), st) := by
        have a1 : opM subD (rd 1) (rd 7) [.val (tK kd), .val (tI fm), .val (tI fo), .un, .un, .un, .un, .val (nD j), .un] st = some (.int (fm.getD j 0), st) := by
          show ((L2.atI (fm.map D.int) ((j : Nat) : Int)).map _ : Option (D × S)) = _
          rw [g1]; rfl
        have a2 : opM subD (rd 2) (rd 7) [.val (tK kd), .val (tI fm), .val (tI fo), .un, .un, .un, .un, .val (nD j), .un] st = some (.int (fo.getD j 0), st) := by
          show ((L2.atI (fo.map D.int) ((j : Nat) : Int)).map _ : Option (D × S)) = _
          rw [g2]; rfl
        rw [v_opM, a1, Option.bind_some, a2]; rfl
      rw [show tN (j :: js) = nD j :: tN js from rfl, v_compL, v_nameT, Option.bind_some, v_yesM, Option.bind_some, if_pos rfl]
      show ((opM subM (opM subD (rd 1) (rd 7)) (opM subD (rd 2) (rd 7)) [.val (tK kd), .val (tI fm), .val (tI fo), .un, .un, .un, .un, .val (nD j), .un] st).bind _) = _
      rw [c1, Option.bind_some]
      show (compL _ _ _ _ _ st).map _ = _
      rw [ih fun x hx => h x (List.mem_cons_of_mem _ hx)]; rfl
  have ep : parM 3 4 (aCons (frz (compM (r1M (aCons (opM subD (rd 0) (cst (.int 0))) aNil)) (nameT 7) yesM (opM subM (opM subD (rd 1) (rd 7)) (opM subD (rd 2) (rd 7))) [7])) (aCons (frz (lstM (aCons (tupM (aCons (cst (.str "")) (aCons (cst (.int 0)) (aCons (cst (.int 0)) aNil)))) aNil))) aNil)) [.val (tK kd), .val (tI fm), .val (tI fo), .un, .un, .un, .un, .un, .un] st = some (.nx [.val (tK kd), .val (tI fm), .val (tI fo), .val (.lst ((gsub fm fo).map D.int)), .val (.lst ([(([] : List Nat), (0 : Int), 0)].map enR)), .un, .un, .un, .un], st) := by
    refine par_nx (cons_of (s1 := st) ?_ (cons_of (s1 := st) ?_ v_aNil))
    · have er : r1M (aCons (opM subD (rd 0) (cst (.int 0))) aNil) [.val (tK kd), .val (tI fm), .val (tI fo), .un, .un, .un, .un, .un, .un] st = some (tN (List.range kd.k), st) := r1_of (by omega) (cons_of (d := nD kd.k) (s1 := st) (by simp) v_aNil)
      rw [v_frz, v_compM, er, Option.bind_some, grd_of (by simp; omega)]
      simp only [v_wipe1, v_wipe0, List.set_cons_succ, List.set_cons_zero]
      rw [gc _ fun j hj => List.mem_range.mp hj, gmap]; rfl
    · have : enR ([], 0, 0) = .tup [.str "", .int 0, .int 0] := by unfold enR; rw [tw_nil]; rfl
      show _ = some (D.lst [enR ([], 0, 0)], st)
      rw [this]; rfl
  have h0 : LLy kd (gsub fm fo) 0 [([], 0, 0)] := ⟨Un.lay0, by simp, fun e he => by rw [List.mem_singleton.mp he]; exact ok.m0, by have := ok.m0; simp; omega⟩
  have er : r1M (aCons (opM addM (opM mulA (cst (.int 3)) (cbM lenA (aCons (opM subD (rd 0) (cst (.int 1))) aNil))) (cst (.int 1))) aNil) [.val (tK kd), .val (tI fm), .val (tI fo), .val (.lst ((gsub fm fo).map D.int)), .val (.lst ([(([] : List Nat), (0 : Int), 0)].map enR)), .un, .un, .un, .un] st = some (tN (List.range (3 * kd.rows.length + 1)), st) := by
    refine r1_of (by omega) (cons_of (s1 := st) ?_ v_aNil)
    have a1 : cbM lenA (aCons (opM subD (rd 0) (cst (.int 1))) aNil) [.val (tK kd), .val (tI fm), .val (tI fo), .val (.lst ((gsub fm fo).map D.int)), .val (.lst ([(([] : List Nat), (0 : Int), 0)].map enR)), .un, .un, .un, .un] st = some (nD kd.rows.length, st) := by
      have := t2 (kd := kd) st [.val (tI fm), .val (tI fo), .val (.lst ((gsub fm fo).map D.int)), .val (.lst ([(([] : List Nat), (0 : Int), 0)].map enR)), .un, .un, .un, .un]
      simp
    have hm3 : mulM (.int 3) (nD kd.rows.length) = some (.int (3 * ((kd.rows.length : Nat) : Int))) := rfl
    have a2 : opM mulA (cst (.int 3)) (cbM lenA (aCons (opM subD (rd 0) (cst (.int 1))) aNil)) [.val (tK kd), .val (tI fm), .val (tI fo), .val (.lst ((gsub fm fo).map D.int)), .val (.lst ([(([] : List Nat), (0 : Int), 0)].map enR)), .un, .un, .un, .un] st = some (.int (3 * ((kd.rows.length : Nat) : Int)), st) := by
      rw [v_opM, v_cst, Option.bind_some, a1, Option.bind_some]
      show ((mulA (.int 3) (nD kd.rows.length)).map _ : Option (D × S)) = _
      rw [v_mulAI, hm3]; rfl
    rw [v_opM, a2, Option.bind_some, v_cst, Option.bind_some]
    show some (D.int (3 * ((kd.rows.length : Nat) : Int) + 1), st) = some (nD (3 * kd.rows.length + 1), st)
    congr 2
  have hb : b__law_first_unlike = seqM (parM 3 4 (aCons (frz (compM (r1M (aCons (opM subD (rd 0) (cst (.int 0))) aNil)) (nameT 7) yesM (opM subM (opM subD (rd 1) (rd 7)) (opM subD (rd 2) (rd 7))) [7])) (aCons (frz (lstM (aCons (tupM (aCons (cst (.str "")) (aCons (cst (.int 0)) (aCons (cst (.int 0)) aNil)))) aNil))) aNil))) (seqM (forM (r1M (aCons (opM addM (opM mulA (cst (.int 3)) (cbM lenA (aCons (opM subD (rd 0) (cst (.int 1))) aNil))) (cst (.int 1))) aNil)) (nameT 5) fuB) (retM (cst .non))) := rfl
  obtain ⟨r0, s0, _, _, hr0⟩ := unlike_ok ok hf ho st
  rcases fu_for ok hg (.val (tI fm)) (.val (tI fo)) .un .un (tN (List.range (3 * kd.rows.length + 1))) 0 [([], 0, 0)] st .un .un h0 (by simp; omega) (fun u hu => by omega) with ⟨w, s1, e1, n1, hw⟩ | ⟨e, s1, e1, n1, hno⟩
  · refine ⟨.str (tw w), s1, run_of ?_, n1, ?_⟩
    · rw [hb]
      exact (seq_nx ep).trans (seq_rt (forM_of er e1))
    · have hF : Un.First (sU kd) (gF (gsub fm fo)) (isE kd) w := ⟨(wrong_iff ok).mp hw.1, fun u hu => hw.2 u ((wrong_iff ok).mpr hu)⟩
      rcases hr0 with ⟨_, hn⟩ | ⟨u, _, hu, hl⟩
      · exact absurd hF.1 (hn w)
      · have := hF.uniq hu
        subst this
        exact .inr ⟨w, rfl, hF, hl⟩
  · refine ⟨.non, s1, run_of ?_, n1, ?_⟩
    · rw [hb]
      exact (seq_nx ep).trans ((seq_nx (forM_of er e1)).trans rfl)
    · rcases hr0 with ⟨_, hn⟩ | ⟨u, _, hu, hl⟩
      · exact .inl ⟨rfl, hn⟩
      · exact absurd ((wrong_iff ok).mpr hu.1) (hno u (by simp; omega))
end Lw

set_option Elab.async false
set_option linter.all false
set_option maxRecDepth 100000
set_option maxHeartbeats 1000000
namespace Lw
open PySem MD L2
theorem dcD : IsDraw m__law_draw := isDraw dc
theorem sh_tw {w : List Nat} (h : ∀ k ∈ w, k < 4) {n : Nat} (hl : w.length ≤ n) : Sh (.str (tw w)) 0 n := by
  have := Sh.str (ws := w.map (97 + ·)) (fun c hc => by
    obtain ⟨k, hk, rfl⟩ := List.mem_map.mp hc
    have := h k hk
    show 97 + k < 128
    omega)
  rw [List.length_map] at this
  exact this.mono (Nat.le_refl _) hl
def shw (d : D) : D := .str d.py.shown
theorem r1_len {a : MA} {env : Sg} {st : S} {m : Nat} (hg : m ≤ 1000000) (h : a env st = some ([nD m], st)) : r1M a env st = some (tN (List.range m), st) := r1_of hg h
/-! ### drawn forms -/
noncomputable def foE : ME := (opM subM (callM m__law_draw (aCons (rd 0) (aCons (opM addM (opM mulA (cst (.int 2)) (rd 2)) (cst (.int 1))) aNil))) (rd 2))
theorem foE_yes {c : Nat} (hc : c ≤ 1000) (x1 x3 : Sl) : Yes 1 (foE [.val .deck, x1, .val (nD c), x3]) fun d => ∃ v : Int, d = .int v ∧ v.natAbs ≤ c := by
  intro st h0 hn
  obtain ⟨_, s1, e1, ⟨r, rfl, hr⟩, l1, l2⟩ := dcD.yes (m := 2 * c + 1) (by omega) (by omega) st h0 hn
  refine ⟨.int ((r : Int) - (c : Int)), s1, ?_, ⟨_, rfl, by omega⟩, l1, l2⟩
  have ea : (aCons (rd 0) (aCons (opM addM (opM mulA (cst (.int 2)) (rd 2)) (cst (.int 1))) aNil)) [.val .deck, x1, .val (nD c), x3] st = some ([.deck, .int ((2 * c + 1 : Nat) : Int)], st) := by
    have hm : mulM (.int 2) (.int ((c : Nat) : Int)) = some (.int (2 * (c : Int))) := rfl
    have hcast : ((2 * c + 1 : Nat) : Int) = 2 * (c : Int) + 1 := by omega
    rw [hcast]
    simp [hm]
  unfold foE
  rw [v_opM, call_of ea e1, Option.bind_some]
  rfl
theorem form_yes {k : Nat} (hk0 : 1 ≤ k) (hk : k ≤ 4) : Yes 5 (m__law_form [.deck, nD k]) fun d => ∃ fm : List Int, d = tI fm ∧ fm.length = k ∧ ∀ x ∈ fm, x.natAbs ≤ 99 := by
  intro st h0 hn
  obtain ⟨d, s1, e1, hd, l1, l2⟩ := one_lst dcD (ds := [.int 1, .int 3, .int 9, .int 99]) (by simp) (by simp) st h0 (by omega)
  obtain ⟨c, hc, hd⟩ : ∃ c : Nat, c ≤ 99 ∧ d = nD c := by
    simp only [List.mem_cons, List.mem_nil_iff, or_false] at hd
    rcases hd with rfl | rfl | rfl | rfl
    · exact ⟨1, by decide, rfl⟩
    · exact ⟨3, by decide, rfl⟩
    · exact ⟨9, by decide, rfl⟩
    · exact ⟨99, by decide, rfl⟩
  subst hd
  obtain ⟨ds, s2, e2, ⟨hl, hds⟩, l3, l4⟩ := compL_yes (t := nameT 3) (f := foE) (env := [.val .deck, .val (nD k), .val (nD c), .un]) (k := 1) (P := fun d => ∃ v : Int, d = .int v ∧ v.natAbs ≤ c) (tN (List.range k)) (fun d hd => ⟨_, rfl, foE_yes (by omega) _ _⟩) s1 (by omega) (by simp; omega)
  obtain ⟨ns, rfl, hns⟩ := maps_of ds hds
  rw [List.length_map, List.length_map, List.length_range] at hl
  refine ⟨tI ns, s2, ?_, ⟨ns, rfl, hl, fun x hx => Nat.le_trans (hns x hx) hc⟩, by omega, by simp at l4; omega⟩
  refine run_of (b := b__law_form) ?_
  show seqM (asgM (nameT 2) (callM m__law_one (aCons (rd 0) (aCons (frz (lstM (aCons (cst (.int 1)) (aCons (cst (.int 3)) (aCons (cst (.int 9)) (aCons (cst (.int 99)) aNil)))))) aNil)))) (retM (cbM tupleM (aCons (frz (compM (r1M (aCons (rd 1) aNil)) (nameT 3) yesM foE [3])) aNil))) [.val .deck, .val (nD k), .un, .un] st = _
  have ea : (aCons (rd 0) (aCons (frz (lstM (aCons (cst (.int 1)) (aCons (cst (.int 3)) (aCons (cst (.int 9)) (aCons (cst (.int 99)) aNil)))))) aNil)) [.val .deck, .val (nD k), .un, .un] st = some ([.deck, .lst [.int 1, .int 3, .int 9, .int 99]], st) := by
    simp [grd_of (show 4 ≤ 1000000 by decide)]
  refine (seq_nx (asg_nx (call_of (m := m__law_one) ea e1))).trans (ret_of ?_)
  have ec : (frz (compM (r1M (aCons (rd 1) aNil)) (nameT 3) yesM foE [3])) [.val .deck, .val (nD k), .val (nD c), .un] s1 = some (.lst (ns.map D.int), s2) := by
    rw [v_frz, v_compM, r1_len (m := k) (by omega) rfl, Option.bind_some, grd_of (by simp; omega)]
    show (compL _ _ _ [.val .deck, .val (nD k), .val (nD c), .un] _ s1).map _ = _
    rw [e2]; rfl
  show cbM tupleM _ [.val .deck, .val (nD k), .val (nD c), .un] s1 = _
  rw [v_cbM, cons_of ec v_aNil, Option.bind_some]
  rfl
theorem repr_of {f : ME} {env : Sg} {st s1 : S} {d z : D} (h : f env st = some (d, s1)) (hd : dr s1 d = d) (hr : reprM [d] = some z) : cbM reprM (aCons f aNil) env st = some (z, s1) := by
  rw [v_cbM, cons_of h v_aNil, Option.bind_some]
  show ((reprM [dr s1 d]).map _ : Option (D × S)) = _
  rw [hd, hr]; rfl
theorem ne_same {f h : ME} {env : Sg} {st s1 s2 : S} {x : Str} (h1 : f env st = some (.str x, s1)) (h2 : h env s1 = some (.str x, s2)) : tstM (opM neM f h) env st = some (false, s2) := by
  rw [v_tstM, v_opM, h1, Option.bind_some, h2, Option.bind_some]
  show (((neM (.str x) (.str x)).map _ : Option (D × S)).bind _) = _
  rw [ne_str, decide_eq_true rfl]; rfl
/-! ### worths, read letter by letter -/
noncomputable def woB : MS := (asgM (nameT 2) (opM addM (rd 2) (opM subD (rd 0) (m1M sindexM (cst (.str "abcd")) (rd 3)))))
abbrev twD (w : List Nat) : List D := w.map fun k => D.str (tw [k])
theorem seq_tw (w : List Nat) : seqOf (.str (tw w)) = some (twD w) := by
  unfold tw
  rw [v_seqS, W_signs, List.map_map, List.map_map]
  rfl
theorem seqI_tw {f : ME} {env : Sg} {st s1 : S} {w : List Nat} (h : f env st = some (.str (tw w), s1)) : seqI f env st = some (twD w, s1) := by
  rw [v_seqI, h, Option.bind_some]
  show ((seqOf (.str (tw w))).map _ : Option (List D × S)) = _
  rw [seq_tw]; rfl
theorem idx_tw {k : Nat} (h : k < 4) : sindexM (.str "abcd") [.str (tw [k])] = some (nD k) := by
  have e := idx_abcd (c := 97 + k) ⟨by omega, by omega⟩
  rw [show 97 + k - 97 = k by omega] at e
  exact e
theorem wo_loop {fm : List Int} (hf : fm.length ≤ 4) (x1 : Sl) (st : S) : ∀ (w : List Nat) (a : Int) (x3 : Sl), (∀ k ∈ w, k < fm.length) → ∃ y3, forL (nameT 3) woB (twD w) [.val (tI fm), x1, .val (.int a), x3] st = some (.nx [.val (tI fm), x1, .val (.int (a + wo fm w)), y3], st)
  | [], a, x3, _ => ⟨x3, by rw [wo_nil, Int.add_zero]; rfl⟩
  | k :: w, a, x3, h => by
    have hk := h k List.mem_cons_self
    obtain ⟨y3, e⟩ := wo_loop hf x1 st w (a + fm.getD k 0) (.val (.str (tw [k]))) fun x hx => h x (List.mem_cons_of_mem _ hx)
    refine ⟨y3, ?_⟩
    have e1 : woB [.val (tI fm), x1, .val (.int a), .val (.str (tw [k]))] st = some (.nx [.val (tI fm), x1, .val (.int (a + fm.getD k 0)), .val (.str (tw [k]))], st) := by
      have c1 : (opM subD (rd 0) (m1M sindexM (cst (.str "abcd")) (rd 3))) [.val (tI fm), x1, .val (.int a), .val (.str (tw [k]))] st = some (.int (fm.getD k 0), st) := by
        have c2 : (m1M sindexM (cst (.str "abcd")) (rd 3)) [.val (tI fm), x1, .val (.int a), .val (.str (tw [k]))] st = some (nD k, st) := by
          rw [v_m1M, v_cst, Option.bind_some]
          show ((sindexM (.str "abcd") [.str (tw [k])]).map _ : Option (D × S)) = _
          rw [idx_tw (by omega)]; rfl
        rw [v_opM]
        show (((m1M sindexM (cst (.str "abcd")) (rd 3)) [.val (tI fm), x1, .val (.int a), .val (.str (tw [k]))] st).bind _) = _
        rw [c2, Option.bind_some]
        show ((ixM (.tup (fm.map D.int)) (nD k)).map _ : Option (D × S)) = _
        rw [v_ixT, form_at hk]; rfl
      unfold woB
      refine asg_nx ?_
      rw [v_opM]
      show (((opM subD (rd 0) (m1M sindexM (cst (.str "abcd")) (rd 3))) [.val (tI fm), x1, .val (.int a), .val (.str (tw [k]))] st).bind _) = _
      rw [c1, Option.bind_some]; rfl
    rw [wo_cons, ← Int.add_assoc]
    exact forL_cons_of (e1 := [.val (tI fm), x1, .val (.int a), .val (.str (tw [k]))]) rfl e1 e
theorem worth_ok {fm : List Int} (hf : fm.length ≤ 4) {w : List Nat} (h : ∀ k ∈ w, k < fm.length) (st : S) : m__law_worth [tI fm, .str (tw w)] st = some (.int (wo fm w), st) := by
  obtain ⟨y3, e⟩ := wo_loop hf (.val (.str (tw w))) st w 0 .un h
  rw [Int.zero_add] at e
  refine run_of (b := b__law_worth) ?_
  show seqM (asgM (nameT 2) (cst (.int 0))) (seqM (forM (seqI (rd 1)) (nameT 3) woB) (retM (rd 2))) [.val (tI fm), .val (.str (tw w)), .un, .un] st = _
  refine (seq_nx (e := [.val (tI fm), .val (.str (tw w)), .val (.int 0), .un]) rfl).trans ?_
  exact (seq_nx (forM_of (ds := twD w) (seqI_tw rfl) e)).trans rfl
theorem sub_at {f g : ME} {env : Sg} {st s1 s2 : S} {ds : List D} {i : Int} {d : D} (hf : f env st = some (.tup ds, s1)) (hg : g env s1 = some (.int i, s2)) (h : atI ds i = some d) : opM subD f g env st = some (d, s2) := by
  rw [v_opM, hf, Option.bind_some, hg, Option.bind_some]
  simp only [dr_tup, dr_int, v_subT, v_ixT, h, Option.map_some]
theorem pworth_ok {fm : List Int} (hf : fm.length ≤ 4) {w : List Nat} (h : ∀ k ∈ w, k < fm.length) (hl : w.length ≤ 100000) (st : S) : m_worth [tI fm, .str (tw w)] st = some (.int (wo fm w), st) := by
  have hbb : b_worth = (retM (cbM sumM (aCons (frz (compM (seqI (rd 1)) (nameT 2) yesM (opM subD (rd 0) (m1M sindexM (cst (.str "abcd")) (rd 2))) [2])) aNil))) := rfl
  have hc : ∀ v : List Nat, (∀ k ∈ v, k < fm.length) → compL (nameT 2) yesM (opM subD (rd 0) (m1M sindexM (cst (.str "abcd")) (rd 2))) [.val (tI fm), .val (.str (tw w)), .un] (twD v) st = some ((v.map fun k => fm.getD k 0).map D.int, st) := by
    intro v
    induction v with
    | nil => intro _; rfl
    | cons k v ih =>
      intro hv
      have hk := hv k List.mem_cons_self
      have c2 : (m1M sindexM (cst (.str "abcd")) (rd 2)) [.val (tI fm), .val (.str (tw w)), .val (.str (tw [k]))] st = some (nD k, st) := by
        rw [v_m1M, v_cst, Option.bind_some]
        show ((sindexM (.str "abcd") [.str (tw [k])]).map _ : Option (D × S)) = _
        rw [idx_tw (by omega)]; rfl
      have c1 : (opM subD (rd 0) (m1M sindexM (cst (.str "abcd")) (rd 2))) [.val (tI fm), .val (.str (tw w)), .val (.str (tw [k]))] st = some (.int (fm.getD k 0), st) := sub_at (s1 := st) rfl c2 (form_at hk)
      rw [show twD (k :: v) = .str (tw [k]) :: twD v from rfl, v_compL, v_nameT, Option.bind_some, v_yesM, Option.bind_some, if_pos rfl]
      show ((opM subD (rd 0) (m1M sindexM (cst (.str "abcd")) (rd 2)) [.val (tI fm), .val (.str (tw w)), .val (.str (tw [k]))] st).bind _) = _
      rw [c1, Option.bind_some]
      show (compL _ _ _ _ _ st).map _ = _
      rw [ih fun x hx => hv x (List.mem_cons_of_mem _ hx)]; rfl
  refine run_of (b := b_worth) ?_
  rw [hbb]
  show retM _ [.val (tI fm), .val (.str (tw w)), .un] st = _
  refine ret_of ?_
  have ef : frz (compM (seqI (rd 1)) (nameT 2) yesM (opM subD (rd 0) (m1M sindexM (cst (.str "abcd")) (rd 2))) [2]) [.val (tI fm), .val (.str (tw w)), .un] st = some (.lst ((w.map fun k => fm.getD k 0).map D.int), st) := by
    rw [v_frz, v_compM, seqI_tw (f := rd 1) (w := w) rfl, Option.bind_some, grd_of (by rw [List.length_map]; omega)]
    show (compL _ _ _ [.val (tI fm), .val (.str (tw w)), .un] (twD w) st).map _ = _
    rw [hc w h]; rfl
  rw [v_cbM, cons_of ef v_aNil, Option.bind_some]
  show ((sumM [.lst ((w.map fun k => fm.getD k 0).map D.int)]).map _ : Option (D × S)) = _
  rw [v_sumM, intsOf_map]
  rfl
theorem sh_ints {fm : List Int} (hb : ∀ x ∈ fm, x.natAbs ≤ 1000) (hl : fm.length ≤ 4) : Sh (tI fm) 1 4 := by
  have h : Shs (fm.map D.int) 0 ((fm.map D.int).length * (0 + 1)) := Shs.all fun d hd => by
    obtain ⟨x, hx, rfl⟩ := List.mem_map.mp hd
    exact Sh.int (Nat.lt_of_le_of_lt (hb x hx) (by decide))
  refine (Sh.tup h).mono (Nat.le_refl _) ?_
  rw [List.length_map]
  omega
/-! ### rings of two rounds -/
def kdR (k : Nat) : Kd := ⟨k, (List.range k).map fun i => (List.range k).map fun j => if j = i then some ((i + 1) % k) else none, true :: List.replicate (k - 1) false⟩
theorem kdR_ok {k : Nat} (h0 : 1 ≤ k) (h : k ≤ 4) : (kdR k).Ok := by
  have hl : (kdR k).rows.length = k := by simp [kdR]
  refine ⟨h0, h, by rw [hl]; exact h0, by rw [hl]; omega, by rw [hl]; simp [kdR]; omega, fun r hr => ?_, fun r hr s hs => ?_⟩
  · obtain ⟨i, _, rfl⟩ := List.mem_map.mp hr
    simp [kdR]
  · obtain ⟨i, _, rfl⟩ := List.mem_map.mp hr
    obtain ⟨j, _, hj⟩ := List.mem_map.mp hs
    rw [hl]
    split at hj
    · cases hj
      exact Nat.mod_lt _ (by omega)
    · cases hj
noncomputable def roE : ME := (ifM (tstM (opM eqM (rd 4) (rd 3))) (opM modM (opM addM (rd 3) (cst (.int 1))) (rd 1)) (cst .non))
theorem ro_comp {k : Nat} (h0 : 1 ≤ k) (i : Nat) (x0 x2 : Sl) (st : S) : ∀ js : List Nat, compL (nameT 4) yesM roE [x0, .val (nD k), x2, .val (nD i), .un] (tN js) st = some (js.map (fun j => optD (if j = i then some ((i + 1) % k) else none)), st)
  | [] => rfl
  | j :: js => by
    have ih := ro_comp h0 i x0 x2 st js
    have e1 : roE [x0, .val (nD k), x2, .val (nD i), .val (nD j)] st = some (optD (if j = i then some ((i + 1) % k) else none), st) := by
      have et : tstM (opM eqM (rd 4) (rd 3)) [x0, .val (nD k), x2, .val (nD i), .val (nD j)] st = some (decide (j = i), st) := by
        show some (decide (((j : Nat) : Int) = ((i : Nat) : Int)), st) = _
        congr 2
        exact decide_eq_decide.mpr ⟨fun z => by omega, fun z => by omega⟩
      unfold roE
      rw [v_ifM, et, Option.bind_some]
      by_cases h : j = i
      · rw [decide_eq_true h, if_pos h, if_pos rfl]
        have hm : modM (.int (((i : Nat) : Int) + 1)) (.int ((k : Nat) : Int)) = some (.int ((((i + 1) % k : Nat)) : Int)) := by
          exact (v_iIC0 (C := fun _ j => 0 < j) (g := fun i j => D.int (i % j)) (show (0 : Int) < ((k : Nat) : Int) by omega)).trans rfl
        show ((modM (.int (((i : Nat) : Int) + 1)) (.int ((k : Nat) : Int))).map _ : Option (D × S)) = _
        rw [hm]; rfl
      · rw [decide_eq_false h, if_neg h]; rfl
    rw [show tN (j :: js) = nD j :: tN js from rfl, v_compL, v_nameT, Option.bind_some, v_yesM, Option.bind_some, if_pos rfl]
    show ((roE [x0, .val (nD k), x2, .val (nD i), .val (nD j)] st).bind _) = _
    rw [e1, Option.bind_some]
    show (compL _ _ _ [x0, .val (nD k), x2, .val (nD i), .un] (tN js) st).map _ = _
    rw [ih]; rfl
noncomputable def roB : MS := (appM 2 (cbM tupleM (aCons (frz (compM (r1M (aCons (rd 1) aNil)) (nameT 4) yesM roE [4])) aNil)))
theorem ro_for {k : Nat} (h0 : 1 ≤ k) (hk : k ≤ 4) (x0 : Sl) (st : S) : ∀ (is : List Nat) (acc : List D) (x3 : Sl), acc.length + is.length ≤ 100 → ∃ y3, forL (nameT 3) roB (tN is) [x0, .val (nD k), .own (.lst, acc), x3, .un] st = some (.nx [x0, .val (nD k), .own (.lst, acc ++ is.map fun i => rowD ((List.range k).map fun j => if j = i then some ((i + 1) % k) else none)), y3, .un], st)
  | [], acc, x3, _ => ⟨x3, by rw [List.map_nil, List.append_nil]; rfl⟩
  | i :: is, acc, x3, hl => by
    rw [List.length_cons] at hl
    obtain ⟨y3, ih⟩ := ro_for h0 hk x0 st is (acc ++ [rowD ((List.range k).map fun j => if j = i then some ((i + 1) % k) else none)]) (.val (nD i)) (by simp; omega)
    refine ⟨y3, ?_⟩
    have ec : cbM tupleM (aCons (frz (compM (r1M (aCons (rd 1) aNil)) (nameT 4) yesM roE [4])) aNil) [x0, .val (nD k), .own (.lst, acc), .val (nD i), .un] st = some (rowD ((List.range k).map fun j => if j = i then some ((i + 1) % k) else none), st) := by
      have er : r1M (aCons (rd 1) aNil) [x0, .val (nD k), .own (.lst, acc), .val (nD i), .un] st = some (tN (List.range k), st) := r1_of (by omega) (cons_of rfl v_aNil)
      have e1 : frz (compM (r1M (aCons (rd 1) aNil)) (nameT 4) yesM roE [4]) [x0, .val (nD k), .own (.lst, acc), .val (nD i), .un] st = some (.lst ((List.range k).map fun j => optD (if j = i then some ((i + 1) % k) else none)), st) := by
        rw [v_frz, v_compM, er, Option.bind_some, grd_of (by simp; omega)]
        show ((compL _ _ _ [x0, .val (nD k), .own (.lst, acc), .val (nD i), .un] (tN (List.range k)) st).map _) = _
        rw [ro_comp h0]; rfl
      rw [v_cbM, cons_of e1 v_aNil, Option.bind_some]
      show some (D.tup ((List.range k).map fun j => optD (if j = i then some ((i + 1) % k) else none)), st) = _
      show _ = some (D.tup (((List.range k).map fun j => if j = i then some ((i + 1) % k) else none).map optD), st)
      rw [List.map_map]; rfl
    have eB : roB [x0, .val (nD k), .own (.lst, acc), .val (nD i), .un] st = some (.nx [x0, .val (nD k), .own (.lst, acc ++ [rowD ((List.range k).map fun j => if j = i then some ((i + 1) % k) else none)]), .val (nD i), .un], st) := by
      unfold roB
      rw [v_appM]
      show grd (acc.length + 1) _ = _
      rw [grd_of (by omega), ec]; rfl
    refine forL_cons_of (e1 := [x0, .val (nD k), .own (.lst, acc), .val (nD i), .un]) rfl eB ?_
    simp only [List.append_assoc, List.singleton_append] at ih
    exact ih
theorem mul_one (x : D) (m : Nat) (h : m ≤ 1000) : mulA (.tup [x]) (.int ((m : Nat) : Int)) = some (.tup (List.replicate m x)) := by
  show (if [x].length ≤ 1000 ∧ (-1000 : Int) ≤ ((m : Nat) : Int) ∧ ((m : Nat) : Int) ≤ 1000 then some (D.tup (List.replicate ((m : Nat) : Int).toNat [x]).flatten) else none) = _
  rw [if_pos ⟨by simp, by omega, by omega⟩, Int.toNat_natCast]
  congr 2
  clear h
  induction m with
  | zero => rfl
  | succ n ih => rw [List.replicate_succ, List.replicate_succ, List.flatten_cons, ih]; rfl
theorem rounds_ok {k : Nat} (h0 : 1 ≤ k) (hk : k ≤ 4) (st : S) : m__law_rounds [.deck, nD k] st = some (tK (kdR k), st) := by
  obtain ⟨y3, e⟩ := ro_for h0 hk (.val .deck) st (List.range k) [] .un (by simp; omega)
  rw [List.nil_append] at e
  have hb : b__law_rounds = seqM (ownM 2 (lstM aNil)) (seqM (forM (r1M (aCons (rd 1) aNil)) (nameT 3) roB) (retM (tupM (aCons (rd 1) (aCons (cbM tupleM (aCons (rdW 2) aNil)) (aCons (opM addM (tupM (aCons (cst (.bl true)) aNil)) (opM mulA (tupM (aCons (cst (.bl false)) aNil)) (opM subM (rd 1) (cst (.int 1))))) aNil)))))) := rfl
  refine run_of ?_
  rw [hb]
  refine (seq_nx (e := [.val .deck, .val (nD k), .own (.lst, []), .un, .un]) (s1 := st) (own_nx (by rw [v_lstM, v_aNil, Option.bind_some, grd_of (by simp)]))).trans ?_
  refine (seq_nx (forM_of (ds := tN (List.range k)) (r1_of (by omega) (cons_of rfl v_aNil)) e)).trans (ret_of ?_)
  generalize hR : ((List.range k).map fun i => rowD ((List.range k).map fun j => if j = i then some ((i + 1) % k) else none)) = R
  have c1 : cbM tupleM (aCons (rdW 2) aNil) [.val .deck, .val (nD k), .own (.lst, R), y3, .un] st = some (.tup R, st) := rfl
  have c2 : opM subM (rd 1) (cst (.int 1)) [.val .deck, .val (nD k), .own (.lst, R), y3, .un] st = some (nD (k - 1), st) := by
    show some (D.int (((k : Nat) : Int) - 1), st) = _
    rw [show ((k : Nat) : Int) - 1 = ((k - 1 : Nat) : Int) by omega]
  have c3 : opM mulA (tupM (aCons (cst (.bl false)) aNil)) (opM subM (rd 1) (cst (.int 1))) [.val .deck, .val (nD k), .own (.lst, R), y3, .un] st = some (.tup (List.replicate (k - 1) (.bl false)), st) := by
    rw [v_opM, tup1 v_cst, Option.bind_some, c2, Option.bind_some]
    show ((mulA (.tup [.bl false]) (.int (((k - 1 : Nat)) : Int))).map _ : Option (D × S)) = _
    rw [mul_one _ _ (by omega)]; rfl
  have c4 := add_tup (tup1 (f := cst (.bl true)) v_cst) c3 (by simp; omega)
  have hrows : (kdR k).rows.map rowD = R := by
    rw [← hR]
    show List.map rowD ((List.range k).map _) = _
    rw [List.map_map]; rfl
  have hends : (kdR k).ends.map D.bl = [.bl true] ++ List.replicate (k - 1) (.bl false) := by
    show (true :: List.replicate (k - 1) false).map D.bl = _
    rw [List.map_cons, List.map_replicate]; rfl
  rw [v_tupM, cons_of (d := nD k) (s1 := st) rfl (cons_of c1 (cons_of c4 v_aNil)), Option.bind_some, grd_of (by simp)]
  show some (D.tup [nD k, .tup R, .tup ([.bl true] ++ List.replicate (k - 1) (.bl false))], st) = some (D.tup [nD k, .tup ((kdR k).rows.map rowD), .tup ((kdR k).ends.map D.bl)], st)
  rw [hrows, hends]
end Lw

set_option Elab.async false
set_option linter.all false
set_option maxRecDepth 100000
set_option maxHeartbeats 2000000
namespace Lw
open PySem MD L2
/-! ### both ways round -/
theorem gsub_neg : ∀ (fm fo : List Int) (k : Nat), (gsub fo fm).getD k 0 = -(gsub fm fo).getD k 0
  | [], [], k => by simp [gsub]
  | [], y :: fo, k => by simp [gsub]
  | x :: fm, [], k => by simp [gsub]
  | x :: fm, y :: fo, 0 => by show y - x = -(x - y); omega
  | x :: fm, y :: fo, k + 1 => gsub_neg fm fo k
theorem wo_neg (fm fo : List Int) : ∀ w : List Nat, wo (gsub fo fm) w = -wo (gsub fm fo) w
  | [] => rfl
  | k :: w => by rw [wo_cons, wo_cons, wo_neg fm fo w, gsub_neg fm fo k]; omega
theorem wrong_neg {kd : Kd} (fm fo : List Int) {w : List Nat} (h : WrongU kd (gsub fo fm) w) : WrongU kd (gsub fm fo) w := by
  obtain ⟨s, h1, h2, h3⟩ := h
  refine ⟨s, h1, h2, fun z => h3 ?_⟩
  rw [gw_wo] at z ⊢
  rw [wo_neg, z]; rfl
theorem Res.neg {kd : Kd} {fm fo : List Int} {r : D} (h : Res kd (gsub fo fm) r) : Res kd (gsub fm fo) r := by
  rcases h with ⟨h1, h2⟩ | ⟨w, h1, h2, h3⟩
  · exact .inl ⟨h1, fun w hw => h2 w (wrong_neg fo fm hw)⟩
  · exact .inr ⟨w, h1, ⟨wrong_neg fm fo h2.1, fun u hu => h2.2 u (wrong_neg fo fm hu)⟩, h3⟩
theorem Res.sh {kd : Kd} (ok : kd.Ok) {gs : List Int} {r : D} (h : Res kd gs r) : Sh r 0 100 := by
  rcases h with ⟨rfl, _⟩ | ⟨w, rfl, ⟨⟨s, h1, _, _⟩, _⟩, h3⟩
  · exact Sh.non.mono (Nat.le_refl _) (by decide)
  · rw [wk_wU] at h1
    have hm := ok.m8
    have hk4 := ok.k4
    exact sh_tw (fun k hk => by have := wU_let ok w 0 s ok.m0 h1 k hk; omega) (by omega)
theorem Res.dr {kd : Kd} {gs : List Int} {r : D} (h : Res kd gs r) (s : S) : dr s r = r := by
  rcases h with ⟨rfl, _⟩ | ⟨w, rfl, _⟩ <;> rfl
noncomputable def vI : MS := (seqM (asgM (nameT 14) (callM m__law_first_unlike (aCons (rd 12) (aCons (rd 6) (aCons (rd 13) aNil)))))
 (ifS (tstM (opM neM (cbM reprM (aCons (frz (lstM (aCons (callM m_unlike (aCons (rd 12) (aCons (rd 6) (aCons (rd 13) aNil)))) (aCons (callM m_unlike (aCons (rd 12) (aCons (rd 13) (aCons (rd 6) aNil)))) aNil)))) aNil)) (cbM reprM (aCons (frz (lstM (aCons (rd 14) (aCons (rd 14) aNil)))) aNil))))
 (retM (cst (.bl false)))
 nxM))
theorem vI_ok {kd : Kd} (ok : kd.Ok) {fm fo : List Int} (hf : fm.length = kd.k) (ho : fo.length = kd.k) (st : S) (x0 x1 x2 x3 x4 x5 x7 x8 x9 x10 x11 x14 x15 x16 : Sl) : ∃ y14 s1, vI [x0, x1, x2, x3, x4, x5, .val (tI fm), x7, x8, x9, x10, x11, .val (tK kd), .val (tI fo), x14, x15, x16] st = some (.nx [x0, x1, x2, x3, x4, x5, .val (tI fm), x7, x8, x9, x10, x11, .val (tK kd), .val (tI fo), y14, x15, x16], s1) ∧ s1.n = st.n := by
  obtain ⟨r, s1, e1, n1, h1⟩ := first_ok ok hf ho st
  obtain ⟨r2, s2, e2, n2, h2⟩ := unlike_ok ok hf ho s1
  obtain ⟨r3, s3, e3, n3, h3⟩ := unlike_ok ok ho hf s2
  have q2 := h2.uniq h1
  have q3 := h3.neg.uniq h1
  subst q2 q3
  refine ⟨.val r3, s3, ?_, by omega⟩
  unfold vI
  refine (seq_nx (e := [x0, x1, x2, x3, x4, x5, .val (tI fm), x7, x8, x9, x10, x11, .val (tK kd), .val (tI fo), .val r3, x15, x16]) (asg_nx (call_of (ds := [tK kd, tI fm, tI fo]) (s1 := st) rfl e1))).trans ?_
  have hs : Sh (.lst [r3, r3]) 1 1000 := (Sh.lst (.cons (h1.sh ok) (.cons (h1.sh ok) .nil))).mono (by decide) (by decide)
  have hr := repr_sh hs (by decide) (by decide)
  have hL : ∀ (f g : ME) (env : Sg) (s s' s'' : S), f env s = some (r3, s') → g env s' = some (r3, s'') → cbM reprM (aCons (frz (lstM (aCons f (aCons g aNil)))) aNil) env s = some (.str (D.lst [r3, r3]).py.shown, s'') := fun f g env s s' s'' hf hg => repr_of (d := .lst [r3, r3]) (lst_of (cons_of hf (cons_of hg v_aNil)) (by simp)) rfl hr
  refine ifs_f (s1 := s3) (ne_same (hL _ _ _ s1 s2 s3 (call_of (ds := [tK kd, tI fm, tI fo]) (s1 := s1) rfl e2) (call_of (ds := [tK kd, tI fo, tI fm]) (s1 := s2) rfl e3)) (hL _ _ _ s3 s3 s3 rfl rfl)) rfl
theorem vI_for {kd : Kd} (ok : kd.Ok) {fm : List Int} (hf : fm.length = kd.k) (x0 x1 x2 x3 x4 x5 x7 x8 x9 x10 x11 x15 x16 : Sl) : ∀ (fs : List (List Int)) (st : S) (x13 x14 : Sl), (∀ f ∈ fs, f.length = kd.k) → ∃ y13 y14 s1, forL (nameT 13) vI (fs.map tI) [x0, x1, x2, x3, x4, x5, .val (tI fm), x7, x8, x9, x10, x11, .val (tK kd), x13, x14, x15, x16] st = some (.nx [x0, x1, x2, x3, x4, x5, .val (tI fm), x7, x8, x9, x10, x11, .val (tK kd), y13, y14, x15, x16], s1) ∧ s1.n = st.n
  | [], st, x13, x14, _ => ⟨x13, x14, st, rfl, rfl⟩
  | f :: fs, st, x13, x14, h => by
    obtain ⟨y14, s1, e1, n1⟩ := vI_ok ok hf (h f List.mem_cons_self) st x0 x1 x2 x3 x4 x5 x7 x8 x9 x10 x11 x14 x15 x16
    obtain ⟨z13, z14, s2, e2, n2⟩ := vI_for ok hf x0 x1 x2 x3 x4 x5 x7 x8 x9 x10 x11 x15 x16 fs s1 (.val (tI f)) y14 fun x hx => h x (List.mem_cons_of_mem _ hx)
    exact ⟨z13, z14, s2, forL_cons_of (e1 := [x0, x1, x2, x3, x4, x5, .val (tI fm), x7, x8, x9, x10, x11, .val (tK kd), .val (tI f), x14, x15, x16]) rfl e1 e2, n2.trans n1⟩
noncomputable def vF : ME := (frz (lstM (aCons (rd 7) (aCons (rd 6) (aCons (rd 10) (aCons (revT (rd 6)) (aCons (opM addM (slM slAny (rd 6) (prt (cst (.int 1))) noP) (slM slAny (rd 6) noP (prt (cst (.int 1))))) aNil)))))))
noncomputable def vK : MS := forM (seqI vF) (nameT 13) vI
theorem vF_ok {fm fo fn : List Int} (hl : fm.length ≤ 4) (st : S) (x0 x1 x2 x3 x4 x5 x8 x9 x11 x12 x13 x14 x15 x16 : Sl) : vF [x0, x1, x2, x3, x4, x5, .val (tI fm), .val (tI fo), x8, x9, .val (tI fn), x11, x12, x13, x14, x15, x16] st = some (.lst ([fo, fm, fn, fm.reverse, fm.drop 1 ++ fm.take 1].map tI), st) := by
  have q6 : rd 6 [x0, x1, x2, x3, x4, x5, .val (tI fm), .val (tI fo), x8, x9, .val (tI fn), x11, x12, x13, x14, x15, x16] st = some (tI fm, st) := rfl
  have f4 : revT (rd 6) [x0, x1, x2, x3, x4, x5, .val (tI fm), .val (tI fo), x8, x9, .val (tI fn), x11, x12, x13, x14, x15, x16] st = some (tI fm.reverse, st) := by
    unfold revT
    rw [q6]
    show some (D.tup (fm.map D.int).reverse, st) = _
    rw [← List.map_reverse]
  have f5 := add_tup (slt_fr (n := 1) q6 (g := cst (.int 1)) (s2 := st) v_cst) (slt_to (n := 1) q6 (g := cst (.int 1)) (s2 := st) v_cst) (by simp; omega)
  rw [← List.map_drop, ← List.map_take, ← List.map_append] at f5
  unfold vF
  exact lst_of (cons_of rfl (cons_of q6 (cons_of rfl (cons_of f4 (cons_of f5 v_aNil))))) (by simp)
theorem vK_for {k : Nat} (hk : k ≤ 4) {fm fo fn : List Int} (hf : fm.length = k) (ho : fo.length = k) (hn : fn.length = k) (x0 x1 x2 x3 x4 x5 x8 x9 x11 x15 x16 : Sl) : ∀ (kds : List Kd) (st : S) (x12 x13 x14 : Sl), (∀ kd ∈ kds, kd.Ok ∧ kd.k = k) → ∃ y12 y13 y14 s1, forL (nameT 12) vK (kds.map tK) [x0, x1, x2, x3, x4, x5, .val (tI fm), .val (tI fo), x8, x9, .val (tI fn), x11, x12, x13, x14, x15, x16] st = some (.nx [x0, x1, x2, x3, x4, x5, .val (tI fm), .val (tI fo), x8, x9, .val (tI fn), x11, y12, y13, y14, x15, x16], s1) ∧ s1.n = st.n
  | [], st, x12, x13, x14, _ => ⟨x12, x13, x14, st, rfl, rfl⟩
  | kd :: kds, st, x12, x13, x14, h => by
    obtain ⟨ok, hkk⟩ := h kd List.mem_cons_self
    obtain ⟨y13, y14, s1, e1, n1⟩ := vI_for ok (fm := fm) (by omega) x0 x1 x2 x3 x4 x5 (.val (tI fo)) x8 x9 (.val (tI fn)) x11 x15 x16 [fo, fm, fn, fm.reverse, fm.drop 1 ++ fm.take 1] st x13 x14 (fun f hm => by
      simp only [List.mem_cons, List.mem_nil_iff, or_false] at hm
      rcases hm with rfl | rfl | rfl | rfl | rfl
      · omega
      · omega
      · omega
      · rw [List.length_reverse]; omega
      · simp only [List.length_append, List.length_drop, List.length_take]; omega)
    obtain ⟨z12, z13, z14, s2, e2, n2⟩ := vK_for hk hf ho hn x0 x1 x2 x3 x4 x5 x8 x9 x11 x15 x16 kds s1 (.val (tK kd)) y13 y14 fun x hx => h x (List.mem_cons_of_mem _ hx)
    refine ⟨z12, z13, z14, s2, forL_cons_of (e1 := [x0, x1, x2, x3, x4, x5, .val (tI fm), .val (tI fo), x8, x9, .val (tI fn), x11, .val (tK kd), x13, x14, x15, x16]) rfl ?_ e2, n2.trans n1⟩
    unfold vK
    exact forM_of (ds := [fo, fm, fn, fm.reverse, fm.drop 1 ++ fm.take 1].map tI) (by rw [v_seqI, vF_ok (by omega)]; rfl) e1
/-! ### words -/
noncomputable def vW : MS := (seqM (asgM (nameT 16) (callM m__law_word (aCons (rd 1) (aCons (rd 3) (aCons (ifM (tstM (opM eqM (rd 15) (cst (.int 0)))) (cst (.int 400)) (cst (.int 9))) aNil)))))
 (ifS (tstM (opM neM (cbM reprM (aCons (callM m_worth (aCons (rd 6) (aCons (rd 16) aNil))) aNil)) (cbM reprM (aCons (callM m__law_worth (aCons (rd 6) (aCons (rd 16) aNil))) aNil))))
 (retM (cst (.bl false)))
 nxM))
theorem tw_of {k : Nat} {ws : List Nat} (h : Lets k ws) : ∃ w : List Nat, W ws = tw w ∧ (∀ c ∈ w, c < k) ∧ w.length = ws.length := by
  refine ⟨ws.map fun c => c - 97, ?_, fun c hc => ?_, by rw [List.length_map]⟩
  · unfold tw
    rw [List.map_map]
    congr 1
    refine (List.map_id' ws).symm.trans (List.map_congr_left fun c hc => ?_)
    have := h c hc
    unfold Let at this
    show c = 97 + (c - 97)
    omega
  · obtain ⟨c', hc', rfl⟩ := List.mem_map.mp hc
    have := h c' hc'
    unfold Let at this
    omega
theorem wo_abs {fm : List Int} (hb : ∀ x ∈ fm, x.natAbs ≤ 1000) : ∀ w : List Nat, (wo fm w).natAbs ≤ 1000 * w.length
  | [] => by rw [wo_nil]; decide
  | k :: w => by
    have := wo_abs hb w
    have h2 : (fm.getD k 0).natAbs ≤ 1000 := by
      rw [List.getD_eq_getElem?_getD]
      cases e : fm[k]? with
      | none => show (0 : Int).natAbs ≤ 1000; decide
      | some v => exact hb v (List.mem_of_getElem? e)
    rw [wo_cons, List.length_cons]
    omega
theorem repr_wo {fm : List Int} (hb : ∀ x ∈ fm, x.natAbs ≤ 1000) {w : List Nat} (hl : w.length ≤ 1000) : reprM [.int (wo fm w)] = some (shw (.int (wo fm w))) := by
  have := wo_abs hb w
  exact repr_sh (Sh.int (by have : (1000000 : Nat) < 10 ^ 39 := by decide
                            omega)) (by decide) (by decide)
theorem vW_yes {k : Nat} (hk0 : 1 ≤ k) (hk : k ≤ 4) {fm : List Int} (hf : fm.length = k) (hb : ∀ x ∈ fm, x.natAbs ≤ 1000) (j : Nat) (x0 x2 x4 x5 x7 x8 x9 x10 x11 x12 x13 x14 x16 : Sl) : Yes 401 (vW [x0, .val .deck, x2, .val (nD k), x4, x5, .val (tI fm), x7, x8, x9, x10, x11, x12, x13, x14, .val (nD j), x16]) fun fl => ∃ y16, fl = .nx [x0, .val .deck, x2, .val (nD k), x4, x5, .val (tI fm), x7, x8, x9, x10, x11, x12, x13, x14, .val (nD j), y16] := by
  intro st z0 hn
  obtain ⟨n, hn4, hi⟩ : ∃ n : Nat, n ≤ 400 ∧ (ifM (tstM (opM eqM (rd 15) (cst (.int 0)))) (cst (.int 400)) (cst (.int 9))) [x0, .val .deck, x2, .val (nD k), x4, x5, .val (tI fm), x7, x8, x9, x10, x11, x12, x13, x14, .val (nD j), x16] st = some (nD n, st) := by
    have et : tstM (opM eqM (rd 15) (cst (.int 0))) [x0, .val .deck, x2, .val (nD k), x4, x5, .val (tI fm), x7, x8, x9, x10, x11, x12, x13, x14, .val (nD j), x16] st = some (decide (((j : Nat) : Int) = 0), st) := rfl
    rw [v_ifM, et, Option.bind_some]
    by_cases h : ((j : Nat) : Int) = 0
    · exact ⟨400, by decide, by rw [decide_eq_true h]; rfl⟩
    · exact ⟨9, by decide, by rw [decide_eq_false h]; rfl⟩
  obtain ⟨_, s1, e1, ⟨ws, rfl, hws, hwl⟩, l1, l2⟩ := word_yes dcD hk0 hk (n := n) (by omega) st z0 (by omega)
  obtain ⟨w, hw, hwk, hwl2⟩ := tw_of hws
  rw [hw] at e1
  have p1 := pworth_ok (fm := fm) (by omega) (w := w) (fun c hc => by have := hwk c hc; omega) (by omega) s1
  have p2 := worth_ok (fm := fm) (by omega) (w := w) (fun c hc => by have := hwk c hc; omega) s1
  have hr := repr_wo hb (w := w) (by omega)
  refine ⟨_, s1, ?_, ⟨.val (.str (tw w)), rfl⟩, by omega, by omega⟩
  unfold vW
  refine (seq_nx (e := [x0, .val .deck, x2, .val (nD k), x4, x5, .val (tI fm), x7, x8, x9, x10, x11, x12, x13, x14, .val (nD j), .val (.str (tw w))]) (asg_nx (call_of (m := m__law_word) (ds := [.deck, nD k, nD n]) (s1 := st) (cons_of rfl (cons_of rfl (cons_of hi v_aNil))) e1))).trans ?_
  exact ifs_f (s1 := s1) (ne_same (repr_of (call_of (ds := [tI fm, .str (tw w)]) (s1 := s1) rfl p1) rfl hr) (repr_of (call_of (ds := [tI fm, .str (tw w)]) (s1 := s1) rfl p2) rfl hr)) rfl
theorem vW_for {k : Nat} (hk0 : 1 ≤ k) (hk : k ≤ 4) {fm : List Int} (hf : fm.length = k) (hb : ∀ x ∈ fm, x.natAbs ≤ 1000) (x0 x2 x4 x5 x7 x8 x9 x10 x11 x12 x13 x14 : Sl) : ∀ (js : List Nat) (x15 x16 : Sl), Yes (401 * js.length) (forL (nameT 15) vW (tN js) [x0, .val .deck, x2, .val (nD k), x4, x5, .val (tI fm), x7, x8, x9, x10, x11, x12, x13, x14, x15, x16]) fun fl => ∃ y15 y16, fl = .nx [x0, .val .deck, x2, .val (nD k), x4, x5, .val (tI fm), x7, x8, x9, x10, x11, x12, x13, x14, y15, y16]
  | [], x15, x16 => fun st z0 hn => ⟨_, st, rfl, ⟨x15, x16, rfl⟩, Int.le_refl _, by omega⟩
  | j :: js, x15, x16 => fun st z0 hn => by
    rw [List.length_cons] at hn
    obtain ⟨_, s1, e1, ⟨y16, rfl⟩, l1, l2⟩ := vW_yes hk0 hk hf hb j x0 x2 x4 x5 x7 x8 x9 x10 x11 x12 x13 x14 x16 st z0 (by omega)
    obtain ⟨_, s2, e2, ⟨z15, z16, rfl⟩, l3, l4⟩ := vW_for hk0 hk hf hb x0 x2 x4 x5 x7 x8 x9 x10 x11 x12 x13 x14 js (.val (nD j)) y16 s1 (by omega) (by omega)
    exact ⟨_, s2, forL_cons_of (e1 := [x0, .val .deck, x2, .val (nD k), x4, x5, .val (tI fm), x7, x8, x9, x10, x11, x12, x13, x14, .val (nD j), x16]) rfl e1 e2, ⟨z15, z16, rfl⟩, by omega, by rw [List.length_cons]; omega⟩
end Lw

set_option Elab.async false
set_option linter.all false
set_option maxRecDepth 100000
set_option maxHeartbeats 2000000
namespace Lw
open PySem MD L2
noncomputable def qN (n : Int) : ME := opM addM (cst (.int 1)) (callM m__law_draw (aCons (rd 1) (aCons (cst (.int n)) aNil)))
theorem qN_yes {n : Nat} (h0 : 0 < n) (h1 : n ≤ 1000) (e : Sg) (h : e[1]? = some (.val .deck)) : Yes 1 (qN ((n : Nat) : Int) e) fun d => ∃ k : Nat, d = nD k ∧ 1 ≤ k ∧ k ≤ n := by
  intro st z0 hn
  obtain ⟨_, s1, e1, ⟨r, rfl, hr⟩, l1, l2⟩ := dcD.yes (m := n) h0 (by omega) st z0 hn
  refine ⟨nD (1 + r), s1, ?_, ⟨_, rfl, by omega, by omega⟩, l1, l2⟩
  have c1 : callM m__law_draw (aCons (rd 1) (aCons (cst (.int ((n : Nat) : Int))) aNil)) e st = some (.int ((r : Nat) : Int), s1) := call_of (ds := [.deck, .int ((n : Nat) : Int)]) (s1 := st) (by simp [h]) e1
  unfold qN
  generalize callM m__law_draw (aCons (rd 1) (aCons (cst (.int ((n : Nat) : Int))) aNil)) = C at c1
  simp [c1]
noncomputable def tNr : ME := (opM addM (opM addM (slM slAny (rd 6) noP (prt (rd 8))) (tupM (aCons (opM addM (opM subD (rd 6) (rd 8)) (rd 9)) aNil))) (slM slAny (rd 6) (prt (opM addM (rd 8) (cst (.int 1)))) noP))
noncomputable def tRp : ME := (cbM reprM (aCons (frz (lstM (aCons (rd 5) (aCons (rd 6) (aCons (rd 10) aNil))))) aNil))
noncomputable def tT : MS := (seqM (parM 3 4 (aCons (qN 4) (aCons (qN 8) aNil)))
 (seqM (asgM (nameT 5) (frz (lstM (aCons (callM m__law_kind (aCons (rd 1) (aCons (rd 3) (aCons (rd 4) aNil)))) (aCons (callM m__law_line (aCons (rd 1) (aCons (rd 3) (aCons (rd 4) aNil)))) (aCons (callM m__law_rounds (aCons (rd 1) (aCons (rd 3) aNil))) aNil))))))
 (seqM (par3M 6 7 8 (aCons (callM m__law_form (aCons (rd 1) (aCons (rd 3) aNil))) (aCons (callM m__law_form (aCons (rd 1) (aCons (rd 3) aNil))) (aCons (callM m__law_draw (aCons (rd 1) (aCons (rd 3) aNil))) aNil))))
 (seqM (asgM (nameT 9) (ifM (tstM (opM gtM (opM subD (rd 6) (rd 8)) (cst (.int 0)))) (unM (unI fun i => .int (-i)) (cst (.int 1))) (cst (.int 1))))
 (seqM (asgM (nameT 10) tNr)
 (seqM (asgM (nameT 11) tRp)
 (seqM (forM (seqI (rd 5)) (nameT 12) vK)
 (seqM (forM (r1M (aCons (cst (.int 4)) aNil)) (nameT 15) vW)
 (ifS (tstM (opM neM tRp (rd 11)))
 (retM (cst (.bl false)))
 nxM)))))))))
structure TI (i : Nat) (env : Sg) : Prop where
  ex : ∃ (x0 x2 x3 x4 x5 x6 x7 x8 x9 x10 x11 x12 x13 x14 x15 x16 : Sl), env = [x0, .val .deck, x2, x3, x4, x5, x6, x7, x8, x9, x10, x11, x12, x13, x14, x15, x16]
theorem near_ok {fm : List Int} {k a : Nat} (hk : k ≤ 4) (hf : fm.length = k) (ha : a < k) (v : Int) (st : S) (x0 x1 x2 x3 x4 x5 x7 x10 x11 x12 x13 x14 x15 x16 : Sl) : tNr [x0, x1, x2, x3, x4, x5, .val (tI fm), x7, .val (nD a), .val (.int v), x10, x11, x12, x13, x14, x15, x16] st = some (tI (fm.take a ++ [fm.getD a 0 + v] ++ fm.drop (a + 1)), st) := by
  have q6 : rd 6 [x0, x1, x2, x3, x4, x5, .val (tI fm), x7, .val (nD a), .val (.int v), x10, x11, x12, x13, x14, x15, x16] st = some (tI fm, st) := rfl
  have q8 : rd 8 [x0, x1, x2, x3, x4, x5, .val (tI fm), x7, .val (nD a), .val (.int v), x10, x11, x12, x13, x14, x15, x16] st = some (nD a, st) := rfl
  have g := form_at (fm := fm) (k := a) (by omega)
  have s1 := slt_to (n := a) q6 q8
  have s3 := slt_fr (n := a + 1) q6 (add1_of q8)
  have s2 : opM addM (opM subD (rd 6) (rd 8)) (rd 9) [x0, x1, x2, x3, x4, x5, .val (tI fm), x7, .val (nD a), .val (.int v), x10, x11, x12, x13, x14, x15, x16] st = some (.int (fm.getD a 0 + v), st) := by
    rw [v_opM, sub_at q6 q8 g]; rfl
  have h := add_tup (add_tup s1 (tup1 s2) (by simp; omega)) s3 (by simp; omega)
  rw [← List.map_take, ← List.map_drop] at h
  have e : List.map D.int (fm.take a) ++ [D.int (fm.getD a 0 + v)] ++ List.map D.int (fm.drop (a + 1)) = (fm.take a ++ [fm.getD a 0 + v] ++ fm.drop (a + 1)).map D.int := by simp
  rw [e] at h
  exact h
theorem tT_yes (d : D) (i : Nat) (hi : i ≤ 100) (env : Sg) (hI : TI i env) : ∃ e, nameT 2 d env = some e ∧ Yes 3000 (tT e) fun fl => ∃ e', fl = .nx e' ∧ TI (i + 1) e' := by
  obtain ⟨x0, x2, x3, x4, x5, x6, x7, x8, x9, x10, x11, x12, x13, x14, x15, x16, rfl⟩ := hI.ex
  refine ⟨[x0, .val .deck, .val d, x3, x4, x5, x6, x7, x8, x9, x10, x11, x12, x13, x14, x15, x16], rfl, ?_⟩
  intro st h0 hn
  obtain ⟨_, s1, e1, ⟨k, rfl, hk0, hk⟩, l1, l2⟩ := qN_yes (n := 4) (by decide) (by decide) [x0, .val .deck, .val d, x3, x4, x5, x6, x7, x8, x9, x10, x11, x12, x13, x14, x15, x16] rfl st h0 (by omega)
  obtain ⟨_, s2, e2, ⟨m, rfl, hm0, hm⟩, l3, l4⟩ := qN_yes (n := 8) (by decide) (by decide) [x0, .val .deck, .val d, x3, x4, x5, x6, x7, x8, x9, x10, x11, x12, x13, x14, x15, x16] rfl s1 (by omega) (by omega)
  obtain ⟨_, s4, e4, ⟨kd, rfl, ok, hkk, hkm⟩, l7, l8⟩ := kd_yes dcD hk0 hk hm0 (show m ≤ 9 by omega) s2 (by omega) (by omega)
  obtain ⟨_, s5, e5, ⟨kd', rfl, ok', hkk', hkm'⟩, l9, l10⟩ := ln_yes dcD hk0 hk hm0 (show m ≤ 9 by omega) s4 (by omega) (by omega)
  have er := rounds_ok hk0 hk s5
  have okr := kdR_ok hk0 hk
  obtain ⟨_, s6, e6, ⟨fm, rfl, hfl, hfb⟩, l5, l6⟩ := form_yes hk0 hk s5 (by omega) (by omega)
  obtain ⟨_, s7, e7, ⟨fo, rfl, hol, hob⟩, l5', l6'⟩ := form_yes hk0 hk s6 (by omega) (by omega)
  obtain ⟨_, s8, e8, ⟨a, rfl, ha⟩, la, la'⟩ := dcD.yes (m := k) (by omega) (by omega) s7 (by omega) (by omega)
  obtain ⟨v, hv, hvb⟩ : ∃ v : Int, v.natAbs ≤ 1 ∧ (ifM (tstM (opM gtM (opM subD (rd 6) (rd 8)) (cst (.int 0)))) (unM (unI fun i => .int (-i)) (cst (.int 1))) (cst (.int 1))) [x0, .val .deck, .val d, .val (nD k), .val (nD m), .val (.lst ([kd, kd', kdR k].map tK)), .val (tI fm), .val (tI fo), .val (nD a), x9, x10, x11, x12, x13, x14, x15, x16] s8 = some (.int v, s8) := by
    have et : tstM (opM gtM (opM subD (rd 6) (rd 8)) (cst (.int 0))) [x0, .val .deck, .val d, .val (nD k), .val (nD m), .val (.lst ([kd, kd', kdR k].map tK)), .val (tI fm), .val (tI fo), .val (nD a), x9, x10, x11, x12, x13, x14, x15, x16] s8 = some (decide (fm.getD a 0 > 0), s8) := by
      rw [v_tstM, v_opM, sub_at (ds := fm.map D.int) (s1 := s8) rfl rfl (form_at (fm := fm) (k := a) (by omega))]; rfl
    rw [v_ifM, et, Option.bind_some]
    by_cases h : fm.getD a 0 > 0
    · exact ⟨-1, by decide, by rw [decide_eq_true h]; rfl⟩
    · exact ⟨1, by decide, by rw [decide_eq_false h]; rfl⟩
  have hnr := near_ok hk hfl ha v s8 x0 (.val .deck) (.val d) (.val (nD k)) (.val (nD m)) (.val (.lst ([kd, kd', kdR k].map tK))) (.val (tI fo)) x10 x11 x12 x13 x14 x15 x16
  obtain ⟨fn, hfn⟩ : ∃ fn, fn = fm.take a ++ [fm.getD a 0 + v] ++ fm.drop (a + 1) := ⟨_, rfl⟩
  rw [← hfn] at hnr
  have hnl : fn.length = k := by rw [hfn]; simp only [List.length_append, List.length_take, List.length_drop, List.length_singleton]; omega
  have hnb : ∀ x ∈ fn, x.natAbs ≤ 1000 := by
    intro x hx
    rw [hfn] at hx
    have hga : (fm.getD a 0).natAbs ≤ 99 := by
      rw [List.getD_eq_getElem?_getD, List.getElem?_eq_getElem (by omega)]
      exact hfb _ (List.getElem_mem _)
    simp only [List.mem_append, List.mem_singleton] at hx
    rcases hx with (hx | rfl) | hx
    · have := hfb x (List.mem_of_mem_take hx); omega
    · omega
    · have := hfb x (List.mem_of_mem_drop hx); omega
  have hs : Sh (.lst [.lst ([kd, kd', kdR k].map tK), tI fm, tI fn]) 5 2000 := by
    have a1 : Sh (.lst ([kd, kd', kdR k].map tK)) 4 400 := (Sh.lst (.cons (sh_tK ok) (.cons (sh_tK ok') (.cons (sh_tK okr) .nil)))).mono (by decide) (by decide)
    have a2 : Sh (tI fm) 4 4 := (sh_ints (fun x hx => by have := hfb x hx; omega) (by omega)).mono (by decide) (by decide)
    have a3 : Sh (tI fn) 4 4 := (sh_ints hnb (by omega)).mono (by decide) (by decide)
    exact (Sh.lst (.cons a1 (.cons a2 (.cons a3 .nil)))).mono (by decide) (by decide)
  have hr := repr_sh hs (by decide) (by decide)
  have hRp : ∀ (env : Sg) (s : S), env[5]? = some (.val (.lst ([kd, kd', kdR k].map tK))) → env[6]? = some (.val (tI fm)) → env[10]? = some (.val (tI fn)) → tRp env s = some (.str (D.lst [.lst ([kd, kd', kdR k].map tK), tI fm, tI fn]).py.shown, s) := fun env s h5 h6 h10 => by
    unfold tRp
    refine repr_of (d := .lst [.lst ([kd, kd', kdR k].map tK), tI fm, tI fn]) ?_ rfl hr
    exact lst_of (cons_of (by rw [v_rd, h5]) (cons_of (by rw [v_rd, h6]) (cons_of (by rw [v_rd, h10]) v_aNil))) (by simp)
  obtain ⟨kp, hkp⟩ : ∃ kp : Str, kp = (D.lst [.lst ([kd, kd', kdR k].map tK), tI fm, tI fn]).py.shown := ⟨_, rfl⟩
  rw [← hkp] at hRp
  obtain ⟨y12, y13, y14, s9, b1, n9⟩ := vK_for hk hfl hol hnl x0 (.val .deck) (.val d) (.val (nD k)) (.val (nD m)) (.val (.lst ([kd, kd', kdR k].map tK))) (.val (nD a)) (.val (.int v)) (.val (.str kp)) x15 x16 [kd, kd', kdR k] s8 x12 x13 x14 (fun q hq => by
    simp only [List.mem_cons, List.mem_nil_iff, or_false] at hq
    rcases hq with rfl | rfl | rfl
    · exact ⟨ok, hkk⟩
    · exact ⟨ok', hkk'⟩
    · exact ⟨okr, rfl⟩)
  have hfb' : ∀ x ∈ fm, x.natAbs ≤ 1000 := fun x hx => by have := hfb x hx; omega
  obtain ⟨_, s10, b2, ⟨y15, y16, rfl⟩, l11, l12⟩ := vW_for hk0 hk hfl hfb' x0 (.val d) (.val (nD m)) (.val (.lst ([kd, kd', kdR k].map tK))) (.val (tI fo)) (.val (nD a)) (.val (.int v)) (.val (tI fn)) (.val (.str kp)) y12 y13 y14 (List.range 4) x15 x16 s9 (by omega) (by simp; omega)
  rw [List.length_range] at l12
  refine ⟨.nx [x0, .val .deck, .val d, .val (nD k), .val (nD m), .val (.lst ([kd, kd', kdR k].map tK)), .val (tI fm), .val (tI fo), .val (nD a), .val (.int v), .val (tI fn), .val (.str kp), y12, y13, y14, y15, y16], s10, ?_, ⟨_, rfl, ⟨x0, _, _, _, _, _, _, _, _, _, _, y12, y13, y14, y15, y16, rfl⟩⟩, by omega, by omega⟩
  unfold tT
  refine (seq_nx (e := [x0, .val .deck, .val d, .val (nD k), .val (nD m), x5, x6, x7, x8, x9, x10, x11, x12, x13, x14, x15, x16]) (par_nx (cons_of e1 (cons_of e2 v_aNil)))).trans ?_
  refine (seq_nx (e := [x0, .val .deck, .val d, .val (nD k), .val (nD m), .val (.lst ([kd, kd', kdR k].map tK)), x6, x7, x8, x9, x10, x11, x12, x13, x14, x15, x16]) (asg_nx (lst_of (cons_of (call_of (m := m__law_kind) (ds := [.deck, nD k, nD m]) (s1 := s2) rfl e4) (cons_of (call_of (m := m__law_line) (ds := [.deck, nD k, nD m]) (s1 := s4) rfl e5) (cons_of (call_of (ds := [.deck, nD k]) (s1 := s5) rfl er) v_aNil))) (by simp)))).trans ?_
  refine (seq_nx (e := [x0, .val .deck, .val d, .val (nD k), .val (nD m), .val (.lst ([kd, kd', kdR k].map tK)), .val (tI fm), .val (tI fo), .val (nD a), x9, x10, x11, x12, x13, x14, x15, x16]) (s1 := s8) ?_).trans ?_
  · have : aCons (callM m__law_form (aCons (rd 1) (aCons (rd 3) aNil))) (aCons (callM m__law_form (aCons (rd 1) (aCons (rd 3) aNil))) (aCons (callM m__law_draw (aCons (rd 1) (aCons (rd 3) aNil))) aNil)) [x0, .val .deck, .val d, .val (nD k), .val (nD m), .val (.lst ([kd, kd', kdR k].map tK)), x6, x7, x8, x9, x10, x11, x12, x13, x14, x15, x16] s5 = some ([tI fm, tI fo, nD a], s8) := cons_of (call_of (ds := [.deck, nD k]) (s1 := s5) rfl e6) (cons_of (call_of (ds := [.deck, nD k]) (s1 := s6) rfl e7) (cons_of (call_of (m := m__law_draw) (ds := [.deck, nD k]) (s1 := s7) rfl e8) v_aNil))
    unfold par3M
    rw [this]; rfl
  refine (seq_nx (e := [x0, .val .deck, .val d, .val (nD k), .val (nD m), .val (.lst ([kd, kd', kdR k].map tK)), .val (tI fm), .val (tI fo), .val (nD a), .val (.int v), x10, x11, x12, x13, x14, x15, x16]) (asg_nx hvb)).trans ?_
  refine (seq_nx (e := [x0, .val .deck, .val d, .val (nD k), .val (nD m), .val (.lst ([kd, kd', kdR k].map tK)), .val (tI fm), .val (tI fo), .val (nD a), .val (.int v), .val (tI fn), x11, x12, x13, x14, x15, x16]) (asg_nx hnr)).trans ?_
  refine (seq_nx (e := [x0, .val .deck, .val d, .val (nD k), .val (nD m), .val (.lst ([kd, kd', kdR k].map tK)), .val (tI fm), .val (tI fo), .val (nD a), .val (.int v), .val (tI fn), .val (.str kp), x12, x13, x14, x15, x16]) (asg_nx (hRp _ s8 rfl rfl rfl))).trans ?_
  refine (seq_nx (forM_of (ds := [kd, kd', kdR k].map tK) rfl b1)).trans ?_
  refine (seq_nx (forM_of (ds := tN (List.range 4)) (r1_of (m := 4) (by decide) (cons_of v_cst v_aNil)) b2)).trans ?_
  exact ifs_f (s1 := s10) (ne_same (hRp _ s10 rfl rfl rfl) rfl) rfl
/-! ### the last row -/
noncomputable def tF : MS := (retM (opM eqM (cbM reprM (aCons (frz (lstM (aCons (callM m_worth (aCons (tupM (aCons (unM (unI fun i => .int (-i)) (cst (.int 99))) aNil)) (aCons (opM mulS (cst (.str "a")) (cst (.int 400))) aNil))) (aCons (callM m_worth (aCons (tupM (aCons (cst (.int 5)) (aCons (cst (.int 5)) aNil))) (aCons (cst (.str "")) aNil))) aNil)))) aNil)) (cst (.str "[-39600, 0]"))))
theorem rep_a (n : Nat) : (List.replicate n [97]).flatten = (List.replicate n 0).map (97 + ·) := by
  induction n with
  | zero => rfl
  | succ n ih => rw [List.replicate_succ, List.flatten_cons, ih, List.replicate_succ, List.map_cons]; rfl
theorem mulS_a : mulS (.str "a") (.int 400) = some (.str (tw (List.replicate 400 0))) := by
  have ea : ("a" : Str) = W [97] := by decide +kernel
  have hl : ("a" : Str).length ≤ 10000 := by rw [ea, W_len]; decide
  show (if ("a" : Str).length ≤ 10000 ∧ (-1000 : Int) ≤ 400 ∧ (400 : Int) ≤ 1000 then some (D.str (repT "a" 400)) else none) = _
  rw [if_pos ⟨hl, by decide, by decide⟩]
  congr 2
theorem wo_rep (x : Int) (n : Nat) : wo [x] (List.replicate n 0) = x * ((n : Nat) : Int) := by
  induction n with
  | zero => rw [List.replicate_zero, wo_nil]; simp
  | succ n ih =>
    rw [List.replicate_succ, wo_cons, ih]
    show x + x * ((n : Nat) : Int) = x * (((n + 1 : Nat)) : Int)
    rw [show (((n + 1 : Nat)) : Int) = ((n : Nat) : Int) + 1 by omega, Int.mul_add]
    omega
theorem tF_ok (env : Sg) (st : S) : tF env st = some (.rt (.bl true), st) := by
  have p1 := pworth_ok (fm := [-99]) (by decide) (w := List.replicate 400 0) (fun c hc => by rw [(List.mem_replicate.mp hc).2]; decide) (by rw [List.length_replicate]; decide) st
  have p2 := pworth_ok (fm := [5, 5]) (by decide) (w := []) (fun c hc => by cases hc) (by decide) st
  rw [wo_rep] at p1
  rw [wo_nil, tw_nil] at p2
  have a1 : opM mulS (cst (.str "a")) (cst (.int 400)) env st = some (.str (tw (List.replicate 400 0)), st) := by
    rw [v_opM, v_cst, Option.bind_some, v_cst, Option.bind_some]
    show ((mulS (.str "a") (.int 400)).map _ : Option (D × S)) = _
    rw [mulS_a]; rfl
  have t1 : tupM (aCons (unM (unI fun i => .int (-i)) (cst (.int 99))) aNil) env st = some (tI [-99], st) := tup1 rfl
  have t2 : tupM (aCons (cst (.int 5)) (aCons (cst (.int 5)) aNil)) env st = some (tI [5, 5], st) := by
    rw [v_tupM, cons_of v_cst (cons_of v_cst v_aNil), Option.bind_some, grd_of (by simp)]; rfl
  have hL : frz (lstM (aCons (callM m_worth (aCons (tupM (aCons (unM (unI fun i => .int (-i)) (cst (.int 99))) aNil)) (aCons (opM mulS (cst (.str "a")) (cst (.int 400))) aNil))) (aCons (callM m_worth (aCons (tupM (aCons (cst (.int 5)) (aCons (cst (.int 5)) aNil))) (aCons (cst (.str "")) aNil))) aNil))) env st = some (.lst [.int (-39600), .int 0], st) :=
    lst_of (cons_of (call_of (cons_of t1 (cons_of a1 v_aNil)) p1) (cons_of (call_of (cons_of t2 (cons_of v_cst v_aNil)) p2) v_aNil)) (by simp)
  have hr : reprM [.lst [.int (-39600), .int 0]] = some (.str "[-39600, 0]") := by
    have hs : Sh (.lst [.int (-39600), .int 0]) 1 10 := (Sh.lst (.cons (Sh.int (by decide)) (.cons (Sh.int (by decide)) .nil))).mono (by decide) (by decide)
    rw [repr_sh hs (by decide) (by decide)]
    have : (D.lst [.int (-39600), .int 0]).py.shown = "[-39600, 0]" := by decide +kernel
    rw [this]
  unfold tF
  refine ret_of ?_
  rw [v_opM, repr_of hL rfl hr, Option.bind_some, v_cst, Option.bind_some]
  show ((eqM (.str "[-39600, 0]") (.str "[-39600, 0]")).map _ : Option (D × S)) = _
  rw [eq_str, decide_eq_true rfl]; rfl
theorem law_holds : ∀ ns : List Int, ns.length ≤ 63 → ∃ s1, b_law (env0 17) ⟨ns.map absI, 0, []⟩ = some (.rt (.bl true), s1) := by
  intro ns _
  have hF := forL_yesI (t := nameT 2) (b := tT) (k := 3000) (I := TI) (rngD 0 6) 0 (env0 17) ⟨.un, .un, .un, .un, .un, .un, .un, .un, .un, .un, .un, .un, .un, .un, .un, .un, rfl⟩ fun d _ i e hi hI => tT_yes d i (by rw [rngD_len] at hi; omega) e hI
  rw [rngD_len] at hF
  obtain ⟨fl, s1, e1, ⟨ee, rfl, hI⟩, _, _⟩ := hF ⟨ns.map absI, 0, []⟩ (Int.le_refl _) (by show (0 : Int) + _ ≤ nMax; unfold nMax; omega)
  refine ⟨s1, ?_⟩
  have e2 := tF_ok ee s1
  have hb : b_law = seqM (forM (r1M (aCons (cst (.int 6)) aNil)) (nameT 2) tT) tF := rfl
  have hr : rng1 [.int 6] = some (rngD 0 6) := rng_of (k := 6) (by decide)
  rw [hb]
  generalize tT = B at e1
  generalize tF = G at e2
  rw [v_seqM, v_forM, v_r1M, v_aCons]
  simp only [v_cst, v_aNil, Option.bind_some, Option.map_some, hr]
  rw [e1]
  exact e2
end Lw

open PySem PySem.W PyProof.Rows
set_option maxHeartbeats 0 in
theorem PySem.Challenge.cw_unitlimits_k23_forms_unlike_holds : PySem.Challenge.rw_unitlimits_k23_forms_unlike.Holds := by
  w_on; o_law; k_head; (case hw => w_witness2)
  k_fill
  refine MD.walkG (l := PySem.Challenge.rw_unitlimits_k23_forms_unlike) (n := 63) (k := 5) (x := "_law_script") rfl (by decide) rfl ⟨rfl, by decide, by decide⟩ (fun w h Y => PySem.W.kIn_of Y) ?F
  case F =>
    intro w mg fa h KX G hmg
    refine' Lw.all_mk Lw.law_holds KX G hmg ?ax0 ?lx0 ?ccx0 ?kx0 ?ax1 ?lx1 ?ccx1 ?kx1 ?ax2 ?lx2 ?ccx2 ?kx2 ?ax3 ?lx3 ?ccx3 ?kx3 ?ax4 ?lx4 ?ccx4 ?kx4 ?ax5 ?lx5 ?ccx5 ?kx5 ?ax6 ?lx6 ?ccx6 ?kx6 ?ax7 ?lx7 ?ccx7 ?kx7 ?ax8 ?lx8 ?ccx8 ?kx8 ?ax9 ?lx9 ?ccx9 ?kx9 ?ax10 ?lx10 ?ccx10 ?kx10 ?ax11 ?lx11 ?ccx11 ?kx11 ?ax12 ?lx12 ?ccx12 ?kx12 ?ax13 ?lx13 ?ccx13 ?kx13 ?ax14 ?lx14 ?ccx14 ?kx14 ?ax15 ?lx15 ?ccx15 ?kx15 ?ax16 ?lx16 ?ccx16 ?kx16 ?ax17 ?lx17 ?ccx17 ?kx17 ?ax18 ?lx18 ?ccx18 ?kx18 ?ax19 ?lx19 ?ccx19 ?kx19 ?ax20 ?lx20 ?ccx20 ?kx20 ?z_n_len ?z_n_range ?z_n_tuple ?z_n_sorted ?z_n_list ?z_n_sum ?z_c_LETTERS ?z_n_enumerate ?z_n_zip ?z_n_min ?z_n_repr ?z_n_int ?z_n_abs
    (case ax0 => k_is); (case lx0 => k_is); (case ccx0 => k_is); (case kx0 => k_is); (case ax1 => k_is); (case lx1 => k_is); (case ccx1 => k_is); (case kx1 => k_is); (case ax2 => k_is); (case lx2 => k_is); (case ccx2 => k_is); (case kx2 => k_is); (case ax3 => k_is); (case lx3 => k_is); (case ccx3 => k_is); (case kx3 => k_is); (case ax4 => k_is); (case lx4 => k_is); (case ccx4 => k_is); (case kx4 => k_is); (case ax5 => k_is); (case lx5 => k_is); (case ccx5 => k_is); (case kx5 => k_is); (case ax6 => k_is); (case lx6 => k_is); (case ccx6 => k_is); (case kx6 => k_is); (case ax7 => k_is); (case lx7 => k_is); (case ccx7 => k_is); (case kx7 => k_is); (case ax8 => k_is); (case lx8 => k_is); (case ccx8 => k_is); (case kx8 => k_is); (case ax9 => k_is); (case lx9 => k_is); (case ccx9 => k_is); (case kx9 => k_is); (case ax10 => k_is); (case lx10 => k_is); (case ccx10 => k_is); (case kx10 => k_is); (case ax11 => k_is); (case lx11 => k_is); (case ccx11 => k_is); (case kx11 => k_is); (case ax12 => k_is); (case lx12 => k_is); (case ccx12 => k_is); (case kx12 => k_is); (case ax13 => k_is); (case lx13 => k_is); (case ccx13 => k_is); (case kx13 => k_is); (case ax14 => k_is); (case lx14 => k_is); (case ccx14 => k_is); (case kx14 => k_is); (case ax15 => k_is); (case lx15 => k_is); (case ccx15 => k_is); (case kx15 => k_is); (case ax16 => k_is); (case lx16 => k_is); (case ccx16 => k_is); (case kx16 => k_is); (case ax17 => k_is); (case lx17 => k_is); (case ccx17 => k_is); (case kx17 => k_is); (case ax18 => k_is); (case lx18 => k_is); (case ccx18 => k_is); (case kx18 => k_is); (case ax19 => k_is); (case lx19 => k_is); (case ccx19 => k_is); (case kx19 => k_is); (case ax20 => k_is); (case lx20 => k_is); (case ccx20 => k_is); (case kx20 => k_is); (case z_n_len => k_is); (case z_n_range => k_is); (case z_n_tuple => k_is); (case z_n_sorted => k_is); (case z_n_list => k_is); (case z_n_sum => k_is); (case z_c_LETTERS => k_is); (case z_n_enumerate => k_is); (case z_n_zip => k_is); (case z_n_min => k_is); (case z_n_repr => k_is); (case z_n_int => k_is); (case z_n_abs => k_is)

