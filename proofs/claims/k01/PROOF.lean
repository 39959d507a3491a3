import PyProof.Rows.All
import Wide.All
import OpenK.AllK
import Wide.FinOn
import HandS.ForMost
import HandS.Replace
import HandS.TupAny
import HandS.RaiseMore
import PyProof.TupleOfStr
import KE.GoesMore
import KE.KDictKeyed
import HandS.ForDict
import HandS.More
import HandS.DictComp
import HandS.TupMul
import HandS.IsInst
import HandS.Style
import KE.LtData
import HandS.Conv
import PyProof.ReprRoads
import PyProof.StrOps2
import PyProof.ListStr
import HandS.Text
import HandS.Codes
import KE.KRevSl
import KE.SortData
import KE.DataMinMax
import HandS.Zip
import HandS.SetKeys
import PyProof.IsRules
import HandS.Strs
import HandS.SetFor
import HandS.TupLen
import HandS.ClsMeth
import PyProof.AutoSeq1
import KE.KDictCopyH
import HandS.Deep
import HandS.FStr
import PySem.Challenge.RW_unitlimits_k01_texts_there_and_back
set_option Elab.async false
set_option linter.all false
set_option maxRecDepth 100000
set_option maxHeartbeats 1000000
namespace MD
open PySem L2

/-! plain data, slots, the deck's state, the store -/
inductive D where
  | non | bl (b : Bool) | int (i : Int) | str (s : Str) | lst (xs : List D) | tup (xs : List D) | deck
  | dic (ks : List Key) (xs : List D) | ref (n : Nat)
/-! keys without texts, nested -/
mutual
def nkOf : D → Option NestedKey
  | .non => some .none
  | .bl b => some (.num (if b = true then 1 else 0))
  | .int i => some (.num i)
  | .tup ds => (nksOf ds).map .tup
  | .str x => some (.text x)
  | .lst _ => none
  | .deck => none
  | .dic _ _ => none
  | .ref _ => none
def nksOf : List D → Option (List NestedKey)
  | [] => some []
  | d :: ds => (nkOf d).bind fun k => (nksOf ds).map (k :: ·)
end
class WW where
  w : World
def nent (w : World) (z : NestedKey × Addr × Value) : DictEntry := ⟨z.1.hash w, .ref z.2.1, z.2.2⟩
/-- at a stands a dict with these keys, tuples at these addresses, and values -/
def NkAt [WW] (a : Addr) (zs : List (NestedKey × Addr × Value)) (h : Heap) : Prop :=
  (a == sysModules) = false ∧ zs.length ≤ sizeLine ∧ ∃ o es ep, h.get? a = some o ∧ o.ExactDict ∧ o.data = .dict es ep ∧ es.toList = zs.map (nent WW.w)
variable {ww : WW}
/-- things that change and are known to many: by their number -/
inductive Ob where
  | lst (xs : List D) | dic (lk : Bool) (ks : List Key) (xs : List D) | ins (c : Str) (fs : List Str) (xs : List D) | nkd (ks : List D) (xs : List D) | nkl (ks : List D) (xs : List D)
structure S where
  cells : List Int
  n : Int
  ob : List Ob
/-- what a name alone holds and may change: a list, a dict with these keys -/
inductive Ow where
  | lst | dic (ks : List Key)
def Ow.At (H : Hp) (p : Addr) : Ow → List V → Prop
  | .lst, vs => H p = some (.lst vs)
  | .dic ks, vs => H p = some (.dK (ks.zip vs)) ∧ ks.length = vs.length
theorem Ow.At.some {H : Hp} {p : Addr} : ∀ {w : Ow} {vs : List V}, w.At H p vs → ∃ o, H p = some o
  | .lst, _, h => ⟨_, h⟩
  | .dic _, _, h => ⟨_, h.1⟩
/-- an own thing is not locked -/
theorem Ow.At.keep {H H' : Hp} {p : Addr} (e : ∀ o, H p = Option.some o → H' p = Option.some o) : ∀ {w : Ow} {vs : List V}, w.At H p vs → w.At H' p vs
  | .lst, _, h => e _ h
  | .dic _, _, h => ⟨e _ h.1, h.2⟩
abbrev Own := Ow × List D
inductive Sl where
  | un | val (d : D) | own (xs : Own)
abbrev Sg := List Sl
abbrev Dk := Addr × Addr
abbrev Fg := PySem.W.Frag
/-- the frozen things, and where the store's things stand -/
structure Fz where
  hp : Hp
  mu : List Addr
instance : CoeFun Fz fun _ => Hp := ⟨Fz.hp⟩
def Fz.up (F : Fz) (p : Addr) (o : HO) : Fz := ⟨upd F.hp p o, F.mu⟩
def Fz.out (F : Fz) (p : Addr) : Prop := F.hp p = none ∧ p ∉ F.mu
theorem Fz.up_same {F : Fz} {p : Addr} {o : HO} : F.up p o p = some o := upd_same
theorem Fz.up_ne {F : Fz} {p q : Addr} {o : HO} (h : q ≠ p) : F.up p o q = F q := upd_ne h

mutual
inductive Rp (K : Fg) (dk : Dk) (F : Fz) : V → D → Prop
  | non : Rp K dk F .non .non
  | bl (b : Bool) : Rp K dk F (.bl b) (.bl b)
  | int (i : Int) : Rp K dk F (.int i) (.int i)
  | str (x : Str) : Rp K dk F (.str x) (.str x)
  | lst {a : Addr} {vs : List V} {ds : List D} : F a = some (.lst vs) → Rps K dk F vs ds → Rp K dk F (.ref a) (.lst ds)
  | tup {a : Addr} {vs : List V} {ds : List D} : SqT K F.hp a vs → Rps K dk F vs ds → Rp K dk F (.ref a) (.tup ds)
  | deck : Rp K dk F (.ref dk.1) .deck
  | dic {a : Addr} {ks : List Key} {vs : List V} {ds : List D} : F a = some (.dK (ks.zip vs)) → ks.length = vs.length → Rps K dk F vs ds → Rp K dk F (.ref a) (.dic ks ds)
  | ref {a : Addr} {n : Nat} : F.mu[n]? = some a → Rp K dk F (.ref a) (.ref n)
inductive Rps (K : Fg) (dk : Dk) (F : Fz) : List V → List D → Prop
  | nil : Rps K dk F [] []
  | cons {v : V} {vs : List V} {d : D} {ds : List D} : Rp K dk F v d → Rps K dk F vs ds → Rps K dk F (v :: vs) (d :: ds)
end

/-- a heap that keeps another's things -/
def Lh (F F' : Hp) : Prop := ∀ a o, F a = some o → F' a = some o
theorem Lh.refl (F : Hp) : Lh F F := fun _ _ h => h
theorem Lh.trans {A B C : Hp} (x : Lh A B) (y : Lh B C) : Lh A C := fun a o h => y a o (x a o h)
theorem Lh.rd {F F' : Hp} {a : Addr} {u : HO} (e : Lh F F') (h : Rd F a u) : Rd F' a u := by
  rcases h with h | ⟨o, h⟩
  · exact .inl (e _ _ h)
  · exact .inr ⟨o, e _ _ h⟩
theorem Lh.sqT {K : Fg} {F F' : Hp} {a : Addr} {xs : List V} (e : Lh F F') (h : SqT K F a xs) : SqT K F' a xs := by
  rcases h with h | h
  · exact .inl (e.rd h)
  · exact .inr h
theorem Lh.free {F F' : Hp} {a : Addr} (e : Lh F F') (h : F' a = none) : F a = none := by
  cases q : F a with
  | none => rfl
  | some o => rw [e _ _ q] at h; cases h
theorem Lh.new {F : Hp} {p : Addr} {o : HO} (h : F p = none) : Lh F (upd F p o) := fun a u e => by
  rw [upd_ne (ne_of_none e h)]; exact e
/-- more is frozen, more stands in the store -/
structure Le (F F' : Fz) : Prop where
  h : Lh F.hp F'.hp
  m : ∃ l, F'.mu = F.mu ++ l
theorem Le.refl (F : Fz) : Le F F := ⟨Lh.refl _, [], by simp⟩
theorem Le.trans {A B C : Fz} (x : Le A B) (y : Le B C) : Le A C := ⟨x.h.trans y.h, by
  obtain ⟨l, e⟩ := x.m
  obtain ⟨l', e'⟩ := y.m
  exact ⟨l ++ l', by rw [e', e, List.append_assoc]⟩⟩
theorem Le.sqT {K : Fg} {F F' : Fz} {a : Addr} {xs : List V} (e : Le F F') (h : SqT K F.hp a xs) : SqT K F'.hp a xs := e.h.sqT h
theorem Le.new {F : Fz} {p : Addr} {o : HO} (h : F p = none) : Le F (F.up p o) := ⟨Lh.new h, [], by simp [Fz.up]⟩
theorem Le.at {F F' : Fz} (e : Le F F') {n : Nat} {a : Addr} (h : F.mu[n]? = some a) : F'.mu[n]? = some a := by
  obtain ⟨l, e⟩ := e.m
  rw [e, List.getElem?_append_left (by
    by_cases hl : n < F.mu.length
    · exact hl
    · rw [List.getElem?_eq_none (by omega)] at h; cases h)]
  exact h
theorem Le.mem {F F' : Fz} (e : Le F F') {a : Addr} (h : a ∈ F.mu) : a ∈ F'.mu := by
  obtain ⟨l, e⟩ := e.m
  rw [e]; exact List.mem_append_left _ h
/-- what is frozen stands in the heap; a dict may be locked -/
def Sb (F : Fz) (H : Hp) : Prop := ∀ a o, F a = some o → H a = some o ∨ ∃ od kvs, o = .dK kvs ∧ H a = some (.frz od o)
section
variable {F F' : Fz} {H H' : Hp} {K : Fg} {a : Addr}
theorem Sb.lst {vs : List V} (s : Sb F H) (h : F a = some (.lst vs)) : H a = some (.lst vs) := by
  rcases s a _ h with z | ⟨od, kvs, z, _⟩
  · exact z
  · cases z
theorem Sb.dK {kvs : List (Key × V)} (s : Sb F H) (h : F a = some (.dK kvs)) : Rd H a (.dK kvs) := by
  rcases s a _ h with z | ⟨od, _, _, z⟩
  · exact .inl z
  · exact .inr ⟨od, z⟩
theorem Sb.sqT {xs : List V} (s : Sb F H) (h : SqT K F.hp a xs) : SqT K H a xs := by
  rcases h with h | h
  · rcases h with h | ⟨o, h⟩
    · rcases s a _ h with z | ⟨_, _, z, _⟩
      · exact .inl (.inl z)
      · cases z
    · rcases s a _ h with z | ⟨_, _, z, _⟩
      · exact .inl (.inr ⟨o, z⟩)
      · cases z
  · exact .inr h
theorem Sb.free (s : Sb F H) (h : H a = none) : F a = none := by
  cases q : F a with
  | none => rfl
  | some o =>
    rcases s a _ q with z | ⟨_, _, _, z⟩ <;> rw [z] at h <;> cases h
theorem Sb.some (s : Sb F H) {o : HO} (h : F a = some o) : H a ≠ none := fun z => by rw [s.free z] at h; cases h
theorem Le.sb (e : Le F F') (s : Sb F' H) : Sb F H := fun a o h => s a o (e.h a o h)
theorem Sb.lh (s : Sb F H) (e : Lh H H') : Sb F H' := fun a o h => by
  rcases s a o h with z | ⟨od, kvs, z1, z⟩
  · exact .inl (e _ _ z)
  · exact .inr ⟨od, kvs, z1, e _ _ z⟩
end

mutual
theorem Rp.mono {K : Fg} {dk : Dk} {F F' : Fz} (e : Le F F') : ∀ {v : V} {d : D}, Rp K dk F v d → Rp K dk F' v d
  | _, _, .non => .non
  | _, _, .bl b => .bl b
  | _, _, .int i => .int i
  | _, _, .str x => .str x
  | _, _, .lst h r => .lst (e.h _ _ h) (Rps.mono e r)
  | _, _, .tup h r => .tup (e.sqT h) (Rps.mono e r)
  | _, _, .deck => .deck
  | _, _, .dic h l r => .dic (e.h _ _ h) l (Rps.mono e r)
  | _, _, .ref h => .ref (e.at h)
theorem Rps.mono {K : Fg} {dk : Dk} {F F' : Fz} (e : Le F F') : ∀ {vs : List V} {ds : List D}, Rps K dk F vs ds → Rps K dk F' vs ds
  | _, _, .nil => .nil
  | _, _, .cons a b => .cons (Rp.mono e a) (Rps.mono e b)
end

section
variable {K : Fg} {dk : Dk} {F F' : Fz} {H H' : Hp}
theorem Rps.length : ∀ {vs : List V} {ds : List D}, Rps K dk F vs ds → vs.length = ds.length
  | _, _, .nil => rfl
  | _, _, .cons _ r => by simp [Rps.length r]
theorem Rps.get : ∀ {vs : List V} {ds : List D} {i : Nat} {d : D}, Rps K dk F vs ds → ds[i]? = some d → ∃ v, vs[i]? = some v ∧ Rp K dk F v d
  | _, _, _, _, .nil, e => by simp at e
  | _, _, 0, _, .cons a _, e => by simp at e; subst e; exact ⟨_, rfl, a⟩
  | _, _, i + 1, _, .cons _ r, e => by
    obtain ⟨v, h1, h2⟩ := Rps.get (i := i) r (by simpa using e)
    exact ⟨v, by simpa using h1, h2⟩
theorem Rps.getV : ∀ {vs : List V} {ds : List D} {i : Nat} {v : V}, Rps K dk F vs ds → vs[i]? = some v → ∃ d, ds[i]? = some d ∧ Rp K dk F v d
  | _, _, _, _, .nil, e => by simp at e
  | _, _, 0, _, .cons a _, e => by simp at e; subst e; exact ⟨_, rfl, a⟩
  | _, _, i + 1, _, .cons _ r, e => by
    obtain ⟨v, h1, h2⟩ := Rps.getV (i := i) r (by simpa using e)
    exact ⟨v, by simpa using h1, h2⟩
theorem Rps.append : ∀ {vs us : List V} {ds es : List D}, Rps K dk F vs ds → Rps K dk F us es → Rps K dk F (vs ++ us) (ds ++ es)
  | _, _, _, _, .nil, s => s
  | _, _, _, _, .cons a r, s => .cons a (Rps.append r s)
theorem Rps.take : ∀ {vs : List V} {ds : List D} (n : Nat), Rps K dk F vs ds → Rps K dk F (vs.take n) (ds.take n)
  | _, _, 0, _ => .nil
  | _, _, _ + 1, .nil => .nil
  | _, _, n + 1, .cons a r => .cons a (Rps.take n r)
theorem Rps.drop : ∀ {vs : List V} {ds : List D} (n : Nat), Rps K dk F vs ds → Rps K dk F (vs.drop n) (ds.drop n)
  | _, _, 0, r => r
  | _, _, _ + 1, .nil => .nil
  | _, _, n + 1, .cons _ r => Rps.drop n r
theorem Rps.set {v : V} {d : D} (r : Rp K dk F v d) : ∀ {vs : List V} {ds : List D} (n : Nat), Rps K dk F vs ds → Rps K dk F (vs.set n v) (ds.set n d)
  | _, _, _, .nil => .nil
  | _, _, 0, .cons _ t => .cons r t
  | _, _, n + 1, .cons a t => .cons a (Rps.set r n t)
theorem Rps.one {v : V} {d : D} (r : Rp K dk F v d) : Rps K dk F [v] [d] := .cons r .nil

/-! the store's things -/
def clsOf (K : Fg) (c : Str) : Option Addr := match PySem.W.nsIn K mainGlobals c with
  | some (some (.ref C)) => some C
  | _ => none
inductive ObAt [WW] (K : Fg) (dk : Dk) (F : Fz) (H : Hp) (a : Addr) : Ob → Prop
  | lst {vs : List V} {ds : List D} : H a = some (.lst vs) → Rps K dk F vs ds → ObAt K dk F H a (.lst ds)
  | dic {ks : List Key} {vs : List V} {ds : List D} : H a = some (.dK (ks.zip vs)) → ks.length = vs.length → Rps K dk F vs ds → ObAt K dk F H a (.dic false ks ds)
  | lck {od : Obj} {ks : List Key} {vs : List V} {ds : List D} : H a = some (.frz od (.dK (ks.zip vs))) → ks.length = vs.length → Rps K dk F vs ds → ObAt K dk F H a (.dic true ks ds)
  | ins {c : Str} {C dx : Addr} {fs : List Str} {vs : List V} {ds : List D} : clsOf K c = some C → H a = some (.ins C dx (fs.zip vs)) → fs.length = vs.length → Rps K dk F vs ds → ObAt K dk F H a (.ins c fs ds)
  | nkd {zs : List (NestedKey × Addr × Value)} {vs : List V} {ks ds : List D} : H a = some (.ext (NkAt a zs)) → Rps K dk F (zs.map fun z => V.ref z.2.1) ks → ks.map nkOf = zs.map (fun z => some z.1) →
      Vals vs (zs.map fun z => z.2.2) → Rps K dk F vs ds → (zs.map fun z => z.1).Nodup → (∀ z ∈ zs, z.1.depth ≤ 8) → ObAt K dk F H a (.nkd ks ds)
  | nkl {od : Obj} {zs : List (NestedKey × Addr × Value)} {vs : List V} {ks ds : List D} : H a = some (.frz od (.ext (NkAt a zs))) → Rps K dk F (zs.map fun z => V.ref z.2.1) ks → ks.map nkOf = zs.map (fun z => some z.1) →
      Vals vs (zs.map fun z => z.2.2) → Rps K dk F vs ds → (zs.map fun z => z.1).Nodup → (∀ z ∈ zs, z.1.depth ≤ 8) → ObAt K dk F H a (.nkl ks ds)
theorem ObAt.some {a : Addr} {o : Ob} (h : ObAt K dk F H a o) : H a ≠ none := by
  intro z
  cases h with
  | lst h _ => rw [h] at z; cases z
  | dic h _ _ => rw [h] at z; cases z
  | lck h _ _ => rw [h] at z; cases z
  | ins _ h _ _ => rw [h] at z; cases z
  | nkd h _ _ _ _ _ _ => rw [h] at z; cases z
  | nkl h _ _ _ _ _ _ => rw [h] at z; cases z
theorem ObAt.keep {a : Addr} {o : Ob} (h : ObAt K dk F H a o) (e : ∀ o, H a = Option.some o → H' a = Option.some o) (le : Le F F') : ObAt K dk F' H' a o := by
  cases h with
  | lst h r => exact .lst (e _ h) (r.mono le)
  | dic h l r => exact .dic (e _ h) l (r.mono le)
  | lck h l r => exact .lck (e _ h) l (r.mono le)
  | ins c h l r => exact .ins c (e _ h) l (r.mono le)
  | nkd h k q v r n d => exact .nkd (e _ h) (k.mono le) q v (r.mono le) n d
  | nkl h k q v r n d => exact .nkl (e _ h) (k.mono le) q v (r.mono le) n d

structure Wd [WW] (K : Fg) (dk : Dk) (F : Fz) (H : Hp) (st : S) : Prop where
  sub : Sb F H
  d1 : H dk.1 = some (.lst [.ref dk.2, .int st.n])
  d2 : H dk.2 = some (.lst (st.cells.map V.int))
  f1 : F.out dk.1
  f2 : F.out dk.2
  ne : dk.1 ≠ dk.2
  ml : F.mu.length = st.ob.length
  nd : F.mu.Nodup
  ob : ∀ (n : Nat) (a : Addr) (o : Ob), F.mu[n]? = some a → st.ob[n]? = some o → F a = none ∧ ObAt K dk F H a o
theorem Wd.mu {st : S} (w : Wd K dk F H st) {a : Addr} (h : a ∈ F.mu) : ∃ (n : Nat) (o : Ob), F.mu[n]? = some a ∧ st.ob[n]? = some o ∧ F a = none ∧ ObAt K dk F H a o := by
  obtain ⟨n, hn, e⟩ := List.getElem_of_mem h
  have hn' : n < st.ob.length := by rw [← w.ml]; exact hn
  have e1 : F.mu[n]? = some a := by rw [List.getElem?_eq_getElem hn, e]
  have e2 := List.getElem?_eq_getElem hn'
  exact ⟨n, _, e1, e2, w.ob n a _ e1 e2⟩
theorem Wd.nomu {st : S} (w : Wd K dk F H st) {a : Addr} (h : H a = none) : a ∉ F.mu := fun z => by
  obtain ⟨n, o, _, _, _, q⟩ := w.mu z
  exact q.some h
theorem Wd.out {st : S} (w : Wd K dk F H st) {a : Addr} (h : H a = none) : F.out a := ⟨w.sub.free h, w.nomu h⟩

/-- locked -/
def Fro (o : HO) : Prop := ∃ od u, o = .frz od u
structure Ext (dk : Dk) (F : Fz) (H : Hp) (F' : Fz) (H' : Hp) : Prop where
  h : ∀ a o, H a = some o → a ≠ dk.1 → a ≠ dk.2 → a ∉ F.mu ∨ Fro o → H' a = some o
  f : Le F F'
  n : ∀ a, F a = none → H a ≠ none → F' a = none
  m : ∀ a, H a ≠ none → H' a ≠ none
  u : ∀ a, a ∈ F'.mu → a ∈ F.mu ∨ H a = none
  k : ∀ a o, H' a = some o → Fro o → H a = some o
theorem Ext.refl (F : Fz) (H : Hp) : Ext dk F H F H := ⟨fun _ _ h _ _ _ => h, Le.refl F, fun _ h _ => h, fun _ h => h, fun _ h => .inl h, fun _ _ h _ => h⟩
theorem Ext.trans {A : Fz} {B : Hp} {F1 : Fz} {H1 : Hp} {F2 : Fz} {H2 : Hp} (x : Ext dk A B F1 H1) (y : Ext dk F1 H1 F2 H2) : Ext dk A B F2 H2 :=
  ⟨fun a o h n1 n2 n3 => y.h a o (x.h a o h n1 n2 n3) n1 n2 (n3.imp (fun n3 z => by
      rcases x.u a z with q | q
      · exact n3 q
      · rw [q] at h; cases h) id),
    x.f.trans y.f, fun a h1 h2 => y.n a (x.n a h1 h2) (x.m a h2), fun a h => y.m a (x.m a h), fun a h => by
      rcases y.u a h with q | q
      · exact x.u a q
      · refine .inr ?_
        cases w : B a with
        | none => rfl
        | some o => exact absurd q (x.m a (by rw [w]; exact fun z => nomatch z)), fun a o h f => x.k a o (y.k a o h f) f⟩
theorem Ext.out (x : Ext dk F H F' H') {a : Addr} (h : F.out a) (h2 : H a ≠ none) : F'.out a := ⟨x.n a h.1 h2, fun z => by
  rcases x.u a z with q | q
  · exact h.2 q
  · exact h2 q⟩
theorem Ext.back (x : Ext dk F H F' H') {a : Addr} (h : H' a = none) : H a = none := by
  cases w : H a with
  | none => rfl
  | some o => exact absurd h (x.m a (by rw [w]; exact fun z => nomatch z))

/-- an operation that keeps all and only lays new things -/
structure Px (F : Fz) (H : Hp) (F' : Fz) (H' : Hp) : Prop where
  h : Lh H H'
  f : Le F F'
  n : ∀ a, F a = none → H a ≠ none → F' a = none
  s : Sb F' H'
  m : F'.mu = F.mu
  k : ∀ a o, H' a = some o → Fro o → H a = some o
theorem Px.refl (s : Sb F H) : Px F H F H := ⟨Lh.refl H, Le.refl F, fun _ h _ => h, s, rfl, fun _ _ h _ => h⟩
theorem Px.ext (x : Px F H F' H') : Ext dk F H F' H' := ⟨fun a o e _ _ _ => x.h a o e, x.f, x.n, fun a h z => h (x.h.free z), fun a h => .inl (by rw [x.m] at h; exact h), x.k⟩
theorem nn {o : Option HO} {u : HO} (h : o = some u) : o ≠ none := by rw [h]; exact fun z => nomatch z
theorem Px.wd {st : S} (x : Px F H F' H') (w : Wd K dk F H st) : Wd K dk F' H' st :=
  ⟨x.s, x.h _ _ w.d1, x.h _ _ w.d2, ⟨x.n _ w.f1.1 (nn w.d1), by rw [x.m]; exact w.f1.2⟩, ⟨x.n _ w.f2.1 (nn w.d2), by rw [x.m]; exact w.f2.2⟩, w.ne, by rw [x.m]; exact w.ml, by rw [x.m]; exact w.nd,
    fun n a o h1 h2 => by
      rw [x.m] at h1
      obtain ⟨q1, q2⟩ := w.ob n a o h1 h2
      exact ⟨x.n _ q1 q2.some, q2.keep (fun o e => x.h _ _ e) x.f⟩⟩
theorem Px.trans {F2 : Fz} {H2 : Hp} (x : Px F H F' H') (y : Px F' H' F2 H2) : Px F H F2 H2 :=
  ⟨x.h.trans y.h, x.f.trans y.f, fun a h1 h2 => y.n a (x.n a h1 h2) (fun z => h2 (x.h.free z)), y.s, y.m.trans x.m, fun a o h f => x.k a o (y.k a o h f) f⟩
theorem updK {p : Addr} {o : HO} (nf : ¬ Fro o) (a : Addr) (u : HO) (h : upd H p o a = some u) (f : Fro u) : H a = some u := by
  by_cases na : a = p
  · subst na; rw [upd_same] at h; cases h; exact absurd f nf
  · rw [upd_ne na] at h; exact h
/-- a new frozen thing -/
theorem Px.new {p : Addr} {o : HO} (s : Sb F H) (hp : H p = none) (nf : ¬ Fro o := by rintro ⟨_, _, z⟩; cases z) : Px F H (F.up p o) (upd H p o) := by
  have fp : F p = none := s.free hp
  refine ⟨Lh.new hp, Le.new fp, fun a h1 h2 => ?_, fun a u e => ?_, rfl, updK nf⟩
  · have na : a ≠ p := fun z => h2 (z ▸ hp)
    rw [Fz.up_ne na]; exact h1
  · by_cases na : a = p
    · subst na
      rw [Fz.up_same] at e
      rw [upd_same]; exact .inl e
    · rw [Fz.up_ne na] at e; rw [upd_ne na]; exact s a u e
/-- a new thing that is not frozen -/
theorem Px.lay {p : Addr} {o : HO} (s : Sb F H) (hp : H p = none) (nf : ¬ Fro o := by rintro ⟨_, _, z⟩; cases z) : Px F H F (upd H p o) :=
  ⟨Lh.new hp, Le.refl F, fun _ h _ => h, s.lh (Lh.new hp), rfl, updK nf⟩

/-- data as it stands in this heap, whoever holds it -/
inductive Rw (K : Fg) (dk : Dk) (F : Fz) (H : Hp) : V → D → Prop
  | rp {v : V} {d : D} : Rp K dk F v d → Rw K dk F H v d
  | lst {p : Addr} {vs : List V} {ds : List D} : H p = some (.lst vs) → Rps K dk F vs ds → Rw K dk F H (.ref p) (.lst ds)
  | dic {p : Addr} {ks : List Key} {vs : List V} {ds : List D} : Rd H p (.dK (ks.zip vs)) → ks.length = vs.length → Rps K dk F vs ds → Rw K dk F H (.ref p) (.dic ks ds)
/-- data that stays while other things are worked out: frozen, or a name's own -/
inductive Ry (K : Fg) (dk : Dk) (F : Fz) (H : Hp) : V → D → Prop
  | rp {v : V} {d : D} : Rp K dk F v d → Ry K dk F H v d
  | lst {p : Addr} {vs : List V} {ds : List D} : H p = some (.lst vs) → p ≠ dk.1 → p ≠ dk.2 → p ∉ F.mu → Rps K dk F vs ds → Ry K dk F H (.ref p) (.lst ds)
  | dic {p : Addr} {ks : List Key} {vs : List V} {ds : List D} : Rd H p (.dK (ks.zip vs)) → p ≠ dk.1 → p ≠ dk.2 → p ∉ F.mu → ks.length = vs.length → Rps K dk F vs ds → Ry K dk F H (.ref p) (.dic ks ds)
theorem Ext.nmu (x : Ext dk F H F' H') {a : Addr} (h : a ∉ F.mu) (h2 : H a ≠ none) : a ∉ F'.mu := fun z => by
  rcases x.u a z with q | q
  · exact h q
  · exact h2 q
theorem rdn {a : Addr} {u : HO} (h : Rd H a u) : H a ≠ none := by
  rcases h with h | ⟨o, h⟩ <;> exact nn h
theorem Ext.rd (x : Ext dk F H F' H') {a : Addr} {u : HO} (h : Rd H a u) (n1 : a ≠ dk.1) (n2 : a ≠ dk.2) (n3 : a ∉ F.mu) : Rd H' a u := by
  rcases h with h | ⟨o, h⟩
  · exact .inl (x.h _ _ h n1 n2 (.inl n3))
  · exact .inr ⟨o, x.h _ _ h n1 n2 (.inl n3)⟩
theorem Ry.ext {v : V} {d : D} (r : Ry K dk F H v d) (x : Ext dk F H F' H') : Ry K dk F' H' v d := by
  cases r with
  | rp r => exact .rp (r.mono x.f)
  | lst h n1 n2 n3 r => exact .lst (x.h _ _ h n1 n2 (.inl n3)) n1 n2 (x.nmu n3 (nn h)) (r.mono x.f)
  | dic h n1 n2 n3 l r => exact .dic (x.rd h n1 n2 n3) n1 n2 (x.nmu n3 (rdn h)) l (r.mono x.f)
theorem Ry.w {v : V} {d : D} (r : Ry K dk F H v d) : Rw K dk F H v d := by
  cases r with
  | rp r => exact .rp r
  | lst h n1 n2 n3 r => exact .lst h r
  | dic h n1 n2 n3 l r => exact .dic h l r
inductive Rws (K : Fg) (dk : Dk) (F : Fz) (H : Hp) : List V → List D → Prop
  | nil : Rws K dk F H [] []
  | cons {v : V} {vs : List V} {d : D} {ds : List D} : Rw K dk F H v d → Rws K dk F H vs ds → Rws K dk F H (v :: vs) (d :: ds)
inductive Rys (K : Fg) (dk : Dk) (F : Fz) (H : Hp) : List V → List D → Prop
  | nil : Rys K dk F H [] []
  | cons {v : V} {vs : List V} {d : D} {ds : List D} : Ry K dk F H v d → Rys K dk F H vs ds → Rys K dk F H (v :: vs) (d :: ds)
theorem Rys.ext (x : Ext dk F H F' H') : ∀ {vs : List V} {ds : List D}, Rys K dk F H vs ds → Rys K dk F' H' vs ds
  | _, _, .nil => .nil
  | _, _, .cons a b => .cons (a.ext x) (Rys.ext x b)
/-- what a thing of the store is at this time -/
def dr (st : S) : D → D
  | .ref n => match st.ob[n]? with
    | some (.lst ds) => .lst ds
    | some (.dic _ ks ds) => .dic ks ds
    | _ => .ref n
  | d => d
theorem Ry.dr {v : V} {d : D} {st : S} (r : Ry K dk F H v d) (w : Wd K dk F H st) : Rw K dk F H v (dr st d) := by
  cases d with
  | ref n =>
    cases r with
    | rp r =>
      cases r with
      | ref h =>
        unfold MD.dr
        dsimp only
        split
        · rename_i ho
          obtain ⟨_, q⟩ := w.ob n _ _ h ho
          cases q with
          | lst h r => exact .lst h r
        · rename_i ho
          obtain ⟨_, q⟩ := w.ob n _ _ h ho
          cases q with
          | dic h l r => exact .dic (.inl h) l r
          | lck h l r => exact .dic (.inr ⟨_, h⟩) l r
        · exact .rp (.ref h)
  | _ => exact r.w
theorem Rys.dr {st : S} (w : Wd K dk F H st) : ∀ {vs : List V} {ds : List D}, Rys K dk F H vs ds → Rws K dk F H vs (ds.map (dr st))
  | _, _, .nil => .nil
  | _, _, .cons a b => .cons (a.dr w) (Rys.dr w b)
/-- a list in H, whoever owns it -/
theorem Rw.l {v : V} {ds : List D} (s : Sb F H) (r : Rw K dk F H v (.lst ds)) : ∃ p vs, v = .ref p ∧ H p = some (.lst vs) ∧ Rps K dk F vs ds := by
  cases r with
  | rp r => cases r with
    | lst h r => exact ⟨_, _, rfl, s.lst h, r⟩
  | lst h r => exact ⟨_, _, rfl, h, r⟩
theorem Rw.d {v : V} {ks : List Key} {ds : List D} (s : Sb F H) (r : Rw K dk F H v (.dic ks ds)) : ∃ p vs, v = .ref p ∧ Rd H p (.dK (ks.zip vs)) ∧ ks.length = vs.length ∧ Rps K dk F vs ds := by
  cases r with
  | rp r => cases r with
    | dic h l r => exact ⟨_, _, rfl, s.dK h, l, r⟩
  | dic h l r => exact ⟨_, _, rfl, h, l, r⟩
theorem Rw.tp {v : V} {ds : List D} (r : Rw K dk F H v (.tup ds)) : Rp K dk F v (.tup ds) := by
  cases r with
  | rp r => exact r
theorem Rw.tup {v : V} {ds : List D} (s : Sb F H) (r : Rw K dk F H v (.tup ds)) : ∃ p vs, v = .ref p ∧ SqT K H p vs ∧ Rps K dk F vs ds := by
  cases r.tp with
  | tup h r => exact ⟨_, _, rfl, s.sqT h, r⟩
theorem Rw.int {v : V} {i : Int} (r : Rw K dk F H v (.int i)) : v = .int i := by
  cases r with
  | rp r => cases r; rfl
theorem Rw.str {v : V} {x : Str} (r : Rw K dk F H v (.str x)) : v = .str x := by
  cases r with
  | rp r => cases r; rfl
theorem Rw.bl {v : V} {b : Bool} (r : Rw K dk F H v (.bl b)) : v = .bl b := by
  cases r with
  | rp r => cases r; rfl
theorem Rw.non {v : V} (r : Rw K dk F H v .non) : v = .non := by
  cases r with
  | rp r => cases r; rfl
theorem Rw.isNon {v : V} {d : D} (r : Rw K dk F H v d) : decide (v = .non) = (match d with | .non => true | _ => false) := by
  cases r with
  | rp r => cases r <;> rfl
  | lst _ _ => rfl
  | dic _ _ _ => rfl

/-! slots -/
def SlOk (K : Fg) (dk : Dk) (F : Fz) (H H0 : Hp) (v : Option V) : Sl → Prop
  | .un => True
  | .val d => ∃ x, v = some x ∧ Rp K dk F x d
  | .own w => ∃ p vs, v = some (.ref p) ∧ w.1.At H p vs ∧ F.out p ∧ H0 p = none ∧ p ≠ dk.1 ∧ p ≠ dk.2 ∧ Rps K dk F vs w.2
structure Good [WW] (K : Fg) (dk : Dk) (H0 : Hp) (F0 F : Fz) (σ : L2.St) (H : Hp) (env : Sg) (st : S) : Prop where
  wd : Wd K dk F H st
  ext : Ext dk F0 H0 F H
  len : σ.length = env.length
  sl : ∀ (i : Nat) (s : Sl), env[i]? = some s → SlOk K dk F H H0 (σ[i]?).join s
  dis : ∀ (i j : Nat) (ds es : Own) (p : Addr), i ≠ j → env[i]? = some (.own ds) → env[j]? = some (.own es) → σ[i]? = some (some (.ref p)) → σ[j]? ≠ some (some (.ref p))
theorem Good.step {H0 : Hp} {F0 : Fz} {σ : L2.St} {env : Sg} {st st' : S} (g : Good K dk H0 F0 F σ H env st) (x : Ext dk F H F' H') (w : Wd K dk F' H' st') : Good K dk H0 F0 F' σ H' env st' := by
  refine ⟨w, g.ext.trans x, g.len, fun i s e => ?_, g.dis⟩
  have q := g.sl i s e
  cases s with
  | un => trivial
  | val d => obtain ⟨v, h1, h2⟩ := q; exact ⟨v, h1, h2.mono x.f⟩
  | own ds =>
    obtain ⟨p, vs, h1, h2, h3, h4, h5, h6, h7⟩ := q
    exact ⟨p, vs, h1, h2.keep fun o e => x.h _ _ e h5 h6 (.inl h3.2), x.out h3 (by obtain ⟨o, ho⟩ := h2.some; exact nn ho), h4, h5, h6, h7.mono x.f⟩
theorem Good.px {H0 : Hp} {F0 : Fz} {σ : L2.St} {env : Sg} {st : S} (g : Good K dk H0 F0 F σ H env st) (x : Px F H F' H') : Good K dk H0 F0 F' σ H' env st := g.step x.ext (x.wd g.wd)
end
end MD

set_option Elab.async false
set_option linter.all false
set_option maxRecDepth 100000
set_option maxHeartbeats 1000000
namespace MD
open PySem L2
variable {ww : WW}

abbrev ME := Sg → S → Option (D × S)
abbrev MT := Sg → S → Option (Bool × S)
abbrev MA := Sg → S → Option (List D × S)

section
variable (K : Fg)
def Im [WW] (te : TE) (f : ME) : Prop := ∀ (dk : Dk) (H0 : Hp) (F0 F : Fz) (σ : L2.St) (H : Hp) (env : Sg) (st : S) (d : D) (st' : S), Good K dk H0 F0 F σ H env st → f env st = some (d, st') →
  ∀ Q : VK, (∀ v F' H', Ext dk F H F' H' → Good K dk H0 F0 F' σ H' env st' → Rp K dk F' v d → Q v H') → te σ H Q
def ImW [WW] (te : TE) (f : ME) : Prop := ∀ (dk : Dk) (H0 : Hp) (F0 F : Fz) (σ : L2.St) (H : Hp) (env : Sg) (st : S) (d : D) (st' : S), Good K dk H0 F0 F σ H env st → f env st = some (d, st') →
  ∀ Q : VK, (∀ v F' H', Ext dk F H F' H' → Good K dk H0 F0 F' σ H' env st' → Ry K dk F' H' v d → Q v H') → te σ H Q
def ImF [WW] (te : TE) (f : MA) : Prop := ∀ (dk : Dk) (H0 : Hp) (F0 F : Fz) (σ : L2.St) (H : Hp) (env : Sg) (st : S) (ds : List D) (st' : S), Good K dk H0 F0 F σ H env st → f env st = some (ds, st') →
  ∀ Q : VK, (∀ p vs F' H', Ext dk F H F' H' → Good K dk H0 F0 F' σ H' env st' → H p = none → F'.out p → H' p = some (.lst vs) → Rps K dk F' vs ds → Q (.ref p) H') → te σ H Q
def ImT [WW] (tt : TT) (f : MT) : Prop := ∀ (dk : Dk) (H0 : Hp) (F0 F : Fz) (σ : L2.St) (H : Hp) (env : Sg) (st : S) (b : Bool) (st' : S), Good K dk H0 F0 F σ H env st → f env st = some (b, st') →
  ∀ Q : Bool → Hp → Prop, (∀ F' H', Ext dk F H F' H' → Good K dk H0 F0 F' σ H' env st' → Q b H') → tt σ H Q
def ImA [WW] (ta : TA) (f : MA) : Prop := ∀ (dk : Dk) (H0 : Hp) (F0 F : Fz) (σ : L2.St) (H : Hp) (env : Sg) (st : S) (ds : List D) (st' : S), Good K dk H0 F0 F σ H env st → f env st = some (ds, st') →
  ∀ Q : List V → Hp → Prop, (∀ vs F' H', Ext dk F H F' H' → Good K dk H0 F0 F' σ H' env st' → Rps K dk F' vs ds → Q vs H') → ta σ H Q
def ImAW [WW] (ta : TA) (f : MA) : Prop := ∀ (dk : Dk) (H0 : Hp) (F0 F : Fz) (σ : L2.St) (H : Hp) (env : Sg) (st : S) (ds : List D) (st' : S), Good K dk H0 F0 F σ H env st → f env st = some (ds, st') →
  ∀ Q : List V → Hp → Prop, (∀ vs F' H', Ext dk F H F' H' → Good K dk H0 F0 F' σ H' env st' → Rys K dk F' H' vs ds → Q vs H') → ta σ H Q
end

theorem bnd {α β : Type} {o : Option α} {f : α → Option β} {b : β} (h : o.bind f = some b) : ∃ a, o = some a ∧ f a = some b := by
  cases o with
  | none => cases h
  | some a => exact ⟨a, rfl, h⟩
theorem mpd {α β : Type} {o : Option α} {f : α → β} {b : β} (h : o.map f = some b) : ∃ a, o = some a ∧ f a = b := by
  cases o with
  | none => cases h
  | some a => exact ⟨a, rfl, Option.some.inj h⟩

section
variable {K : Fg} {dk : Dk} {F F' F0 : Fz} {H H' H0 : Hp} {σ : L2.St} {env : Sg} {st : S}
theorem Good.fresh0 (g : Good K dk H0 F0 F σ H env st) {p : Addr} (hp : H p = none) : H0 p = none := by
  cases q : H0 p with
  | none => rfl
  | some o => exact absurd hp (g.ext.m p (by rw [q]; exact fun z => nomatch z))
theorem Good.nedk (g : Good K dk H0 F0 F σ H env st) {p : Addr} (hp : H p = none) : p ≠ dk.1 ∧ p ≠ dk.2 :=
  ⟨fun z => (by rw [z, g.wd.d1] at hp; cases hp), fun z => (by rw [z, g.wd.d2] at hp; cases hp)⟩
theorem join_eq {x : Option (Option V)} {v : V} (h : x.join = some v) : x = some (some v) := by
  cases x with
  | none => cases h
  | some y => cases y with
    | none => cases h
    | some z => rw [show z = v from Option.some.inj h]
theorem Good.noown (g : Good K dk H0 F0 F σ H env st) {p : Addr} (hp : H p = none) : ∀ (i : Nat) (ds : Own), env[i]? = some (.own ds) → σ[i]? ≠ some (some (.ref p)) := fun i ds e z => by
  obtain ⟨q, vs, h1, h2, _⟩ := g.sl i _ e
  have h3 := join_eq h1
  rw [z] at h3
  cases h3
  obtain ⟨o, ho⟩ := h2.some
  rw [hp] at ho; cases ho
/-- what is nobody's own may be frozen -/
theorem Wd.freeze {p : Addr} {o : HO} (w : Wd K dk F H st) (hp : H p = some o) (fp : F.out p) (n1 : p ≠ dk.1) (n2 : p ≠ dk.2) : Wd K dk (F.up p o) H st := by
  have le : Le F (F.up p o) := Le.new fp.1
  refine ⟨fun a u e => ?_, w.d1, w.d2, ⟨by rw [Fz.up_ne n1.symm]; exact w.f1.1, w.f1.2⟩, ⟨by rw [Fz.up_ne n2.symm]; exact w.f2.1, w.f2.2⟩, w.ne, w.ml, w.nd, fun n a u h1 h2 => ?_⟩
  · by_cases na : a = p
    · subst na; rw [Fz.up_same] at e; rw [← e]; exact .inl hp
    · rw [Fz.up_ne na] at e; exact w.sub a u e
  · obtain ⟨q1, q2⟩ := w.ob n a u h1 h2
    have na : a ≠ p := fun z => fp.2 (z ▸ List.mem_of_getElem? h1)
    exact ⟨by rw [Fz.up_ne na]; exact q1, q2.keep (fun _ e => e) le⟩
theorem Good.freeze {p : Addr} {o : HO} (g : Good K dk H0 F0 F σ H env st) (hp : H p = some o) (fp : F.out p) (h0 : H0 p = none) (n1 : p ≠ dk.1) (n2 : p ≠ dk.2)
    (no : ∀ (i : Nat) (ds : Own), env[i]? = some (.own ds) → σ[i]? ≠ some (some (.ref p))) : Good K dk H0 F0 (F.up p o) σ H env st := by
  have le : Le F (F.up p o) := Le.new fp.1
  refine ⟨g.wd.freeze hp fp n1 n2, ⟨g.ext.h, g.ext.f.trans le, fun a h1 h2 => ?_, g.ext.m, g.ext.u, g.ext.k⟩, g.len, fun i s e => ?_, g.dis⟩
  · have na : a ≠ p := fun z => h2 (z ▸ h0)
    rw [Fz.up_ne na]; exact g.ext.n a h1 h2
  · have q := g.sl i s e
    cases s with
    | un => trivial
    | val d => obtain ⟨v, h1, h2⟩ := q; exact ⟨v, h1, h2.mono le⟩
    | own ds =>
      obtain ⟨r, vs, h1, h2, h3, h4, h5, h6, h7⟩ := q
      have nr : r ≠ p := fun z => no i ds e (by rw [← z]; exact join_eq h1)
      exact ⟨r, vs, h1, h2, ⟨by rw [Fz.up_ne nr]; exact h3.1, h3.2⟩, h4, h5, h6, h7.mono le⟩
theorem Ext.freeze {p : Addr} {o : HO} (x : Ext dk F H F' H') (hp : H p = none) (fp : F'.out p) : Ext dk F H (F'.up p o) H' :=
  ⟨x.h, x.f.trans (Le.new fp.1), fun a h1 h2 => by
    have na : a ≠ p := fun z => h2 (z ▸ hp)
    rw [Fz.up_ne na]; exact x.n a h1 h2, x.m, x.u, x.k⟩

theorem Im.w {te : TE} {f : ME} (h : Im K te f) : ImW K te f := fun dk H0 F0 F σ H env st d st' g e Q q =>
  h dk H0 F0 F σ H env st d st' g e Q fun v F' H' x g' r => q v F' H' x g' (.rp r)
def frz (f : MA) : ME := fun env st => (f env st).map fun p => (.lst p.1, p.2)
theorem ImF.im {te : TE} {f : MA} (h : ImF K te f) : Im K te (frz f) := fun dk H0 F0 F σ H env st d st' g e Q q => by
  obtain ⟨⟨ds, s1⟩, h1, h2⟩ := mpd e
  cases h2
  refine h dk H0 F0 F σ H env st ds s1 g h1 Q fun p vs F' H' x g' hp fp hl r => ?_
  have nd := g.nedk hp
  have le : Le F' (Fz.up F' p (.lst vs)) := Le.new fp.1
  exact q (.ref p) (Fz.up F' p (.lst vs)) H' (x.freeze hp fp) (g'.freeze hl fp (g.fresh0 hp) nd.1 nd.2 (g.noown hp)) (.lst Fz.up_same (r.mono le))
theorem ImF.w {te : TE} {f : MA} (h : ImF K te f) : ImW K te (frz f) := h.im.w

/-! names, constants -/
def rd (i : Nat) : ME := fun env st => match env[i]? with
  | some (.val d) => some (d, st)
  | _ => none
def rdW (i : Nat) : ME := fun env st => match env[i]? with
  | some (.val d) => some (d, st)
  | some (.own (.lst, ds)) => some (.lst ds, st)
  | some (.own (.dic ks, ds)) => some (.dic ks ds, st)
  | _ => none
theorem im_var (i : Nat) : Im K (tVar i) (rd i) := fun dk H0 F0 F σ H env st d st' g e Q q => by
  unfold rd at e
  split at e
  · rename_i d' he
    cases e
    obtain ⟨v, h1, h2⟩ := g.sl i _ he
    exact ⟨v, join_eq h1, q v F H (Ext.refl F H) g h2⟩
  · cases e
theorem im_own (i : Nat) : ImW K (tVar i) (rdW i) := fun dk H0 F0 F σ H env st d st' g e Q q => by
  unfold rdW at e
  split at e
  · rename_i d' he
    cases e
    obtain ⟨v, h1, h2⟩ := g.sl i _ he
    exact ⟨v, join_eq h1, q v F H (Ext.refl F H) g (.rp h2)⟩
  · rename_i ds he
    cases e
    obtain ⟨p, vs, h1, h2, h3, h4, h5, h6, h7⟩ := g.sl i _ he
    exact ⟨.ref p, join_eq h1, q (.ref p) F H (Ext.refl F H) g (.lst h2 h5 h6 h3.2 h7)⟩
  · rename_i ks ds he
    cases e
    obtain ⟨p, vs, h1, h2, h3, h4, h5, h6, h7⟩ := g.sl i _ he
    exact ⟨.ref p, join_eq h1, q (.ref p) F H (Ext.refl F H) g (.dic (.inl h2.1) h5 h6 h3.2 h2.2 h7)⟩
  · cases e
def cst (d : D) : ME := fun _ st => some (d, st)
/-- a value that stands for itself in every heap -/
def Rc (K : Fg) (v : V) (d : D) : Prop := ∀ dk F, Rp K dk F v d
theorem im_c {v : V} {d : D} (h : Rc K v d) : Im K (tC v) (cst d) := fun dk H0 F0 F σ H env st d' st' g e Q q => by
  cases e
  exact q v F H (Ext.refl F H) g (h dk F)
theorem im_int {i : Int} : Im K (tC (.int i)) (cst (.int i)) := im_c fun _ _ => .int i
theorem im_str {i : Str} : Im K (tC (.str i)) (cst (.str i)) := im_c fun _ _ => .str i
theorem im_bl {i : Bool} : Im K (tC (.bl i)) (cst (.bl i)) := im_c fun _ _ => .bl i
theorem im_non : Im K (tC .non) (cst .non) := im_c fun _ _ => .non

/-! two-place operations on values -/
def RO [WW] (K : Fg) (r : R2) (f : D → D → Option D) : Prop := ∀ (dk : Dk) (F : Fz) (H : Hp) (st : S) (x y : V) (d e z : D), Wd K dk F H st → Rw K dk F H x d → Rw K dk F H y e → f d e = some z →
  ∀ Q : VK, (∀ v F' H', Px F H F' H' → Rp K dk F' v z → Q v H') → r x y H Q
def ROF [WW] (K : Fg) (r : R2) (f : D → D → Option (List D)) : Prop := ∀ (dk : Dk) (F : Fz) (H : Hp) (st : S) (x y : V) (d e : D) (z : List D), Wd K dk F H st → Rw K dk F H x d → Rw K dk F H y e → f d e = some z →
  ∀ Q : VK, (∀ p vs, H p = none → Rps K dk F vs z → Q (.ref p) (upd H p (.lst vs))) → r x y H Q
def opM (f : D → D → Option D) (fa fb : ME) : ME := fun env st => (fa env st).bind fun p => (fb env p.2).bind fun q => (f (dr q.2 p.1) (dr q.2 q.1)).map fun z => (z, q.2)
def opF (f : D → D → Option (List D)) (fa fb : ME) : MA := fun env st => (fa env st).bind fun p => (fb env p.2).bind fun q => (f (dr q.2 p.1) (dr q.2 q.1)).map fun z => (z, q.2)
theorem im_op {r : R2} {f : D → D → Option D} {ta tb : TE} {fa fb : ME} (hr : RO K r f) (ha : ImW K ta fa) (hb : ImW K tb fb) : Im K (tOp r ta tb) (opM f fa fb) := fun dk H0 F0 F σ H env st d st' g e Q q => by
  obtain ⟨⟨x, s1⟩, h1, e⟩ := bnd e
  obtain ⟨⟨y, s2⟩, h2, e⟩ := bnd e
  obtain ⟨z, h3, e⟩ := mpd e
  cases e
  refine ha dk H0 F0 F σ H env st x s1 g h1 _ fun v F1 H1 x1 g1 r1 => ?_
  refine hb dk H0 F0 F1 σ H1 env s1 y s2 g1 h2 _ fun u F2 H2 x2 g2 r2 => ?_
  exact hr dk F2 H2 s2 v u _ _ d g2.wd ((r1.ext x2).dr g2.wd) (r2.dr g2.wd) h3 Q fun w F3 H3 px r3 => q w F3 H3 ((x1.trans x2).trans px.ext) (g2.px px) r3
theorem im_opF {r : R2} {f : D → D → Option (List D)} {ta tb : TE} {fa fb : ME} (hr : ROF K r f) (ha : ImW K ta fa) (hb : ImW K tb fb) : ImF K (tOp r ta tb) (opF f fa fb) := fun dk H0 F0 F σ H env st d st' g e Q q => by
  obtain ⟨⟨x, s1⟩, h1, e⟩ := bnd e
  obtain ⟨⟨y, s2⟩, h2, e⟩ := bnd e
  obtain ⟨z, h3, e⟩ := mpd e
  cases e
  refine ha dk H0 F0 F σ H env st x s1 g h1 _ fun v F1 H1 x1 g1 r1 => ?_
  refine hb dk H0 F0 F1 σ H1 env s1 y s2 g1 h2 _ fun u F2 H2 x2 g2 r2 => ?_
  refine hr dk F2 H2 s2 v u _ _ d g2.wd ((r1.ext x2).dr g2.wd) (r2.dr g2.wd) h3 Q fun p vs hp r3 => ?_
  have x12 := x1.trans x2
  have h0 : H p = none := by
    cases w : H p with
    | none => rfl
    | some o => exact absurd hp (x12.m p (by rw [w]; exact fun z => nomatch z))
  have px : Px F2 H2 F2 (upd H2 p (.lst vs)) := Px.lay g2.wd.sub hp
  exact q p vs F2 _ (x12.trans px.ext) (g2.px px) h0 (g2.wd.out hp) upd_same r3
theorem RO.or {r r' : R2} {f f' : D → D → Option D} (h : RO K r f) (h' : RO K r' f') : RO K (fun x y H Q => r x y H Q ∨ r' x y H Q) (fun d e => (f d e).orElse fun _ => f' d e) := by
  intro dk F H st x y d e z w rx ry hz Q q
  replace hz : ((f d e).orElse fun _ => f' d e) = some z := hz
  cases hf : f d e with
  | some y' =>
    rw [hf] at hz
    have : some y' = some z := hz
    cases this
    exact .inl (h dk F H st x y d e z w rx ry hf Q q)
  | none =>
    rw [hf] at hz
    exact .inr (h' dk F H st x y d e z w rx ry hz Q q)
theorem ROF.ro {r : R2} {f : D → D → Option (List D)} (h : ROF K r f) : RO K r (fun d e => (f d e).map D.lst) := by
  intro dk F H st x y d e z w rx ry hz Q q
  obtain ⟨ds, h1, h2⟩ := mpd hz
  subst h2
  refine h dk F H st x y d e ds w rx ry h1 Q fun p vs hp r => ?_
  have px : Px F H (Fz.up F p (.lst vs)) (upd H p (.lst vs)) := Px.new w.sub hp
  exact q (.ref p) _ _ px (.lst Fz.up_same (r.mono px.f))

/-! ints -/
def iI (g : Int → Int → D) : D → D → Option D
  | .int i, .int j => some (g i j)
  | _, _ => none
def iIC (C : Int → Int → Prop) [∀ i j, Decidable (C i j)] (g : Int → Int → D) : D → D → Option D
  | .int i, .int j => if C i j then some (g i j) else none
  | _, _ => none
theorem ro_I0 {g : Int → Int → V} {g' : Int → Int → D} (h : ∀ i j, Rc K (g i j) (g' i j)) : RO K (rI0 g) (iI g') := by
  intro dk F H st x y d e z w rx ry hz Q q
  unfold iI at hz
  split at hz
  · rename_i i j
    cases hz
    cases rx.int
    cases ry.int
    exact ⟨i, j, rfl, rfl, q _ F H (Px.refl w.sub) (h i j dk F)⟩
  · cases hz
theorem ro_I {C : Int → Int → Prop} [∀ i j, Decidable (C i j)] {g : Int → Int → V} {g' : Int → Int → D} (h : ∀ i j, Rc K (g i j) (g' i j)) : RO K (rI C g) (iIC C g') := by
  intro dk F H st x y d e z w rx ry hz Q q
  unfold iIC at hz
  split at hz
  · rename_i i j
    split at hz
    · rename_i hc
      cases hz
      cases rx.int
      cases ry.int
      exact ⟨i, j, rfl, rfl, hc, q _ F H (Px.refl w.sub) (h i j dk F)⟩
    · cases hz
  · cases hz
theorem rc_int (i : Int) : Rc K (.int i) (.int i) := fun _ _ => .int i
theorem rc_bl (i : Bool) : Rc K (.bl i) (.bl i) := fun _ _ => .bl i
theorem rc_str (i : Str) : Rc K (.str i) (.str i) := fun _ _ => .str i
instance : ∀ i j, Decidable (CMul i j) := fun i j => by unfold CMul; exact inferInstance
instance : ∀ i j, Decidable (CDiv i j) := fun i j => by unfold CDiv; exact inferInstance
instance : ∀ i j, Decidable (CPow i j) := fun i j => by unfold CPow; exact inferInstance

/-! + -/
def strCat : D → D → Option D
  | .str i, .str j => if i.length + j.length ≤ sizeLine then some (.str (i ++ j)) else none
  | _, _ => none
def tupCat : D → D → Option D
  | .tup i, .tup j => if i.length + j.length ≤ sizeLine then some (.tup (i ++ j)) else none
  | _, _ => none
def lstCat : D → D → Option (List D)
  | .lst i, .lst j => if i.length + j.length ≤ sizeLine then some (i ++ j) else none
  | _, _ => none
theorem ro_strCat : RO K (fun x y H Q => ∃ i j, x = .str i ∧ y = .str j ∧ i.length + j.length ≤ sizeLine ∧ Q (.str (i ++ j)) H) strCat := by
  intro dk F H st x y d e z w rx ry hz Q q
  unfold strCat at hz
  split at hz
  · rename_i i j
    split at hz
    · rename_i hc
      cases hz
      exact ⟨i, j, rx.str, ry.str, hc, q _ F H (Px.refl w.sub) (.str _)⟩
    · cases hz
  · cases hz
theorem ro_tupCat : RO K (rCatA K) tupCat := by
  intro dk F H st x y d e z w rx ry hz Q q
  unfold tupCat at hz
  split at hz
  · rename_i i j
    split at hz
    · rename_i hc
      cases hz
      obtain ⟨p, vs, e1, h1, r1⟩ := rx.tup w.sub
      obtain ⟨p2, vs2, e2, h2, r2⟩ := ry.tup w.sub
      refine ⟨p, p2, vs, vs2, e1, e2, h1, h2, by rw [r1.length, r2.length]; exact hc, fun z => ?_, fun _ z => ?_, fun _ _ a ha => ?_⟩
      · subst z
        cases r1
        subst e2
        exact q _ F H (Px.refl w.sub) ry.tp
      · subst z
        cases r2
        subst e1
        rw [List.append_nil] at q
        exact q _ F H (Px.refl w.sub) rx.tp
      · have px : Px F H (Fz.up F a (.tup (vs ++ vs2))) (upd H a (.tup (vs ++ vs2))) := Px.new w.sub ha
        exact q _ _ _ px (.tup (SqT.of Fz.up_same) ((r1.append r2).mono px.f))
    · cases hz
  · cases hz
theorem rof_lstCat : ROF K rCat lstCat := by
  intro dk F H st x y d e z w rx ry hz Q q
  unfold lstCat at hz
  split at hz
  · rename_i i j
    split at hz
    · rename_i hc
      cases hz
      obtain ⟨p, vs, e1, h1, r1⟩ := rx.l w.sub
      obtain ⟨p2, vs2, e2, h2, r2⟩ := ry.l w.sub
      exact ⟨p, p2, vs, vs2, e1, e2, h1, h2, by rw [r1.length, r2.length]; exact hc, fun a ha => q a _ ha (r1.append r2)⟩
    · cases hz
  · cases hz
end
end MD

set_option Elab.async false
set_option linter.all false
set_option maxRecDepth 100000
set_option maxHeartbeats 1000000
namespace MD
open PySem L2
variable {ww : WW}

/-! ### data as the library's -/
mutual
def D.py : D → PyData
  | .non => .none
  | .bl b => .bool b
  | .int i => .int i
  | .str s => .str s
  | .lst xs => .list (pyAll xs)
  | .tup xs => .tuple (pyAll xs)
  | .deck => .none
  | .dic _ _ => .none
  | .ref _ => .none
def pyAll : List D → List PyData
  | [] => []
  | x :: xs => D.py x :: pyAll xs
end
mutual
def D.pl : D → Bool
  | .lst xs => plAll xs
  | .tup xs => plAll xs
  | .deck => false
  | .dic _ _ => false
  | .ref _ => false
  | _ => true
def plAll : List D → Bool
  | [] => true
  | x :: xs => D.pl x && plAll xs
end
mutual
theorem Rp.dp {K : Fg} {dk : Dk} {F : Fz} {H : Hp} (le : Sb F H) : ∀ {v : V} {d : D}, Rp K dk F v d → d.pl = true → Dp K H v d.py
  | _, _, .non, _ => .non
  | _, _, .bl b, _ => .bl b
  | _, _, .int i, _ => .int i
  | _, _, .str x, _ => .str x
  | _, _, .lst h r, p => .lst (SqL.of (le.lst h)) (Rps.dp le r (by simpa [D.pl] using p))
  | _, _, .tup h r, p => .tup (le.sqT h) (Rps.dp le r (by simpa [D.pl] using p))
  | _, _, .deck, p => by simp [D.pl] at p
  | _, _, .dic _ _ _, p => by simp [D.pl] at p
  | _, _, .ref _, p => by simp [D.pl] at p
theorem Rps.dp {K : Fg} {dk : Dk} {F : Fz} {H : Hp} (le : Sb F H) : ∀ {vs : List V} {ds : List D}, Rps K dk F vs ds → plAll ds = true → DpAll K H vs (pyAll ds)
  | _, _, .nil, _ => .nil
  | _, _, .cons a b, p => by
    rw [plAll, Bool.and_eq_true] at p
    exact .cons (Rp.dp le a p.1) (Rps.dp le b p.2)
end
section
variable {K : Fg} {dk : Dk} {F F' F0 : Fz} {H H' H0 : Hp} {σ : L2.St} {env : Sg} {st : S}
theorem Rw.dp (le : Sb F H) {v : V} {d : D} (r : Rw K dk F H v d) (p : d.pl = true) : Dp K H v d.py := by
  cases r with
  | rp r => exact r.dp le p
  | lst h r => exact .lst (SqL.of h) (r.dp le (by simpa [D.pl] using p))
  | dic _ _ _ => simp [D.pl] at p

/-! ### == -/
def sEq : D → D → Option Bool
  | .non, .non => some true
  | .non, .int _ => some false | .int _, .non => some false
  | .non, .str _ => some false | .str _, .non => some false
  | .int i, .int j => some (decide (i = j))
  | .bl i, .bl j => some (decide (i = j))
  | .str i, .str j => some (decide (i = j))
  | _, _ => none
def okD (d : D) : Bool := d.pl && SeqAt.shaped d.py
def eqB (d e : D) : Option Bool := match sEq d e with
  | some b => some b
  | none => if okD d && okD e then some (PyData.eqv d.py e.py) else none
def eqM (d e : D) : Option D := (eqB d e).map D.bl
def neM (d e : D) : Option D := (eqB d e).map fun b => D.bl (!b)
theorem dec_congr {p q : Prop} [Decidable p] [Decidable q] (h : p ↔ q) : decide p = decide q := by
  by_cases hp : p
  · rw [decide_eq_true hp, decide_eq_true (h.mp hp)]
  · rw [decide_eq_false hp, decide_eq_false fun z => hp (h.mpr z)]
theorem sEq_ok {x y : V} {d e : D} {b : Bool} (rx : Rw K dk F H x d) (ry : Rw K dk F H y e) (h : sEq d e = some b) : scal x y = true ∧ decide (x = y) = b := by
  unfold sEq at h
  split at h <;> cases h
  · cases rx.non; cases ry.non; exact ⟨rfl, rfl⟩
  · cases rx.non; cases ry.int; exact ⟨rfl, rfl⟩
  · cases rx.int; cases ry.non; exact ⟨rfl, rfl⟩
  · cases rx.non; cases ry.str; exact ⟨rfl, rfl⟩
  · cases rx.str; cases ry.non; exact ⟨rfl, rfl⟩
  · cases rx.int; cases ry.int; exact ⟨rfl, dec_congr ⟨fun z => V.int.inj z, fun z => by rw [z]⟩⟩
  · cases rx.bl; cases ry.bl; exact ⟨rfl, dec_congr ⟨fun z => V.bl.inj z, fun z => by rw [z]⟩⟩
  · cases rx.str; cases ry.str; exact ⟨rfl, dec_congr ⟨fun z => V.str.inj z, fun z => by rw [z]⟩⟩
def rEqA (K : Fg) : R2 := fun x y H Q => rEq x y H Q ∨ rEqD K x y H Q
def rNeA (K : Fg) : R2 := fun x y H Q => rNe x y H Q ∨ rNeD K x y H Q
theorem OpR.or {X : Cx} {f : Value → Value → Sem Value} {r r' : R2} (h : OpR X f r) (h' : OpR X f r') : OpR X f (fun x y H Q => r x y H Q ∨ r' x y H Q) := by
  intro pins s σ H x y v u Q I rx ry q
  rcases q with q | q
  · exact h pins s σ H x y v u Q I rx ry q
  · exact h' pins s σ H x y v u Q I rx ry q
theorem eqB_ok {x y : V} {d e : D} {b : Bool} (le : Sb F H) (rx : Rw K dk F H x d) (ry : Rw K dk F H y e) (h : eqB d e = some b) :
    (scal x y = true ∧ decide (x = y) = b) ∨ ∃ d e, Dp K H x d ∧ Dp K H y e ∧ SeqAt.shaped d = true ∧ SeqAt.shaped e = true ∧ PyData.eqv d e = b := by
  unfold eqB at h
  split at h
  · rename_i b' hb
    cases h
    exact .inl (sEq_ok rx ry hb)
  · split at h
    · rename_i ho
      cases h
      rw [Bool.and_eq_true, okD, okD, Bool.and_eq_true, Bool.and_eq_true] at ho
      exact .inr ⟨d.py, e.py, rx.dp le ho.1.1, ry.dp le ho.2.1, ho.1.2, ho.2.2, rfl⟩
    · cases h
theorem ro_eq : RO K (rEqA K) eqM := by
  intro dk F H st x y d e z w rx ry hz Q q
  obtain ⟨b, hb, rfl⟩ := mpd hz
  have q0 := q (.bl b) F H (Px.refl w.sub) (.bl b)
  rcases eqB_ok w.sub rx ry hb with ⟨h1, h2⟩ | ⟨d', e', h1, h2, h3, h4, h5⟩
  · exact .inl ⟨h1, by rw [h2]; exact q0⟩
  · exact .inr ⟨d', e', h1, h2, h3, h4, by rw [h5]; exact q0⟩
theorem ro_ne : RO K (rNeA K) neM := by
  intro dk F H st x y d e z w rx ry hz Q q
  obtain ⟨b, hb, rfl⟩ := mpd hz
  have q0 := q (.bl (!b)) F H (Px.refl w.sub) (.bl (!b))
  rcases eqB_ok w.sub rx ry hb with ⟨h1, h2⟩ | ⟨d', e', h1, h2, h3, h4, h5⟩
  · exact .inl ⟨h1, by rw [h2]; exact q0⟩
  · exact .inr ⟨d', e', h1, h2, h3, h4, by rw [h5]; exact q0⟩
theorem op_eqA {X : Cx} (hu : X.A.units + 64 < cLine) : OpR X (compareOp .Eq) (rEqA X.K) := OpR.or op_eq (op_eqD hu)
theorem op_neA {X : Cx} (hu : X.A.units + 64 < cLine) : OpR X (compareOp .NotEq) (rNeA X.K) := OpR.or op_ne (op_neD hu)

/-! ### is None -/
def nonD : D → Bool
  | .non => true
  | _ => false
def isM : D → D → Option D
  | d, .non => some (.bl (nonD d))
  | _, _ => none
def isNotM : D → D → Option D
  | d, .non => some (.bl (!nonD d))
  | _, _ => none
theorem Rw.isN {v : V} {d : D} (r : Rw K dk F H v d) : decide (v = .non) = nonD d := by
  rw [r.isNon]; cases d <;> rfl
theorem ro_is : RO K (fun x y H Q => y = .non ∧ Q (.bl (decide (x = .non))) H) isM := by
  intro dk F H st x y d e z w rx ry hz Q q
  unfold isM at hz
  split at hz
  · cases hz
    exact ⟨ry.non, by rw [rx.isN]; exact q _ F H (Px.refl w.sub) (.bl _)⟩
  · cases hz
theorem ro_isNot : RO K (fun x y H Q => y = .non ∧ Q (.bl (!decide (x = .non))) H) isNotM := by
  intro dk F H st x y d e z w rx ry hz Q q
  unfold isNotM at hz
  split at hz
  · cases hz
    exact ⟨ry.non, by rw [rx.isN]; exact q _ F H (Px.refl w.sub) (.bl _)⟩
  · cases hz

/-! ### in -/
def signOf (a : Str) : Option Nat := match a.cps.toList with
  | [c] => some c
  | _ => none
theorem signOf_eq {a : Str} {c : Nat} (h : signOf a = some c) : a = ⟨#[c]⟩ := by
  unfold signOf at h
  split at h
  · rename_i c' hc
    cases h
    obtain ⟨⟨l⟩⟩ := a
    have : l = [c] := hc
    rw [this]
  · cases h
def inSign : D → D → Option D
  | .str a, .str z => (signOf a).map fun c => .bl (decide (c ∈ z.cps.toList))
  | _, _ => none
def notInSign : D → D → Option D
  | .str a, .str z => (signOf a).map fun c => .bl (!decide (c ∈ z.cps.toList))
  | _, _ => none
theorem ro_inSign : RO K (fun x y H Q => ∃ (c : Nat) (z : Str), x = .str ⟨#[c]⟩ ∧ y = .str z ∧ Q (.bl (decide (c ∈ z.cps.toList))) H) inSign := by
  intro dk F H st x y d e z w rx ry hz Q q
  unfold inSign at hz
  split at hz
  · obtain ⟨c, hc, rfl⟩ := mpd hz
    exact ⟨c, _, by rw [rx.str, signOf_eq hc], ry.str, q _ F H (Px.refl w.sub) (.bl _)⟩
  · cases hz
theorem ro_notInSign : RO K (fun x y H Q => ∃ (c : Nat) (z : Str), x = .str ⟨#[c]⟩ ∧ y = .str z ∧ Q (.bl (!decide (c ∈ z.cps.toList))) H) notInSign := by
  intro dk F H st x y d e z w rx ry hz Q q
  unfold notInSign at hz
  split at hz
  · obtain ⟨c, hc, rfl⟩ := mpd hz
    exact ⟨c, _, by rw [rx.str, signOf_eq hc], ry.str, q _ F H (Px.refl w.sub) (.bl _)⟩
  · cases hz
def flatD : D → Bool
  | .non => true | .bl _ => true | .int _ => true | .str _ => true
  | _ => false
def eqFD : D → D → Bool
  | .non, .non => true
  | .bl a, .bl b => a == b
  | .bl a, .int b => (if a then 1 else 0) == b
  | .int a, .bl b => a == (if b then 1 else 0)
  | .int a, .int b => a == b
  | .str a, .str b => a == b
  | _, _ => false
theorem Rp.flat {v : V} {d : D} (r : Rp K dk F v d) (h : flatD d = true) : flatV v = true := by
  cases r <;> first | rfl | cases h
theorem Rp.eqF {v u : V} {d e : D} (r : Rp K dk F v d) (r' : Rp K dk F u e) (h : flatD d = true) (h' : flatD e = true) : eqV v u = eqFD d e := by
  cases r <;> first | (cases r' <;> first | rfl | cases h') | cases h
theorem Rw.flat {v : V} {d : D} (r : Rw K dk F H v d) (h : flatD d = true) : Rp K dk F v d := by
  cases r with
  | rp r => exact r
  | lst _ _ => cases h
  | dic _ _ _ => cases h
def inB (x : D) (ys : List D) : Bool := ys.any fun y => eqFD y x
theorem Rps.inV {x : V} {d : D} (r : Rp K dk F x d) (h : flatD d = true) : ∀ {vs : List V} {ds : List D}, Rps K dk F vs ds → ds.all flatD = true → vs.all flatV = true ∧ L2.inV x vs = inB d ds
  | _, _, .nil, _ => ⟨rfl, rfl⟩
  | _, _, .cons a b, p => by
    rw [List.all_cons, Bool.and_eq_true] at p
    obtain ⟨h1, h2⟩ := Rps.inV r h b p.2
    refine ⟨by rw [List.all_cons, a.flat p.1, h1]; rfl, ?_⟩
    unfold L2.inV inB at h2 ⊢
    rw [List.any_cons, List.any_cons, h2, a.eqF r p.1 h]
def inSeq (neg : Bool) : D → D → Option D
  | x, .lst ds => if flatD x && ds.all flatD then some (.bl (if neg then !inB x ds else inB x ds)) else none
  | x, .tup ds => if flatD x && ds.all flatD then some (.bl (if neg then !inB x ds else inB x ds)) else none
  | _, _ => none
theorem ro_inSeq (neg : Bool) : RO K (rIn K neg) (inSeq neg) := by
  intro dk F H st x y d e z w rx ry hz Q q
  unfold inSeq at hz
  split at hz
  · split at hz
    · rename_i ho
      cases hz
      rw [Bool.and_eq_true] at ho
      obtain ⟨p, vs, rfl, hl, r⟩ := ry.l w.sub
      have rx' := rx.flat ho.1
      obtain ⟨h1, h2⟩ := r.inV rx' ho.1 ho.2
      exact ⟨p, vs, rfl, .inl (SqL.of hl), rx'.flat ho.1, h1, by rw [h2]; exact q _ F H (Px.refl w.sub) (.bl _)⟩
    · cases hz
  · split at hz
    · rename_i ho
      cases hz
      rw [Bool.and_eq_true] at ho
      obtain ⟨p, vs, rfl, hl, r⟩ := ry.tup w.sub
      have rx' := rx.flat ho.1
      obtain ⟨h1, h2⟩ := r.inV rx' ho.1 ho.2
      exact ⟨p, vs, rfl, .inr hl, rx'.flat ho.1, h1, by rw [h2]; exact q _ F H (Px.refl w.sub) (.bl _)⟩
    · cases hz
  · cases hz

/-! ### a[i] -/
theorem Rps.atI {vs : List V} {ds : List D} {i : Int} {d : D} (r : Rps K dk F vs ds) (h : L2.atI ds i = some d) : ∃ v, L2.atI vs i = some v ∧ Rp K dk F v d := by
  unfold L2.atI at h ⊢
  obtain ⟨j, h1, h2⟩ := bnd h
  obtain ⟨v, h3, h4⟩ := r.get h2
  exact ⟨v, by rw [r.length, h1]; exact h3, h4⟩
def ixM : D → D → Option D
  | .lst ds, .int i => L2.atI ds i
  | .tup ds, .int i => L2.atI ds i
  | .str z, .int i => if z.length ≤ sizeLine then (L2.atI z.cps.toList i).map fun c => .str ⟨#[c]⟩ else none
  | _, _ => none
theorem ro_ix : RO K (rIx K) ixM := by
  intro dk F H st x y d e z w rx ry hz Q q
  unfold ixM at hz
  split at hz
  · obtain ⟨p, vs, rfl, hl, r⟩ := rx.l w.sub
    obtain ⟨v, h1, h2⟩ := r.atI hz
    exact .inl ⟨p, vs, _, v, rfl, ry.int, SqL.of hl, h1, q _ F H (Px.refl w.sub) h2⟩
  · obtain ⟨p, vs, rfl, hl, r⟩ := rx.tup w.sub
    obtain ⟨v, h1, h2⟩ := r.atI hz
    exact .inr (.inl ⟨p, vs, _, v, rfl, ry.int, hl, h1, q _ F H (Px.refl w.sub) h2⟩)
  · split at hz
    · rename_i ho
      obtain ⟨c, h1, rfl⟩ := mpd hz
      exact .inr (.inr ⟨_, _, c, rx.str, ry.int, ho, h1, q _ F H (Px.refl w.sub) (.str _)⟩)
    · cases hz
  · cases hz
end
end MD

set_option Elab.async false
set_option linter.all false
set_option maxRecDepth 100000
set_option maxHeartbeats 1000000
namespace MD
open PySem L2
variable {ww : WW}

section
variable {K : Fg} {dk : Dk} {F F' F0 : Fz} {H H' H0 : Hp} {σ : L2.St} {env : Sg} {st : S}
/-! ### slices -/
abbrev MO := Sg → S → Option (Option Int × S)
def ImO [WW] (K : Fg) (to : TO) (f : MO) : Prop := ∀ (dk : Dk) (H0 : Hp) (F0 F : Fz) (σ : L2.St) (H : Hp) (env : Sg) (st : S) (o : Option Int) (st' : S), Good K dk H0 F0 F σ H env st → f env st = some (o, st') →
  ∀ Q : Option Int → Hp → Prop, (∀ F' H', Ext dk F H F' H' → Good K dk H0 F0 F' σ H' env st' → Q o H') → to σ H Q
def noP : MO := fun _ st => some (none, st)
def intOf : D → Option Int
  | .int i => some i
  | _ => none
def prt (f : ME) : MO := fun env st => (f env st).bind fun p => (intOf p.1).map fun i => (some i, p.2)
theorem io_none : ImO K tNoPart noP := fun dk H0 F0 F σ H env st o st' g e Q q => by
  cases e
  exact q F H (Ext.refl F H) g
theorem io_some {te : TE} {f : ME} (h : ImW K te f) : ImO K (tPart te) (prt f) := fun dk H0 F0 F σ H env st o st' g e Q q => by
  obtain ⟨⟨x, s1⟩, h1, e⟩ := bnd e
  obtain ⟨i, h2, e⟩ := mpd e
  cases e
  refine h dk H0 F0 F σ H env st x s1 g h1 _ fun v F' H' x1 g1 r1 => ?_
  have hx : x = .int i := by
    cases x <;> first | (cases h2; rfl) | cases h2
  subst hx
  exact ⟨i, r1.w.int, q F' H' x1 g1⟩
def RS [WW] (K : Fg) (r : V → Option Int → Option Int → Hp → VK → Prop) (f : D → Option Int → Option Int → Option D) : Prop := ∀ (dk : Dk) (F : Fz) (H : Hp) (st : S) (x : V) (d z : D) (lo hi : Option Int), Wd K dk F H st → Rw K dk F H x d → f d lo hi = some z →
  ∀ Q : VK, (∀ v F' H', Px F H F' H' → Rp K dk F' v z → Q v H') → r x lo hi H Q
theorem RS.or {r r' : V → Option Int → Option Int → Hp → VK → Prop} {f f' : D → Option Int → Option Int → Option D} (h : RS K r f) (h' : RS K r' f') :
    RS K (fun x lo hi H Q => r x lo hi H Q ∨ r' x lo hi H Q) (fun d lo hi => (f d lo hi).orElse fun _ => f' d lo hi) := by
  intro dk F H st x d z lo hi w rx hz Q q
  replace hz : ((f d lo hi).orElse fun _ => f' d lo hi) = some z := hz
  cases hf : f d lo hi with
  | some y' =>
    rw [hf] at hz
    have : some y' = some z := hz
    cases this
    exact .inl (h dk F H st x d z lo hi w rx hf Q q)
  | none =>
    rw [hf] at hz
    exact .inr (h' dk F H st x d z lo hi w rx hz Q q)
def slM (f : D → Option Int → Option Int → Option D) (fe : ME) (fl fh : MO) : ME := fun env st => (fe env st).bind fun p => (fl env p.2).bind fun l => (fh env l.2).bind fun u => (f (dr u.2 p.1) l.1 u.1).map fun z => (z, u.2)
theorem im_sl {r : V → Option Int → Option Int → Hp → VK → Prop} {f : D → Option Int → Option Int → Option D} {te : TE} {tl th : TO} {fe : ME} {fl fh : MO} (hr : RS K r f) (he : ImW K te fe) (hl : ImO K tl fl) (hh : ImO K th fh) :
    Im K (tSl r te tl th) (slM f fe fl fh) := fun dk H0 F0 F σ H env st d st' g e Q q => by
  obtain ⟨⟨x, s1⟩, h1, e⟩ := bnd e
  obtain ⟨⟨l, s2⟩, h2, e⟩ := bnd e
  obtain ⟨⟨u, s3⟩, h3, e⟩ := bnd e
  obtain ⟨z, h4, e⟩ := mpd e
  cases e
  refine he dk H0 F0 F σ H env st x s1 g h1 _ fun v F1 H1 x1 g1 r1 => ?_
  refine hl dk H0 F0 F1 σ H1 env s1 l s2 g1 h2 _ fun F2 H2 x2 g2 => ?_
  refine hh dk H0 F0 F2 σ H2 env s2 u s3 g2 h3 _ fun F3 H3 x3 g3 => ?_
  exact hr dk F3 H3 s3 v _ d l u g3.wd (((r1.ext x2).ext x3).dr g3.wd) h4 Q fun w F4 H4 px r4 => q w F4 H4 (((x1.trans x2).trans x3).trans px.ext) (g3.px px) r4
def cutD (ds : List D) (lo hi : Option Int) : List D := (ds.drop (HT.sIx ds.length 0 lo)).take (HT.sIx ds.length ds.length hi - HT.sIx ds.length 0 lo)
theorem Rps.cut {vs : List V} {ds : List D} (r : Rps K dk F vs ds) (lo hi : Option Int) : Rps K dk F (cutV vs lo hi) (cutD ds lo hi) := by
  unfold cutV cutD
  rw [r.length]
  exact (r.drop _).take _
def slTup : D → Option Int → Option Int → Option D
  | .tup ds, lo, hi => some (.tup (cutD ds lo hi))
  | _, _, _ => none
def slLst : D → Option Int → Option Int → Option D
  | .lst ds, lo, hi => some (.lst (cutD ds lo hi))
  | _, _, _ => none
def slStr : D → Option Int → Option Int → Option D
  | .str z, lo, hi => if z.length ≤ sizeLine then some (.str (cutS z lo hi)) else none
  | _, _, _ => none
theorem rs_tup : RS K (rSlA K) slTup := by
  intro dk F H st x d z lo hi w rx hz Q q
  unfold slTup at hz
  split at hz
  · cases hz
    obtain ⟨p, vs, rfl, hl, r⟩ := rx.tup w.sub
    refine ⟨p, vs, rfl, hl, fun hw => ?_, fun _ a ha => ?_⟩
    · have e : ∀ ds : List D, vs.length = ds.length → cutD ds lo hi = ds := fun ds hl => by
        unfold cutD
        rw [← hl, hw.1, hw.2]
        simp [hl]
      rw [e _ r.length] at q
      exact q _ F H (Px.refl w.sub) rx.tp
    · have px : Px F H (Fz.up F a (.tup (cutV vs lo hi))) (upd H a (.tup (cutV vs lo hi))) := Px.new w.sub ha
      exact q _ _ _ px (.tup (SqT.of Fz.up_same) ((r.cut lo hi).mono px.f))
  · cases hz
theorem rs_lst : RS K (rSlL K) slLst := by
  intro dk F H st x d z lo hi w rx hz Q q
  unfold slLst at hz
  split at hz
  · cases hz
    obtain ⟨p, vs, rfl, hl, r⟩ := rx.l w.sub
    refine ⟨p, vs, rfl, SqL.of hl, fun a ha => ?_⟩
    have px : Px F H (Fz.up F a (.lst (cutV vs lo hi))) (upd H a (.lst (cutV vs lo hi))) := Px.new w.sub ha
    exact q _ _ _ px (.lst Fz.up_same ((r.cut lo hi).mono px.f))
  · cases hz
theorem rs_str : RS K rSlS slStr := by
  intro dk F H st x d z lo hi w rx hz Q q
  unfold slStr at hz
  split at hz
  · split at hz
    · rename_i ho
      cases hz
      exact ⟨_, rx.str, ho, q _ F H (Px.refl w.sub) (.str _)⟩
    · cases hz
  · cases hz
def slAny : D → Option Int → Option Int → Option D := fun d lo hi => (slTup d lo hi).orElse fun _ => (slStr d lo hi).orElse fun _ => slLst d lo hi
theorem sl_any {X : Cx} : SlR X (fun x lo hi H Q => rSlA X.K x lo hi H Q ∨ rSlS x lo hi H Q ∨ rSlL X.K x lo hi H Q) := sl_tupA.or (sl_str.or sl_list)
theorem rs_any : RS K (fun x lo hi H Q => rSlA K x lo hi H Q ∨ rSlS x lo hi H Q ∨ rSlL K x lo hi H Q) slAny := rs_tup.or (rs_str.or rs_lst)

/-! ### arguments -/
def aNil : MA := fun _ st => some ([], st)
def aCons (f : ME) (r : MA) : MA := fun env st => (f env st).bind fun p => (r env p.2).map fun q => (p.1 :: q.1, q.2)
theorem ia_nil : ImA K tNil aNil := fun dk H0 F0 F σ H env st ds st' g e Q q => by
  cases e
  exact q [] F H (Ext.refl F H) g .nil
theorem ia_cons {te : TE} {ta : TA} {f : ME} {r : MA} (h : Im K te f) (hr : ImA K ta r) : ImA K (tCons te ta) (aCons f r) := fun dk H0 F0 F σ H env st ds st' g e Q q => by
  obtain ⟨⟨x, s1⟩, h1, e⟩ := bnd e
  obtain ⟨⟨xs, s2⟩, h2, e⟩ := mpd e
  cases e
  refine h dk H0 F0 F σ H env st x s1 g h1 _ fun v F1 H1 x1 g1 r1 => ?_
  exact hr dk H0 F0 F1 σ H1 env s1 xs s2 g1 h2 _ fun vs F2 H2 x2 g2 r2 => q (v :: vs) F2 H2 (x1.trans x2) g2 (.cons (r1.mono x2.f) r2)
theorem iaw_nil : ImAW K tNil aNil := fun dk H0 F0 F σ H env st ds st' g e Q q => by
  cases e
  exact q [] F H (Ext.refl F H) g .nil
theorem iaw_cons {te : TE} {ta : TA} {f : ME} {r : MA} (h : ImW K te f) (hr : ImAW K ta r) : ImAW K (tCons te ta) (aCons f r) := fun dk H0 F0 F σ H env st ds st' g e Q q => by
  obtain ⟨⟨x, s1⟩, h1, e⟩ := bnd e
  obtain ⟨⟨xs, s2⟩, h2, e⟩ := mpd e
  cases e
  refine h dk H0 F0 F σ H env st x s1 g h1 _ fun v F1 H1 x1 g1 r1 => ?_
  exact hr dk H0 F0 F1 σ H1 env s1 xs s2 g1 h2 _ fun vs F2 H2 x2 g2 r2 => q (v :: vs) F2 H2 (x1.trans x2) g2 (.cons (r1.ext x2) r2)
/-! displays -/
def tupM (a : MA) : ME := fun env st => (a env st).bind fun p => if p.1.length ≤ sizeLine then some (.tup p.1, p.2) else none
def lstM (a : MA) : MA := fun env st => (a env st).bind fun p => if p.1.length ≤ sizeLine then some p else none
theorem im_tup {ta : TA} {a : MA} (h : ImA K ta a) : Im K (tTup ta) (tupM a) := fun dk H0 F0 F σ H env st d st' g e Q q => by
  obtain ⟨⟨xs, s1⟩, h1, e⟩ := bnd e
  split at e
  · rename_i hz
    cases e
    refine h dk H0 F0 F σ H env st xs s1 g h1 _ fun vs F1 H1 x1 g1 r1 => ⟨by rw [r1.length]; exact hz, fun p hp => ?_⟩
    have px : Px F1 H1 (Fz.up F1 p (.tup vs)) (upd H1 p (.tup vs)) := Px.new g1.wd.sub hp
    exact q _ _ _ (x1.trans px.ext) (g1.px px) (.tup (SqT.of Fz.up_same) (r1.mono px.f))
  · cases e
theorem if_lst {ta : TA} {a : MA} (h : ImA K ta a) : ImF K (tLst ta) (lstM a) := fun dk H0 F0 F σ H env st d st' g e Q q => by
  obtain ⟨⟨xs, s1⟩, h1, e⟩ := bnd e
  split at e
  · rename_i hz
    cases e
    refine h dk H0 F0 F σ H env st d st' g h1 _ fun vs F1 H1 x1 g1 r1 => ⟨by rw [r1.length]; exact hz, fun p hp => ?_⟩
    have px : Px F1 H1 F1 (upd H1 p (.lst vs)) := Px.lay g1.wd.sub hp
    have h0 : H p = none := by
      cases w : H p with
      | none => rfl
      | some o => exact absurd hp (x1.m p (by rw [w]; exact fun z => nomatch z))
    exact q p vs F1 _ (x1.trans px.ext) (g1.px px) h0 (g1.wd.out hp) upd_same r1
  · cases e

/-! ### calls of built-ins -/
def RC [WW] (K : Fg) (r : List V → Hp → VK → Prop) (f : List D → Option D) : Prop := ∀ (dk : Dk) (F : Fz) (H : Hp) (st : S) (vs : List V) (ds : List D) (z : D), Wd K dk F H st → Rws K dk F H vs ds → f ds = some z →
  ∀ Q : VK, (∀ v F' H', Px F H F' H' → Rp K dk F' v z → Q v H') → r vs H Q
def cbM (f : List D → Option D) (a : MA) : ME := fun env st => (a env st).bind fun p => (f (p.1.map (dr p.2))).map fun z => (z, p.2)
theorem im_cb {r : List V → Hp → VK → Prop} {f : List D → Option D} {ta : TA} {a : MA} (hr : RC K r f) (ha : ImAW K ta a) : Im K (tCB r ta) (cbM f a) := fun dk H0 F0 F σ H env st d st' g e Q q => by
  obtain ⟨⟨xs, s1⟩, h1, e⟩ := bnd e
  obtain ⟨z, h2, e⟩ := mpd e
  cases e
  refine ha dk H0 F0 F σ H env st xs s1 g h1 _ fun vs F1 H1 x1 g1 r1 => ?_
  exact hr dk F1 H1 s1 vs _ d g1.wd (r1.dr g1.wd) h2 Q fun w F2 H2 px r2 => q w F2 H2 (x1.trans px.ext) (g1.px px) r2
theorem CallR.or {X : Cx} {f : Value} {r r' : List V → Hp → VK → Prop} (h : CallR X f r) (h' : CallR X f r') : CallR X f (fun xs H Q => r xs H Q ∨ r' xs H Q) := by
  intro pins s σ H xs us Q I rs q
  rcases q with q | q
  · exact h pins s σ H xs us Q I rs q
  · exact h' pins s σ H xs us Q I rs q
theorem RC.or {r r' : List V → Hp → VK → Prop} {f f' : List D → Option D} (h : RC K r f) (h' : RC K r' f') : RC K (fun xs H Q => r xs H Q ∨ r' xs H Q) (fun ds => (f ds).orElse fun _ => f' ds) := by
  intro dk F H st vs ds z w rx hz Q q
  replace hz : ((f ds).orElse fun _ => f' ds) = some z := hz
  cases hf : f ds with
  | some y' =>
    rw [hf] at hz
    have : some y' = some z := hz
    cases this
    exact .inl (h dk F H st vs ds z w rx hf Q q)
  | none =>
    rw [hf] at hz
    exact .inr (h' dk F H st vs ds z w rx hz Q q)
theorem Rys.ws : ∀ {vs : List V} {ds : List D}, Rys K dk F H vs ds → Rws K dk F H vs ds
  | _, _, .nil => .nil
  | _, _, .cons a b => .cons a.w (Rys.ws b)
theorem Rws.one {vs : List V} {d : D} (r : Rws K dk F H vs [d]) : ∃ v, vs = [v] ∧ Rw K dk F H v d := by
  cases r with
  | cons a b => cases b; exact ⟨_, rfl, a⟩
theorem Rws.two {vs : List V} {d e : D} (r : Rws K dk F H vs [d, e]) : ∃ v u, vs = [v, u] ∧ Rw K dk F H v d ∧ Rw K dk F H u e := by
  cases r with
  | cons a b => cases b with
    | cons b c => cases c; exact ⟨_, _, rfl, a, b⟩
def lenM : List D → Option D
  | [.str z] => if z.length ≤ sizeLine then some (.int z.length) else none
  | [.lst ds] => some (.int ds.length)
  | [.tup ds] => some (.int ds.length)
  | _ => none
theorem rc_len : RC K (fun xs H Q => ∃ x n, xs = [x] ∧ LenV K x H n ∧ Q (.int n) H) lenM := by
  intro dk F H st vs ds z w rx hz Q q
  unfold lenM at hz
  split at hz
  · split at hz
    · rename_i ho
      cases hz
      obtain ⟨v, rfl, r⟩ := rx.one
      cases r.str
      exact ⟨_, _, rfl, ⟨ho, rfl⟩, q _ F H (Px.refl w.sub) (.int _)⟩
    · cases hz
  · cases hz
    obtain ⟨v, rfl, r⟩ := rx.one
    obtain ⟨p, vs, rfl, hl, r⟩ := r.l w.sub
    exact ⟨_, vs.length, rfl, .inl ⟨vs, SqL.of hl, rfl⟩, by rw [r.length]; exact q _ F H (Px.refl w.sub) (.int _)⟩
  · cases hz
    obtain ⟨v, rfl, r⟩ := rx.one
    obtain ⟨p, vs, rfl, hl, r⟩ := r.tup w.sub
    exact ⟨_, vs.length, rfl, .inr ⟨vs, hl, rfl⟩, by rw [r.length]; exact q _ F H (Px.refl w.sub) (.int _)⟩
  · cases hz
def int1M : List D → Option D
  | [.int i] => some (.int i)
  | [.bl k] => some (.int (if k then 1 else 0))
  | _ => none
theorem rc_int1 : RC K (fun xs H Q => (∃ i, xs = [.int i] ∧ Q (.int i) H) ∨ ∃ k, xs = [.bl k] ∧ Q (.int (if k then 1 else 0)) H) int1M := by
  intro dk F H st vs ds z w rx hz Q q
  unfold int1M at hz
  split at hz
  · cases hz
    obtain ⟨v, rfl, r⟩ := rx.one
    cases r.int
    exact .inl ⟨_, rfl, q _ F H (Px.refl w.sub) (.int _)⟩
  · cases hz
    obtain ⟨v, rfl, r⟩ := rx.one
    cases r.bl
    exact .inr ⟨_, rfl, q _ F H (Px.refl w.sub) (.int _)⟩
  · cases hz
def absM : List D → Option D
  | [.int i] => some (.int (if i < 0 then -i else i))
  | _ => none
theorem rc_abs : RC K (fun xs H Q => ∃ i, xs = [.int i] ∧ Q (.int (if i < 0 then -i else i)) H) absM := by
  intro dk F H st vs ds z w rx hz Q q
  unfold absM at hz
  split at hz
  · cases hz
    obtain ⟨v, rfl, r⟩ := rx.one
    cases r.int
    exact ⟨_, rfl, q _ F H (Px.refl w.sub) (.int _)⟩
  · cases hz
/-! lists of ints, of texts -/
def intsOf : List D → Option (List Int)
  | [] => some []
  | .int i :: r => (intsOf r).map (i :: ·)
  | _ => none
def strsOf : List D → Option (List Str)
  | [] => some []
  | .str i :: r => (strsOf r).map (i :: ·)
  | _ => none
theorem Rps.ints : ∀ {vs : List V} {ds : List D} {ns : List Int}, Rps K dk F vs ds → intsOf ds = some ns → vs = ns.map V.int
  | _, _, _, .nil, h => by cases h; rfl
  | _, _, _, .cons a b, h => by
    rename_i d ds
    cases d with
    | int i =>
      obtain ⟨ms, h1, h2⟩ := mpd (f := (i :: ·)) h
      cases h2
      cases a
      rw [Rps.ints b h1]
      rfl
    | _ => cases h
theorem Rps.strs : ∀ {vs : List V} {ds : List D} {ns : List Str}, Rps K dk F vs ds → strsOf ds = some ns → vs = ns.map V.str
  | _, _, _, .nil, h => by cases h; rfl
  | _, _, _, .cons a b, h => by
    rename_i d ds
    cases d with
    | str i =>
      obtain ⟨ms, h1, h2⟩ := mpd (f := (i :: ·)) h
      cases h2
      cases a
      rw [Rps.strs b h1]
      rfl
    | _ => cases h
def sumM : List D → Option D
  | [.lst ds] => (intsOf ds).map fun ns => .int ns.sum
  | _ => none
theorem rc_sum : RC K (rSum K) sumM := by
  intro dk F H st vs ds z w rx hz Q q
  unfold sumM at hz
  split at hz
  · obtain ⟨ns, h1, rfl⟩ := mpd hz
    obtain ⟨v, rfl, r⟩ := rx.one
    obtain ⟨p, vs, rfl, hl, r⟩ := r.l w.sub
    cases r.ints h1
    exact ⟨p, ns, rfl, SqL.of hl, q _ F H (Px.refl w.sub) (.int _)⟩
  · cases hz
def topI : List Int → Int
  | [] => 0
  | [x] => x
  | x :: y :: r => if topI (y :: r) > x then topI (y :: r) else x
def botI : List Int → Int
  | [] => 0
  | [x] => x
  | x :: y :: r => if botI (y :: r) < x then botI (y :: r) else x
theorem topI_spec : ∀ (l : List Int), l ≠ [] → topI l ∈ l ∧ ∀ y ∈ l, y ≤ topI l
  | [], h => absurd rfl h
  | [x], _ => ⟨by simp [topI], fun y hy => by simp at hy; simp [topI, hy]⟩
  | x :: y :: r, _ => by
    obtain ⟨h1, h2⟩ := topI_spec (y :: r) (by simp)
    unfold topI
    split
    · rename_i hc
      refine ⟨List.mem_cons_of_mem _ h1, fun z hz => ?_⟩
      rcases List.mem_cons.mp hz with e | e
      · subst e; omega
      · exact h2 z e
    · rename_i hc
      refine ⟨List.mem_cons_self, fun z hz => ?_⟩
      rcases List.mem_cons.mp hz with e | e
      · subst e; omega
      · have := h2 z e; omega
theorem botI_spec : ∀ (l : List Int), l ≠ [] → botI l ∈ l ∧ ∀ y ∈ l, botI l ≤ y
  | [], h => absurd rfl h
  | [x], _ => ⟨by simp [botI], fun y hy => by simp at hy; simp [botI, hy]⟩
  | x :: y :: r, _ => by
    obtain ⟨h1, h2⟩ := botI_spec (y :: r) (by simp)
    unfold botI
    split
    · rename_i hc
      refine ⟨List.mem_cons_of_mem _ h1, fun z hz => ?_⟩
      rcases List.mem_cons.mp hz with e | e
      · subst e; omega
      · exact h2 z e
    · rename_i hc
      refine ⟨List.mem_cons_self, fun z hz => ?_⟩
      rcases List.mem_cons.mp hz with e | e
      · subst e; omega
      · have := h2 z e; omega
def maxM : List D → Option D
  | [.lst (d :: ds)] => (intsOf (d :: ds)).map fun ns => .int (topI ns)
  | _ => none
def minM : List D → Option D
  | [.lst (d :: ds)] => (intsOf (d :: ds)).map fun ns => .int (botI ns)
  | _ => none
theorem intsOf_len : ∀ {ds : List D} {ns : List Int}, intsOf ds = some ns → ns.length = ds.length
  | [], _, h => by cases h; rfl
  | d :: ds, ns, h => by
    cases d with
    | int i =>
      obtain ⟨ms, h1, h2⟩ := mpd (f := (i :: ·)) h
      cases h2
      simp [intsOf_len h1]
    | _ => cases h
theorem rc_max : RC K (rMax K) maxM := by
  intro dk F H st vs ds z w rx hz Q q
  unfold maxM at hz
  split at hz
  · obtain ⟨ns, h1, rfl⟩ := mpd hz
    obtain ⟨v, rfl, r⟩ := rx.one
    obtain ⟨p, vs, rfl, hl, r⟩ := r.l w.sub
    cases r.ints h1
    have hn := intsOf_len h1
    simp at hn
    obtain ⟨t1, t2⟩ := topI_spec ns (fun z => by rw [z] at hn; cases hn)
    refine ⟨p, ns, rfl, SqL.of hl, by omega, fun m hm hy => ?_⟩
    have e : m = topI ns := by have := t2 m hm; have := hy _ t1; omega
    rw [e]
    exact q _ F H (Px.refl w.sub) (.int _)
  · cases hz
theorem rc_min : RC K (rMin K) minM := by
  intro dk F H st vs ds z w rx hz Q q
  unfold minM at hz
  split at hz
  · obtain ⟨ns, h1, rfl⟩ := mpd hz
    obtain ⟨v, rfl, r⟩ := rx.one
    obtain ⟨p, vs, rfl, hl, r⟩ := r.l w.sub
    cases r.ints h1
    have hn := intsOf_len h1
    simp at hn
    obtain ⟨t1, t2⟩ := botI_spec ns (fun z => by rw [z] at hn; cases hn)
    refine ⟨p, ns, rfl, SqL.of hl, by omega, fun m hm hy => ?_⟩
    have e : m = botI ns := by have := t2 m hm; have := hy _ t1; omega
    rw [e]
    exact q _ F H (Px.refl w.sub) (.int _)
  · cases hz
/-! tuple(..) -/
def tupOfM : List D → Option D
  | [.lst ds] => some (.tup ds)
  | [.tup ds] => some (.tup ds)
  | _ => none
theorem rc_tupOf : RC K (fun xs H Q => ∃ p ys, xs = [.ref p] ∧ ((SqL K H p ys ∧ ∀ l, H l = none → Q (.ref l) (upd H l (.tup ys))) ∨ (SqT K H p ys ∧ Q (.ref p) H))) tupOfM := by
  intro dk F H st vs ds z w rx hz Q q
  unfold tupOfM at hz
  split at hz
  · cases hz
    obtain ⟨v, rfl, r⟩ := rx.one
    obtain ⟨p, vs, rfl, hl, r⟩ := r.l w.sub
    refine ⟨p, vs, rfl, .inl ⟨SqL.of hl, fun a ha => ?_⟩⟩
    have px : Px F H (Fz.up F a (.tup vs)) (upd H a (.tup vs)) := Px.new w.sub ha
    exact q _ _ _ px (.tup (SqT.of Fz.up_same) (r.mono px.f))
  · cases hz
    obtain ⟨v, rfl, r⟩ := rx.one
    obtain ⟨p, vs, rfl, hl, r'⟩ := r.tup w.sub
    refine ⟨p, vs, rfl, .inr ⟨hl, ?_⟩⟩
    exact q _ F H (Px.refl w.sub) r.tp
  · cases hz
/-- the signs of a text -/
def signs (x : Str) : List Str := x.cps.toList.map fun c => ⟨#[c]⟩
def tupStrM : List D → Option D
  | [.str x] => if x.cps.size ≤ sizeLine then some (.tup ((signs x).map D.str)) else none
  | _ => none
theorem Rps.ofStrs : ∀ (xs : List Str), Rps K dk F (xs.map V.str) (xs.map D.str)
  | [] => .nil
  | x :: xs => .cons (.str x) (Rps.ofStrs xs)
theorem Rps.ofInts : ∀ (xs : List Int), Rps K dk F (xs.map V.int) (xs.map D.int)
  | [] => .nil
  | x :: xs => .cons (.int x) (Rps.ofInts xs)
theorem call_tupStr {X : Cx} (hc : X.calm = true) : CallR X (.type "tuple") (fun xs H Q => ∃ x, xs = [.str x] ∧ x.cps.size ≤ sizeLine ∧ ∀ p, H p = none → Q (.ref p) (upd H p (.tup ((signs x).map V.str)))) := by
  intro pins s σ H xs us Q I rs h
  obtain ⟨x, rfl, hz, q⟩ := h
  obtain ⟨u, rfl, rx⟩ := vals1 rs
  obtain ⟨t, rfl⟩ := rx
  refine call_tuple_str (I.ok.hd hc) x t (fun h' tk acc hk hi => ?_) hz
  have I' : Inv X pins σ H { s with heap := h', toks := tk } := I.kept (t' := tk) hk
  have lenA : acc.toList.length = (signs x).length := by
    unfold signs
    rw [List.length_map, Array.length_toList, Array.length_toList]
    exact hi.1
  have vals : Vals ((signs x).map V.str) acc.toList := by
    have key : ∀ (l : List Value) (m : List Nat), l.length = m.length → (∀ (j : Nat) (v : Value), l[j]? = some v → ∃ c u, m[j]? = some c ∧ v = .str ⟨#[c]⟩ u) → Vals ((m.map fun c => (⟨#[c]⟩ : Str)).map V.str) l := by
      intro l
      induction l with
      | nil => intro m hm _; cases m with
        | nil => exact .nil
        | cons _ _ => cases hm
      | cons a l ih => intro m hm hj; cases m with
        | nil => cases hm
        | cons c m =>
          obtain ⟨c', u, e1, e2⟩ := hj 0 a rfl
          have e1' : c = c' := Option.some.inj e1
          subst e1' e2
          exact .cons ⟨u, rfl⟩ (ih m (by simpa using hm) fun j v hv => hj (j + 1) v hv)
    refine key acc.toList x.cps.toList (by simpa [signs] using lenA) fun j v hv => ?_
    obtain ⟨c, u, h1, h2⟩ := hi.2 j v (by simpa using hv)
    exact ⟨c, u, by simpa using h1, h2⟩
  have hf : H h'.objs.size = none := I'.hok.fresh (Nat.le_refl _)
  refine ⟨.ref h'.objs.size, upd H h'.objs.size (.tup ((signs x).map V.str)), I'.laid (t' := tk) (fun b o e => Heap.get?_push_of_some _ e) (Nat.le_refl _) ?_, rfl, q _ hf⟩
  refine ⟨?_, acc.toList, vals, ⟨_, Heap.get?_push_size _ rfl, rfl, _, rfl⟩⟩
  rw [List.length_map]
  unfold signs
  rw [List.length_map, Array.length_toList]
  exact hz
theorem rc_tupStr : RC K (fun xs H Q => ∃ x, xs = [.str x] ∧ x.cps.size ≤ sizeLine ∧ ∀ p, H p = none → Q (.ref p) (upd H p (.tup ((signs x).map V.str)))) tupStrM := by
  intro dk F H st vs ds z w rx hz Q q
  unfold tupStrM at hz
  split at hz
  · rename_i y
    split at hz
    · rename_i ho
      cases hz
      obtain ⟨v, rfl, r⟩ := rx.one
      cases r.str
      refine ⟨_, rfl, ho, fun a ha => ?_⟩
      have px : Px F H (Fz.up F a (.tup ((signs y).map V.str))) (upd H a (.tup ((signs y).map V.str))) := Px.new w.sub ha
      exact q _ _ _ px (.tup (SqT.of Fz.up_same) (Rps.ofStrs _))
    · cases hz
  · cases hz
end
end MD

set_option Elab.async false
set_option linter.all false
set_option maxRecDepth 100000
set_option maxHeartbeats 1000000
namespace MD
open PySem L2
variable {ww : WW}

section
variable {K : Fg} {dk : Dk} {F F' F0 : Fz} {H H' H0 : Hp} {σ : L2.St} {env : Sg} {st : S}
/-! ### methods of built-in kinds -/
def RM [WW] (K : Fg) (r : V → List V → Hp → VK → Prop) (f : D → List D → Option D) : Prop := ∀ (dk : Dk) (F : Fz) (H : Hp) (st : S) (x : V) (d : D) (vs : List V) (ds : List D) (z : D), Wd K dk F H st → Rw K dk F H x d → Rws K dk F H vs ds → f d ds = some z →
  ∀ Q : VK, (∀ v F' H', Px F H F' H' → Rp K dk F' v z → Q v H') → r x vs H Q
def isStrD : D → Bool
  | .str _ => true
  | _ => false
def isLstD : D → Bool
  | .lst _ => true
  | _ => false
def m1M (f : D → List D → Option D) (fo fe : ME) : ME := fun env st => (fo env st).bind fun p => if isStrD p.1 then (fe env p.2).bind fun q => (f p.1 [dr q.2 q.1]).map fun z => (z, q.2) else none
theorem im_m1 {r : V → List V → Hp → VK → Prop} {f : D → List D → Option D} {to te : TE} {fo fe : ME} (hr : RM K r f) (ho : ImW K to fo) (he : ImW K te fe) : Im K (tM1 r to te) (m1M f fo fe) := fun dk H0 F0 F σ H env st d st' g e Q q => by
  obtain ⟨⟨x, s1⟩, h1, e⟩ := bnd e
  split at e
  · rename_i hs
    obtain ⟨⟨y, s2⟩, h2, e⟩ := bnd e
    obtain ⟨z, h3, e⟩ := mpd e
    cases e
    refine ho dk H0 F0 F σ H env st x s1 g h1 _ fun v F1 H1 x1 g1 r1 => ⟨?_, ?_⟩
    · have hs' : isStrD x = true := hs
      cases x <;> first | exact ⟨_, r1.w.str⟩ | cases hs'
    · refine he dk H0 F0 F1 σ H1 env s1 y s2 g1 h2 _ fun u F2 H2 x2 g2 r2 => ?_
      exact hr dk F2 H2 s2 v x [u] [dr s2 y] d g2.wd (r1.ext x2).w (.cons (r2.dr g2.wd) .nil) h3 Q fun w F3 H3 px r3 => q w F3 H3 ((x1.trans x2).trans px.ext) (g2.px px) r3
  · cases e
def bmL (f : D → List D → Option D) (fo : ME) (fa : MA) : ME := fun env st => (fo env st).bind fun p => if isLstD (dr p.2 p.1) then (fa env p.2).bind fun q => (f (dr q.2 p.1) (q.1.map (dr q.2))).map fun z => (z, q.2) else none
theorem im_bmL {r : V → List V → Hp → VK → Prop} {f : D → List D → Option D} {to : TE} {ta : TA} {fo : ME} {fa : MA} (hr : RM K r f) (ho : ImW K to fo) (ha : ImAW K ta fa) : Im K (tBM K "list" r to ta) (bmL f fo fa) := fun dk H0 F0 F σ H env st d st' g e Q q => by
  obtain ⟨⟨x, s1⟩, h1, e⟩ := bnd e
  split at e
  · rename_i hs
    obtain ⟨⟨y, s2⟩, h2, e⟩ := bnd e
    obtain ⟨z, h3, e⟩ := mpd e
    cases e
    refine ho dk H0 F0 F σ H env st x s1 g h1 _ fun v F1 H1 x1 g1 r1 => ⟨?_, ?_⟩
    · have hs' : isLstD (dr s1 x) = true := hs
      have r1' := r1.dr g1.wd
      generalize dr s1 x = x' at hs' r1'
      cases x' with
      | lst ds =>
        obtain ⟨p, vs, rfl, hl, r⟩ := r1'.l g1.wd.sub
        exact .inl ⟨rfl, vs, SqL.of hl⟩
      | _ => cases hs'
    · refine ha dk H0 F0 F1 σ H1 env s1 y s2 g1 h2 _ fun us F2 H2 x2 g2 r2 => ?_
      exact hr dk F2 H2 s2 v _ us _ d g2.wd ((r1.ext x2).dr g2.wd) (r2.dr g2.wd) h3 Q fun w F3 H3 px r3 => q w F3 H3 ((x1.trans x2).trans px.ext) (g2.px px) r3
  · cases e
/-- text.index(text) -/
def sindexM : D → List D → Option D
  | .str a, [.str b] => match Builtin.Str.occurrences a b 0 a.length 1 with
    | i :: _ => some (.int (i : Nat))
    | [] => none
  | _, _ => none
theorem rm_sindex : RM K (fun x xs H Q => ∃ a b i rest, x = .str a ∧ xs = [.str b] ∧ Builtin.Str.occurrences a b 0 a.length 1 = i :: rest ∧ Q (.int (i : Nat)) H) sindexM := by
  intro dk F H st x d vs ds z w rx rs hz Q q
  unfold sindexM at hz
  split at hz
  · split at hz
    · rename_i i rest ho
      cases hz
      obtain ⟨v, rfl, r⟩ := rs.one
      cases r.str
      exact ⟨_, _, i, rest, rx.str, rfl, ho, q _ F H (Px.refl w.sub) (.int _)⟩
    · cases hz
  · cases hz
/-- list.index(flat) -/
def lindexM : D → List D → Option D
  | .lst ys, [y] => if flatD y && ys.all flatD then (ys.findIdx? fun z => eqFD z y).map fun j => .int (j : Nat) else none
  | _, _ => none
theorem Rps.allFlat : ∀ {vs : List V} {ds : List D}, Rps K dk F vs ds → ds.all flatD = true → vs.all flatV = true
  | _, _, .nil, _ => rfl
  | _, _, .cons a b, p => by
    rw [List.all_cons, Bool.and_eq_true] at p
    rw [List.all_cons, a.flat p.1, Rps.allFlat b p.2]; rfl
theorem rm_lindex : RM K (rIndex K) lindexM := by
  intro dk F H st x d vs ds z w rx rs hz Q q
  unfold lindexM at hz
  split at hz
  · rename_i ys y
    split at hz
    · rename_i ho
      rw [Bool.and_eq_true] at ho
      obtain ⟨j, hj, rfl⟩ := mpd hz
      obtain ⟨v, rfl, r⟩ := rs.one
      obtain ⟨p, us, rfl, hl, r2⟩ := rx.l w.sub
      have rv := r.flat ho.1
      obtain ⟨hlt, hp, hm⟩ := List.findIdx?_eq_some_iff_getElem.mp hj
      have hat : ∀ (m : Nat) (z' : V), us[m]? = some z' → ∃ d', ys[m]? = some d' ∧ eqV z' v = eqFD d' y := fun m z' e => by
        obtain ⟨d', h1, h2⟩ := r2.getV e
        exact ⟨d', h1, h2.eqF rv (List.all_eq_true.mp ho.2 d' (List.mem_of_getElem? h1)) ho.1⟩
      obtain ⟨z', h1, h2⟩ := r2.get (i := j) (List.getElem?_eq_getElem hlt)
      refine ⟨p, us, v, j, z', rfl, rfl, SqL.of hl, rv.flat ho.1, r2.allFlat ho.2, h1, ?_, fun m z'' hlt' e => ?_, q _ F H (Px.refl w.sub) (.int _)⟩
      · obtain ⟨d', h3, h4⟩ := hat j z' h1
        rw [List.getElem?_eq_getElem hlt] at h3
        cases h3
        rw [h4]; exact hp
      · obtain ⟨d', h3, h4⟩ := hat m z'' e
        rw [h4]
        have hml : m < ys.length := Nat.lt_trans hlt' hlt
        rw [List.getElem?_eq_getElem hml] at h3
        cases h3
        have := hm m hlt'
        simpa using this
    · cases hz
  · cases hz
/-- text.join(list or tuple of texts) -/
def joinM : D → List D → Option D
  | .str a, [.lst ds] => (strsOf ds).bind fun ys => if (ys.map (·.length)).sum + ys.length * a.length ≤ 16777216 then some (.str (Txt.join a ys)) else none
  | .str a, [.tup ds] => (strsOf ds).bind fun ys => if (ys.map (·.length)).sum + ys.length * a.length ≤ 16777216 then some (.str (Txt.join a ys)) else none
  | _, _ => none
theorem rm_join : RM K (fun x xs H Q => ∃ a p, ∃ ys : List Str, x = .str a ∧ xs = [.ref p] ∧ (SqL K H p (ys.map V.str) ∨ SqT K H p (ys.map V.str)) ∧
    (ys.map (·.length)).sum + ys.length * a.length ≤ 16777216 ∧ Q (.str (Txt.join a ys)) H) joinM := by
  intro dk F H st x d vs ds z w rx rs hz Q q
  unfold joinM at hz
  split at hz
  · obtain ⟨ys, h1, hz⟩ := bnd hz
    split at hz
    · rename_i ho
      cases hz
      obtain ⟨v, rfl, r⟩ := rs.one
      obtain ⟨p, us, rfl, hl, r2⟩ := r.l w.sub
      cases r2.strs h1
      exact ⟨_, p, ys, rx.str, rfl, .inl (SqL.of hl), ho, q _ F H (Px.refl w.sub) (.str _)⟩
    · cases hz
  · obtain ⟨ys, h1, hz⟩ := bnd hz
    split at hz
    · rename_i ho
      cases hz
      obtain ⟨v, rfl, r⟩ := rs.one
      obtain ⟨p, us, rfl, hl, r2⟩ := r.tup w.sub
      cases r2.strs h1
      exact ⟨_, p, ys, rx.str, rfl, .inr hl, ho, q _ F H (Px.refl w.sub) (.str _)⟩
    · cases hz
  · cases hz

/-! ### repr -/
mutual
theorem Dp.noDict : ∀ {v : V} {d : PyData}, Dp K H v d → d.hasDict = false
  | _, _, .non => rfl
  | _, _, .bl _ => rfl
  | _, _, .int _ => rfl
  | _, _, .str _ => rfl
  | _, _, .lst _ r => by rw [PyData.hasDict]; exact Dp.noDictAll r
  | _, _, .tup _ r => by rw [PyData.hasDict]; exact Dp.noDictAll r
theorem Dp.noDictAll : ∀ {vs : List V} {ds : List PyData}, DpAll K H vs ds → PyData.hasDictAll ds = false
  | _, _, .nil => rfl
  | _, _, .cons a b => by rw [PyData.hasDictAll, Dp.noDict a, Dp.noDictAll b]; rfl
end
def rRepr (K : Fg) : List V → Hp → VK → Prop := fun xs H Q => ∃ x d, xs = [x] ∧ Dp K H x d ∧ d.showable = true ∧ d.depth ≤ 60 ∧ d.shown.length ≤ sizeLine ∧ Q (.str d.shown) H
theorem call_reprD {X : Cx} (hg : X.A.guards = some []) (hu : X.A.units + 64 < cLine) : CallR X (.builtin "repr") (rRepr X.K) := by
  intro pins s σ H xs us Q I rs h
  obtain ⟨x, d, rfl, hd, hs, hdp, hz, q⟩ := h
  obtain ⟨u, rfl, rx⟩ := vals1 rs
  cases id hd with
  | non => cases rx; exact PySem.P.repr_of_none ⟨.str _, H, I.tok _, ⟨_, rfl⟩, q⟩
  | bl b => cases rx; exact PySem.P.repr_of_bool ⟨.str _, H, I.tok _, ⟨_, rfl⟩, q⟩
  | int i =>
    obtain ⟨t, rfl⟩ := rx
    exact PySem.P.repr_of_int (by simpa [PyData.showable] using hs) ⟨.str _, H, I.tok _, ⟨_, rfl⟩, q⟩
  | str y =>
    obtain ⟨t, rfl⟩ := rx
    exact PySem.P.repr_of_str ⟨.str _, H, I.tok _, ⟨_, rfl⟩, q⟩ hz
  | lst h1 h2 =>
    cases rx
    obtain ⟨as, hr⟩ := Dp.reads I _ _ _ hd rfl
    exact repr_of_reads' hr hs (fun z => by rw [Dp.noDict hd] at z; cases z) hg (by omega) (fun _ _ e => e) (fun h' u tk hk => ⟨.str _, H, I.kept hk, ⟨_, rfl⟩, q⟩) hz
  | tup h1 h2 =>
    cases rx
    obtain ⟨as, hr⟩ := Dp.reads I _ _ _ hd rfl
    exact repr_of_reads' hr hs (fun z => by rw [Dp.noDict hd] at z; cases z) hg (by omega) (fun _ _ e => e) (fun h' u tk hk => ⟨.str _, H, I.kept hk, ⟨_, rfl⟩, q⟩) hz
def reprM : List D → Option D
  | [d] => if d.pl && d.py.showable && decide (d.py.depth ≤ 60) && decide (d.py.shown.length ≤ sizeLine) then some (.str d.py.shown) else none
  | _ => none
theorem rc_repr : RC K (rRepr K) reprM := by
  intro dk F H st vs ds z w rx hz Q q
  unfold reprM at hz
  split at hz
  · split at hz
    · rename_i ho
      cases hz
      simp only [Bool.and_eq_true, decide_eq_true_eq] at ho
      obtain ⟨v, rfl, r⟩ := rx.one
      exact ⟨v, _, rfl, r.dp w.sub ho.1.1.1, ho.1.1.2, ho.1.2, ho.2, q _ F H (Px.refl w.sub) (.str _)⟩
    · cases hz
  · cases hz
def strIntM : List D → Option D
  | [.int i] => if i.natAbs.log2 < 1920 then some (.str (toString i)) else none
  | _ => none
theorem rc_strInt : RC K (fun xs H Q => ∃ i, xs = [.int i] ∧ i.natAbs.log2 < 1920 ∧ Q (.str (toString i)) H) strIntM := by
  intro dk F H st vs ds z w rx hz Q q
  unfold strIntM at hz
  split at hz
  · split at hz
    · rename_i ho
      cases hz
      obtain ⟨v, rfl, r⟩ := rx.one
      cases r.int
      exact ⟨_, rfl, ho, q _ F H (Px.refl w.sub) (.str _)⟩
    · cases hz
  · cases hz

/-! ### one-place operations -/
def unI (g : Int → D) : D → Option D
  | .int i => some (g i)
  | _ => none
def unM (f : D → Option D) (fa : ME) : ME := fun env st => (fa env st).bind fun p => (f p.1).map fun z => (z, p.2)
theorem im_neg {ta : TE} {fa : ME} (h : ImW K ta fa) : Im K (tUn (rU fun i => .int (-i)) ta) (unM (unI fun i => .int (-i)) fa) := fun dk H0 F0 F σ H env st d st' g e Q q => by
  obtain ⟨⟨x, s1⟩, h1, e⟩ := bnd e
  obtain ⟨z, h2, e⟩ := mpd e
  cases e
  refine h dk H0 F0 F σ H env st x s1 g h1 _ fun v F1 H1 x1 g1 r1 => ?_
  replace h2 : unI (fun i => .int (-i)) x = some d := h2
  unfold unI at h2
  split at h2
  · cases h2
    cases r1.w.int
    exact ⟨_, rfl, q _ F1 H1 x1 g1 (.int _)⟩
  · cases h2

/-! ### tests -/
def blOf : D → Option Bool
  | .bl b => some b
  | _ => none
def tstM (f : ME) : MT := fun env st => (f env st).bind fun p => (blOf p.1).map fun b => (b, p.2)
theorem blOf_eq {d : D} {b : Bool} (h : blOf d = some b) : d = .bl b := by
  cases d <;> first | (cases h; rfl) | cases h
theorem it_test {te : TE} {f : ME} (h : Im K te f) : ImT K (tTest te) (tstM f) := fun dk H0 F0 F σ H env st b st' g e Q q => by
  obtain ⟨⟨x, s1⟩, h1, e⟩ := bnd e
  obtain ⟨z, h2, e⟩ := mpd e
  cases e
  refine h dk H0 F0 F σ H env st x s1 g h1 _ fun v F1 H1 x1 g1 r1 => ?_
  cases blOf_eq h2
  cases r1
  exact ⟨_, rfl, q F1 H1 x1 g1⟩
/-- truth of any value -/
def truD : D → Option Bool
  | .non => some false
  | .bl b => some b
  | .int i => some (i != 0)
  | .str y => if y.length ≤ sizeLine then some ((y.length : Int) != 0) else none
  | .lst ds => some (!ds.isEmpty)
  | .tup ds => some (!ds.isEmpty)
  | _ => none
def truM (f : ME) : MT := fun env st => (f env st).bind fun p => (truD (dr p.2 p.1)).map fun b => (b, p.2)
theorem Rps.empty {vs : List V} {ds : List D} (r : Rps K dk F vs ds) : vs.isEmpty = ds.isEmpty := by cases r <;> rfl
theorem it_truth {te : TE} {f : ME} (h : ImW K te f) : ImT K (fun σ H Q => te σ H fun x H' => ∃ k, TruV K x H' k ∧ Q k H') (truM f) := fun dk H0 F0 F σ H env st b st' g e Q q => by
  obtain ⟨⟨x, s1⟩, h1, e⟩ := bnd e
  obtain ⟨z, h2, e⟩ := mpd e
  cases e
  refine h dk H0 F0 F σ H env st x s1 g h1 _ fun v F1 H1 x1 g1 r1 => ⟨b, ?_, q F1 H1 x1 g1⟩
  replace h2 : truD (dr _ x) = some b := h2
  have r2 := r1.dr g1.wd
  generalize dr _ x = x' at h2 r2
  unfold truD at h2
  split at h2
  · cases h2; cases r2.non; rfl
  · cases h2; cases r2.bl; rfl
  · cases h2; cases r2.int; rfl
  · split at h2
    · rename_i ho
      cases h2; cases r2.str; exact ⟨ho, rfl⟩
    · cases h2
  · cases h2
    obtain ⟨p, vs, rfl, hl, r⟩ := r2.l g1.wd.sub
    exact .inl ⟨vs, SqL.of hl, by rw [r.empty]⟩
  · cases h2
    obtain ⟨p, vs, rfl, hl, r⟩ := r2.tup g1.wd.sub
    exact .inr (.inl ⟨vs, hl, by rw [r.empty]⟩)
  · cases h2
def andM (f h : MT) : MT := fun env st => (f env st).bind fun p => if p.1 then h env p.2 else some (false, p.2)
def orM (f h : MT) : MT := fun env st => (f env st).bind fun p => if p.1 then some (true, p.2) else h env p.2
def notM (f : MT) : MT := fun env st => (f env st).map fun p => (!p.1, p.2)
theorem it_and {t u : TT} {f h : MT} (h1 : ImT K t f) (h2 : ImT K u h) : ImT K (tAnd t u) (andM f h) := fun dk H0 F0 F σ H env st b st' g e Q q => by
  obtain ⟨⟨x, s1⟩, e1, e⟩ := bnd e
  refine h1 dk H0 F0 F σ H env st x s1 g e1 _ fun F1 H1 x1 g1 => ?_
  cases x with
  | true => exact h2 dk H0 F0 F1 σ H1 env s1 b st' g1 e Q fun F2 H2 x2 g2 => q F2 H2 (x1.trans x2) g2
  | false => cases e; exact q F1 H1 x1 g1
theorem it_or {t u : TT} {f h : MT} (h1 : ImT K t f) (h2 : ImT K u h) : ImT K (tOr t u) (orM f h) := fun dk H0 F0 F σ H env st b st' g e Q q => by
  obtain ⟨⟨x, s1⟩, e1, e⟩ := bnd e
  refine h1 dk H0 F0 F σ H env st x s1 g e1 _ fun F1 H1 x1 g1 => ?_
  cases x with
  | false => exact h2 dk H0 F0 F1 σ H1 env s1 b st' g1 e Q fun F2 H2 x2 g2 => q F2 H2 (x1.trans x2) g2
  | true => cases e; exact q F1 H1 x1 g1
theorem it_not {t : TT} {f : MT} (h1 : ImT K t f) : ImT K (tNot t) (notM f) := fun dk H0 F0 F σ H env st b st' g e Q q => by
  obtain ⟨⟨x, s1⟩, e1, e⟩ := mpd e
  cases e
  exact h1 dk H0 F0 F σ H env st x s1 g e1 _ fun F1 H1 x1 g1 => q F1 H1 x1 g1
/-! as values -/
def andV (f h : ME) : ME := fun env st => (f env st).bind fun p => (blOf p.1).bind fun b => if b then h env p.2 else some (.bl false, p.2)
def orV (f h : ME) : ME := fun env st => (f env st).bind fun p => (blOf p.1).bind fun b => if b then some (.bl true, p.2) else h env p.2
def notV (f : ME) : ME := fun env st => (f env st).bind fun p => (blOf p.1).map fun b => (.bl (!b), p.2)
theorem im_andV {t u : TE} {f h : ME} (h1 : Im K t f) (h2 : Im K u h) : Im K (tAndV t u) (andV f h) := fun dk H0 F0 F σ H env st d st' g e Q q => by
  obtain ⟨⟨x, s1⟩, e1, e⟩ := bnd e
  obtain ⟨b, e2, e⟩ := bnd e
  refine h1 dk H0 F0 F σ H env st x s1 g e1 _ fun v F1 H1 x1 g1 r1 => ?_
  cases blOf_eq e2
  cases r1
  refine ⟨b, rfl, ?_⟩
  cases b with
  | true => exact h2 dk H0 F0 F1 σ H1 env s1 d st' g1 e Q fun v F2 H2 x2 g2 r2 => q v F2 H2 (x1.trans x2) g2 r2
  | false => cases e; exact q _ F1 H1 x1 g1 (.bl false)
theorem im_orV {t u : TE} {f h : ME} (h1 : Im K t f) (h2 : Im K u h) : Im K (tOrV t u) (orV f h) := fun dk H0 F0 F σ H env st d st' g e Q q => by
  obtain ⟨⟨x, s1⟩, e1, e⟩ := bnd e
  obtain ⟨b, e2, e⟩ := bnd e
  refine h1 dk H0 F0 F σ H env st x s1 g e1 _ fun v F1 H1 x1 g1 r1 => ?_
  cases blOf_eq e2
  cases r1
  refine ⟨b, rfl, ?_⟩
  cases b with
  | false => exact h2 dk H0 F0 F1 σ H1 env s1 d st' g1 e Q fun v F2 H2 x2 g2 r2 => q v F2 H2 (x1.trans x2) g2 r2
  | true => cases e; exact q _ F1 H1 x1 g1 (.bl true)
theorem im_notV {t : TE} {f : ME} (h1 : Im K t f) : Im K (tNotV t) (notV f) := fun dk H0 F0 F σ H env st d st' g e Q q => by
  obtain ⟨⟨x, s1⟩, e1, e⟩ := bnd e
  obtain ⟨b, e2, e⟩ := mpd e
  cases e
  refine h1 dk H0 F0 F σ H env st x s1 g e1 _ fun v F1 H1 x1 g1 r1 => ?_
  cases blOf_eq e2
  cases r1
  exact ⟨b, rfl, q _ F1 H1 x1 g1 (.bl _)⟩
def ifM (c : MT) (f h : ME) : ME := fun env st => (c env st).bind fun p => if p.1 then f env p.2 else h env p.2
theorem im_if {t : TT} {ta tb : TE} {c : MT} {f h : ME} (h0 : ImT K t c) (h1 : Im K ta f) (h2 : Im K tb h) : Im K (tIf t ta tb) (ifM c f h) := fun dk H0 F0 F σ H env st d st' g e Q q => by
  obtain ⟨⟨x, s1⟩, e1, e⟩ := bnd e
  refine h0 dk H0 F0 F σ H env st x s1 g e1 _ fun F1 H1 x1 g1 => ?_
  cases x with
  | true => exact h1 dk H0 F0 F1 σ H1 env s1 d st' g1 e Q fun v F2 H2 x2 g2 r2 => q v F2 H2 (x1.trans x2) g2 r2
  | false => exact h2 dk H0 F0 F1 σ H1 env s1 d st' g1 e Q fun v F2 H2 x2 g2 r2 => q v F2 H2 (x1.trans x2) g2 r2
/-- a op b op' c -/
def chM (f f' : D → D → Option D) (fa fb fc : ME) : ME := fun env st => (fa env st).bind fun p => (fb env p.2).bind fun q => (f p.1 q.1).bind fun z => (blOf z).bind fun b =>
  if b then (fc env q.2).bind fun r => (f' q.1 r.1).map fun z => (z, r.2) else some (.bl false, q.2)
theorem im_chain {r r' : R2} {f f' : D → D → Option D} {ta tb tc : TE} {fa fb fc : ME} (hr : RO K r f) (hr' : RO K r' f') (ha : ImW K ta fa) (hb : ImW K tb fb) (hc : ImW K tc fc) : Im K (tChain r r' ta tb tc) (chM f f' fa fb fc) := fun dk H0 F0 F σ H env st d st' g e Q q => by
  obtain ⟨⟨x, s1⟩, h1, e⟩ := bnd e
  obtain ⟨⟨y, s2⟩, h2, e⟩ := bnd e
  obtain ⟨z, h3, e⟩ := bnd e
  obtain ⟨b, h4, e⟩ := bnd e
  refine ha dk H0 F0 F σ H env st x s1 g h1 _ fun v F1 H1 x1 g1 r1 => ?_
  refine hb dk H0 F0 F1 σ H1 env s1 y s2 g1 h2 _ fun u F2 H2 x2 g2 r2 => ?_
  refine hr dk F2 H2 s2 v u x y z g2.wd (r1.ext x2).w r2.w h3 _ fun w F3 H3 px r3 => ?_
  cases blOf_eq h4
  cases r3
  refine ⟨b, rfl, ?_⟩
  have g3 := g2.px px
  have x3 := (x1.trans x2).trans px.ext
  cases b with
  | false => cases e; exact q _ F3 H3 x3 g3 (.bl false)
  | true =>
    replace e : ((fc env s2).bind fun r => (f' y r.1).map fun z => (z, r.2)) = some (d, st') := e
    obtain ⟨⟨t, s4⟩, h5, e⟩ := bnd e
    obtain ⟨z', h6, e⟩ := mpd e
    cases e
    refine hc dk H0 F0 F3 σ H3 env s2 t s4 g3 h5 _ fun w' F4 H4 x4 g4 r4 => ?_
    exact hr' dk F4 H4 s4 u w' y t d g4.wd ((r2.ext px.ext).ext x4).w r4.w h6 Q fun v5 F5 H5 px5 r5 => q v5 F5 H5 ((x3.trans x4).trans px5.ext) (g4.px px5) r5
end
end MD

set_option Elab.async false
set_option linter.all false
set_option maxRecDepth 100000
set_option maxHeartbeats 1000000
namespace MD
open PySem L2
variable {ww : WW}

inductive Fl where
  | nx (env : Sg) | rt (d : D) | bk (env : Sg) | ct (env : Sg)
abbrev MS := Sg → S → Option (Fl × S)
def Dn [WW] (K : Fg) (dk : Dk) (H0 : Hp) (F0 F : Fz) (E : Ends) (st : S) : Fl → Prop
  | .nx env => ∀ F' σ H, Le F F' → Good K dk H0 F0 F' σ H env st → E.nx σ H
  | .bk env => ∀ F' σ H, Le F F' → Good K dk H0 F0 F' σ H env st → E.bk σ H
  | .ct env => ∀ F' σ H, Le F F' → Good K dk H0 F0 F' σ H env st → E.ct σ H
  | .rt d => ∀ v F' H, Ext dk F0 H0 F' H → Wd K dk F' H st → Rp K dk F' v d → E.rt v H
def ImS [WW] (K : Fg) (ts : TS) (f : MS) : Prop := ∀ (dk : Dk) (H0 : Hp) (F0 F : Fz) (σ : L2.St) (H : Hp) (env : Sg) (st : S) (fl : Fl) (st' : S), Good K dk H0 F0 F σ H env st → f env st = some (fl, st') → ∀ E : Ends, Dn K dk H0 F0 F E st' fl → ts E σ H
theorem Dn.mono {K : Fg} {dk : Dk} {H0 : Hp} {F0 F F' : Fz} {E : Ends} {st : S} {fl : Fl} (le : Le F F') (h : Dn K dk H0 F0 F E st fl) : Dn K dk H0 F0 F' E st fl := by
  cases fl with
  | nx e => exact fun F2 σ H l => h F2 σ H (le.trans l)
  | bk e => exact fun F2 σ H l => h F2 σ H (le.trans l)
  | ct e => exact fun F2 σ H l => h F2 σ H (le.trans l)
  | rt d => exact h

section
variable {K : Fg} {dk : Dk} {F F' F0 : Fz} {H H' H0 : Hp} {σ : L2.St} {env : Sg} {st : S}
/-! ### slots stored -/
theorem Good.set {i : Nat} {x : V} {d : D} (g : Good K dk H0 F0 F σ H env st) (r : Rp K dk F x d) : Good K dk H0 F0 F (σ.set i (some x)) H (env.set i (.val d)) st := by
  refine ⟨g.wd, g.ext, by rw [List.length_set, List.length_set]; exact g.len, fun j s e => ?_, fun j k ds es p hne e1 e2 e3 => ?_⟩
  · by_cases hj : i = j
    · subst hj
      by_cases hl : i < env.length
      · rw [List.getElem?_set_self hl] at e
        cases e
        rw [List.getElem?_set_self (by rw [g.len]; exact hl)]
        exact ⟨x, rfl, r⟩
      · rw [List.getElem?_eq_none (by rw [List.length_set]; omega)] at e
        cases e
    · rw [List.getElem?_set_ne hj] at e
      rw [List.getElem?_set_ne hj]
      exact g.sl j s e
  · have nj : i ≠ j := fun z => by
      subst z
      by_cases hl : i < env.length
      · rw [List.getElem?_set_self hl] at e1; cases e1
      · rw [List.getElem?_eq_none (by rw [List.length_set]; omega)] at e1; cases e1
    have nk : i ≠ k := fun z => by
      subst z
      by_cases hl : i < env.length
      · rw [List.getElem?_set_self hl] at e2; cases e2
      · rw [List.getElem?_eq_none (by rw [List.length_set]; omega)] at e2; cases e2
    rw [List.getElem?_set_ne nj] at e1 e3
    rw [List.getElem?_set_ne nk] at e2 ⊢
    exact g.dis j k ds es p hne e1 e2 e3
theorem Good.setO {i : Nat} {p : Addr} {vs : List V} {ds : Own} (g : Good K dk H0 F0 F σ H env st) (hp : ds.1.At H p vs) (fp : F.out p) (h0 : H0 p = none) (n1 : p ≠ dk.1) (n2 : p ≠ dk.2)
    (no : ∀ (j : Nat) (es : Own), env[j]? = some (.own es) → σ[j]? ≠ some (some (.ref p))) (r : Rps K dk F vs ds.2) : Good K dk H0 F0 F (σ.set i (some (.ref p))) H (env.set i (.own ds)) st := by
  refine ⟨g.wd, g.ext, by rw [List.length_set, List.length_set]; exact g.len, fun j s e => ?_, fun j k es es' q hne e1 e2 e3 => ?_⟩
  · by_cases hj : i = j
    · subst hj
      by_cases hl : i < env.length
      · rw [List.getElem?_set_self hl] at e
        cases e
        rw [List.getElem?_set_self (by rw [g.len]; exact hl)]
        exact ⟨p, vs, rfl, hp, fp, h0, n1, n2, r⟩
      · rw [List.getElem?_eq_none (by rw [List.length_set]; omega)] at e
        cases e
    · rw [List.getElem?_set_ne hj] at e
      rw [List.getElem?_set_ne hj]
      exact g.sl j s e
  · by_cases hj : i = j
    · subst hj
      have nk : i ≠ k := hne
      rw [List.getElem?_set_ne nk] at e2 ⊢
      by_cases hl : i < env.length
      · rw [List.getElem?_set_self (by rw [g.len]; exact hl)] at e3
        cases e3
        exact no k es' e2
      · rw [List.getElem?_eq_none (by rw [List.length_set]; omega)] at e1; cases e1
    · rw [List.getElem?_set_ne hj] at e1 e3
      by_cases hk : i = k
      · subst hk
        by_cases hl : i < env.length
        · rw [List.getElem?_set_self (by rw [g.len]; exact hl)]
          intro z
          cases z
          exact no j es e1 e3
        · rw [List.getElem?_eq_none (by rw [List.length_set]; omega)] at e2; cases e2
      · rw [List.getElem?_set_ne hk] at e2 ⊢
        exact g.dis j k es es' q hne e1 e2 e3
theorem Ow.At.nf {p : Addr} {o : HO} : ∀ {w : Ow} {vs : List V}, w.At (L2.upd H p o) p vs → ¬ Fro o
  | .lst, _, h => by
    have h : L2.upd H p o p = _ := h
    rw [upd_same] at h; cases h
    rintro ⟨_, _, z⟩; cases z
  | .dic _, _, h => by
    have h := h.1
    rw [upd_same] at h; cases h
    rintro ⟨_, _, z⟩; cases z
/-- a thing that is neither frozen nor in the store is changed -/
theorem Wd.upd {p : Addr} {o' : HO} (w : Wd K dk F H st) (fp : F.out p) (n1 : p ≠ dk.1) (n2 : p ≠ dk.2) : Wd K dk F (L2.upd H p o') st := by
  refine ⟨fun a u e => ?_, by rw [upd_ne n1.symm]; exact w.d1, by rw [upd_ne n2.symm]; exact w.d2, w.f1, w.f2, w.ne, w.ml, w.nd, fun n a u h1 h2 => ?_⟩
  · rw [upd_ne (ne_of_none e fp.1)]; exact w.sub a u e
  · obtain ⟨q1, q2⟩ := w.ob n a u h1 h2
    have na : a ≠ p := fun z => fp.2 (z ▸ List.mem_of_getElem? h1)
    exact ⟨q1, q2.keep (fun _ e => by rw [upd_ne na]; exact e) (Le.refl F)⟩
theorem Ext.upd {p : Addr} {o' : HO} (x : Ext dk F0 H0 F H) (h0 : H0 p = none) (nf : ¬ Fro o' := by rintro ⟨_, _, z⟩; cases z) : Ext dk F0 H0 F (L2.upd H p o') := by
  refine ⟨fun a o e n1 n2 n3 => ?_, x.f, x.n, fun a e z => ?_, x.u, fun a o e f => x.k a o (updK nf a o e f) f⟩
  · rw [upd_ne (ne_of_none e h0)]; exact x.h a o e n1 n2 n3
  · by_cases na : a = p
    · subst na; rw [upd_same] at z; cases z
    · rw [upd_ne na] at z; exact x.m a e z
/-- an own list is changed -/
theorem Good.mut {i : Nat} {p : Addr} {vs' : List V} {o' : HO} {ds ds' : Own} (g : Good K dk H0 F0 F σ H env st) (he : env[i]? = some (.own ds)) (hs : σ[i]? = some (some (.ref p))) (hw : ds'.1.At (upd H p o') p vs') (r : Rps K dk F vs' ds'.2) :
    Good K dk H0 F0 F σ (upd H p o') (env.set i (.own ds')) st := by
  obtain ⟨p', vs, h1, h2, h3, h4, h5, h6, h7⟩ := g.sl i _ he
  rw [hs] at h1
  have : p = p' := V.ref.inj (Option.some.inj h1)
  subst this
  have hil : i < env.length := by
    by_cases hl : i < env.length
    · exact hl
    · rw [List.getElem?_eq_none (by omega)] at he; cases he
  refine ⟨g.wd.upd h3 h5 h6, g.ext.upd h4 hw.nf, by rw [List.length_set]; exact g.len, fun j s e => ?_, fun j k es es' q hne e1 e2 e3 => ?_⟩
  · by_cases hj : i = j
    · subst hj
      rw [List.getElem?_set_self hil] at e
      cases e
      rw [hs]
      exact ⟨p, vs', rfl, hw, h3, h4, h5, h6, r⟩
    · rw [List.getElem?_set_ne hj] at e
      have q := g.sl j s e
      cases s with
      | un => trivial
      | val d => exact q
      | own es =>
        obtain ⟨p2, us, k1, k2, k3⟩ := q
        have np : p2 ≠ p := fun z => by
          subst z
          exact g.dis i j ds es p2 hj he e hs (join_eq k1)
        exact ⟨p2, us, k1, k2.keep fun o e => by rw [upd_ne np]; exact e, k3⟩
  · have back : ∀ (m : Nat) (zs : Own), (env.set i (.own ds'))[m]? = some (.own zs) → ∃ zs', env[m]? = some (.own zs') := fun m zs e => by
      by_cases hm : i = m
      · subst hm; exact ⟨ds, he⟩
      · rw [List.getElem?_set_ne hm] at e; exact ⟨zs, e⟩
    obtain ⟨z1, b1⟩ := back j es e1
    obtain ⟨z2, b2⟩ := back k es' e2
    exact g.dis j k z1 z2 q hne b1 b2 e3
/-- a thing that nobody knows of is changed -/
theorem Good.mutT {p : Addr} {o o' : HO} (g : Good K dk H0 F0 F σ H env st) (hp : H p = some o) (fp : F.out p) (h0 : H0 p = none) (n1 : p ≠ dk.1) (n2 : p ≠ dk.2)
    (no : ∀ (j : Nat) (es : Own), env[j]? = some (.own es) → σ[j]? ≠ some (some (.ref p))) (nf : ¬ Fro o' := by rintro ⟨_, _, z⟩; cases z) : Good K dk H0 F0 F σ (upd H p o') env st := by
  refine ⟨g.wd.upd fp n1 n2, g.ext.upd h0 nf, g.len, fun j s e => ?_, g.dis⟩
  · have q := g.sl j s e
    cases s with
    | un => trivial
    | val d => exact q
    | own es =>
      obtain ⟨p2, us, k1, k2, k3⟩ := q
      have np : p2 ≠ p := fun z => by
        subst z
        exact no j es e (join_eq k1)
      exact ⟨p2, us, k1, k2.keep fun o e => by rw [upd_ne np]; exact e, k3⟩
/-- other slots, no more known -/
theorem Good.reslot {σ' : L2.St} {env' : Sg} (g : Good K dk H0 F0 F σ H env st) (hl : σ'.length = env'.length) (h : ∀ (i : Nat) (s : Sl), env'[i]? = some s → s = .un ∨ (env[i]? = some s ∧ σ'[i]? = σ[i]?)) : Good K dk H0 F0 F σ' H env' st := by
  refine ⟨g.wd, g.ext, hl, fun i s e => ?_, fun i j ds es p hne e1 e2 e3 => ?_⟩
  · rcases h i s e with z | ⟨z1, z2⟩
    · subst z; trivial
    · rw [z2]; exact g.sl i s z1
  · rcases h i _ e1 with z | ⟨z1, z2⟩
    · cases z
    · rcases h j _ e2 with z | ⟨y1, y2⟩
      · cases z
      · rw [z2] at e3; rw [y2]; exact g.dis i j ds es p hne z1 y1 e3

/-! ### small statements -/
def nxM : MS := fun env st => some (.nx env, st)
theorem is_next : ImS K tNext nxM := fun dk H0 F0 F σ H env st fl st' g e E h => by
  cases e
  exact h F σ H (Le.refl F) g
def seqM (f h : MS) : MS := fun env st => (f env st).bind fun p => match p.1 with
  | .nx e => h e p.2
  | fl => some (fl, p.2)
theorem is_seq {t u : TS} {f h : MS} (h1 : ImS K t f) (h2 : ImS K u h) : ImS K (tSeq t u) (seqM f h) := fun dk H0 F0 F σ H env st fl st' g e E hd => by
  obtain ⟨⟨fl1, s1⟩, e1, e⟩ := bnd e
  cases fl1 with
  | nx env1 => exact h1 dk H0 F0 F σ H env st _ s1 g e1 _ fun F1 σ1 H1 le1 g1 => h2 dk H0 F0 F1 σ1 H1 env1 s1 fl st' g1 e E (hd.mono le1)
  | rt d => cases e; exact h1 dk H0 F0 F σ H env st _ s1 g e1 _ hd
  | bk d => cases e; exact h1 dk H0 F0 F σ H env st _ s1 g e1 _ hd
  | ct d => cases e; exact h1 dk H0 F0 F σ H env st _ s1 g e1 _ hd
def retM (f : ME) : MS := fun env st => (f env st).map fun p => (.rt p.1, p.2)
theorem is_ret {te : TE} {f : ME} (h : Im K te f) : ImS K (tRet te) (retM f) := fun dk H0 F0 F σ H env st fl st' g e E hd => by
  obtain ⟨⟨d, s1⟩, e1, e⟩ := mpd e
  cases e
  exact h dk H0 F0 F σ H env st d s1 g e1 _ fun v F1 H1 x1 g1 r1 => hd v F1 H1 g1.ext g1.wd r1
def retN : MS := fun env st => some (.rt .non, st)
theorem is_retN : ImS K tRetN retN := fun dk H0 F0 F σ H env st fl st' g e E hd => by
  cases e
  exact hd .non F H g.ext g.wd .non
def ifS (c : MT) (f h : MS) : MS := fun env st => (c env st).bind fun p => if p.1 then f env p.2 else h env p.2
theorem is_if {c : TT} {t u : TS} {fc : MT} {f h : MS} (h0 : ImT K c fc) (h1 : ImS K t f) (h2 : ImS K u h) : ImS K (tIfS c t u) (ifS fc f h) := fun dk H0 F0 F σ H env st fl st' g e E hd => by
  obtain ⟨⟨b, s1⟩, e1, e⟩ := bnd e
  refine h0 dk H0 F0 F σ H env st b s1 g e1 _ fun F1 H1 x1 g1 => ?_
  cases b with
  | true => exact h1 dk H0 F0 F1 σ H1 env s1 fl st' g1 e E (hd.mono x1.f)
  | false => exact h2 dk H0 F0 F1 σ H1 env s1 fl st' g1 e E (hd.mono x1.f)
def dropM (f : ME) : MS := fun env st => (f env st).map fun p => (.nx env, p.2)
theorem is_drop {te : TE} {f : ME} (h : Im K te f) : ImS K (tDrop te) (dropM f) := fun dk H0 F0 F σ H env st fl st' g e E hd => by
  obtain ⟨⟨d, s1⟩, e1, e⟩ := mpd e
  cases e
  exact h dk H0 F0 F σ H env st d s1 g e1 _ fun v F1 H1 x1 g1 r1 => hd F1 σ H1 x1.f g1
def bkM : MS := fun env st => some (.bk env, st)
def ctM : MS := fun env st => some (.ct env, st)
theorem is_break : ImS K tBreak bkM := fun dk H0 F0 F σ H env st fl st' g e E h => by
  cases e
  exact h F σ H (Le.refl F) g
theorem is_cont : ImS K tCont ctM := fun dk H0 F0 F σ H env st fl st' g e E h => by
  cases e
  exact h F σ H (Le.refl F) g

/-! ### targets -/
abbrev MG := D → Sg → Option Sg
structure Tg (is : List Nat) (σ σ' : L2.St) (env env' : Sg) : Prop where
  len : σ'.length = σ.length
  elen : env'.length = env.length
  same : ∀ (i : Nat), i ∉ is → σ'[i]? = σ[i]? ∧ env'[i]? = env[i]?
def ImG [WW] (K : Fg) (g : TG) (t : MG) (is : List Nat) : Prop := ∀ (dk : Dk) (H0 : Hp) (F0 F : Fz) (σ : L2.St) (H : Hp) (env : Sg) (st : S) (v : V) (d : D) (env' : Sg), Good K dk H0 F0 F σ H env st → Rp K dk F v d → t d env = some env' →
  ∀ Q : L2.St → Hp → Prop, (∀ σ', Good K dk H0 F0 F σ' H env' st → Tg is σ σ' env env' → Q σ' H) → g v σ H Q
def ImGs [WW] (K : Fg) (g : TGs) (t : List D → Sg → Option Sg) (is : List Nat) : Prop := ∀ (dk : Dk) (H0 : Hp) (F0 F : Fz) (σ : L2.St) (H : Hp) (env : Sg) (st : S) (vs : List V) (ds : List D) (env' : Sg), Good K dk H0 F0 F σ H env st → Rps K dk F vs ds → t ds env = some env' →
  ∀ Q : L2.St → Hp → Prop, (∀ σ', Good K dk H0 F0 F σ' H env' st → Tg is σ σ' env env' → Q σ' H) → g vs σ H Q
def nameT (i : Nat) : MG := fun d env => some (env.set i (.val d))
theorem ig_name (i : Nat) : ImG K (gName i) (nameT i) [i] := fun dk H0 F0 F σ H env st v d env' g r e Q q => by
  cases e
  refine q _ (g.set r) ⟨List.length_set, List.length_set, fun j hj => ?_⟩
  have hj' : i ≠ j := fun z => hj (by simp [z])
  exact ⟨List.getElem?_set_ne hj', List.getElem?_set_ne hj'⟩
def nilT : List D → Sg → Option Sg
  | [], env => some env
  | _, _ => none
def consT (t : MG) (u : List D → Sg → Option Sg) : List D → Sg → Option Sg
  | d :: ds, env => (t d env).bind fun e => u ds e
  | _, _ => none
theorem igs_nil : ImGs K gNil nilT [] := fun dk H0 F0 F σ H env st vs ds env' g r e Q q => by
  unfold nilT at e
  split at e
  · cases e
    cases r
    exact ⟨rfl, q σ g ⟨rfl, rfl, fun _ _ => ⟨rfl, rfl⟩⟩⟩
  · cases e
theorem igs_cons {g : TG} {gs : TGs} {t : MG} {u : List D → Sg → Option Sg} {is js : List Nat} (h1 : ImG K g t is) (h2 : ImGs K gs u js) : ImGs K (gCons g gs) (consT t u) (is ++ js) := fun dk H0 F0 F σ H env st vs ds env' gd r e Q q => by
  unfold consT at e
  split at e
  · obtain ⟨e1, h3, h4⟩ := bnd e
    cases r with
    | cons a b =>
      refine ⟨_, _, rfl, h1 dk H0 F0 F σ H env st _ _ e1 gd a h3 _ fun σ1 g1 t1 => ?_⟩
      refine h2 dk H0 F0 F σ1 H e1 st _ _ env' g1 b h4 _ fun σ2 g2 t2 => q σ2 g2 ⟨t2.len.trans t1.len, t2.elen.trans t1.elen, fun i hi => ?_⟩
      have a1 := t1.same i fun z => hi (List.mem_append_left _ z)
      have a2 := t2.same i fun z => hi (List.mem_append_right _ z)
      exact ⟨a2.1.trans a1.1, a2.2.trans a1.2⟩
  · cases e
def tupT (n : Nat) (u : List D → Sg → Option Sg) : MG := fun d env => match d with
  | .tup ds => if ds.length = n then u ds env else none
  | _ => none
theorem ig_tup {gs : TGs} {u : List D → Sg → Option Sg} {js : List Nat} {n : Nat} (h : ImGs K gs u js) : ImG K (gTup K n gs) (tupT n u) js := fun dk H0 F0 F σ H env st v d env' g r e Q q => by
  unfold tupT at e
  split at e
  · split at e
    · rename_i hn
      cases r with
      | tup h1 h2 =>
        exact ⟨_, _, rfl, g.wd.sub.sqT h1, by rw [h2.length]; exact hn, h dk H0 F0 F σ H env st _ _ env' g h2 e Q q⟩
    · cases e
  · cases e
def asgM (t : MG) (f : ME) : MS := fun env st => (f env st).bind fun p => (t p.1 env).map fun e => (.nx e, p.2)
theorem is_asg {te : TE} {g : TG} {t : MG} {f : ME} {is : List Nat} (h : Im K te f) (hg : ImG K g t is) : ImS K (tAsg te g) (asgM t f) := fun dk H0 F0 F σ H env st fl st' gd e E hd => by
  obtain ⟨⟨d, s1⟩, e1, e⟩ := bnd e
  obtain ⟨en, e2, e⟩ := mpd e
  cases e
  refine h dk H0 F0 F σ H env st d s1 gd e1 _ fun v F1 H1 x1 g1 r1 => ?_
  exact hg dk H0 F0 F1 σ H1 env s1 v d en g1 r1 e2 _ fun σ' g2 _ => hd F1 σ' H1 x1.f g2
/-- a new list for a name that will change it -/
def ownM (i : Nat) (f : MA) : MS := fun env st => (f env st).map fun p => (.nx (env.set i (.own (.lst, p.1))), p.2)
theorem is_own {te : TE} {f : MA} (i : Nat) (h : ImF K te f) : ImS K (tAsg te (gName i)) (ownM i f) := fun dk H0 F0 F σ H env st fl st' g e E hd => by
  obtain ⟨⟨ds, s1⟩, e1, e⟩ := mpd e
  cases e
  refine h dk H0 F0 F σ H env st ds s1 g e1 _ fun p vs F1 H1 x1 g1 hp fp hl r => ?_
  have nd := g.nedk hp
  exact hd F1 _ H1 x1.f (g1.setO (ds := (.lst, ds)) hl fp (g.fresh0 hp) nd.1 nd.2 (g.noown hp) r)
/-- a, b = e1, e2 -/
def two (i j : Nat) (env : Sg) : List D → Option Sg
  | [d, e] => some ((env.set i (.val d)).set j (.val e))
  | _ => none
def parM (i j : Nat) (fa : MA) : MS := fun env st => (fa env st).bind fun p => (two i j env p.1).map fun e => (.nx e, p.2)
theorem is_par {ta : TA} {fa : MA} (i j : Nat) (h : ImA K ta fa) : ImS K (tPar i j ta) (parM i j fa) := fun dk H0 F0 F σ H env st fl st' g e E hd => by
  obtain ⟨⟨ds, s1⟩, e1, e⟩ := bnd e
  obtain ⟨en, e2, e⟩ := mpd e
  cases e
  refine h dk H0 F0 F σ H env st ds s1 g e1 _ fun vs F1 H1 x1 g1 r1 => ?_
  replace e2 : two i j env ds = some en := e2
  unfold two at e2
  split at e2
  · cases e2
    cases r1 with
    | cons a b => cases b with
      | cons b c =>
        cases c
        exact ⟨_, _, rfl, hd F1 _ H1 x1.f ((g1.set a).set b)⟩
  · cases e2
/-- x op= e -/
def augM (i : Nat) (op : D → D → Option D) (f : ME) : MS := fun env st => match env[i]? with
  | some (.val x) => (f env st).bind fun p => (op x p.1).map fun z => (.nx (env.set i (.val z)), p.2)
  | _ => none
theorem is_aug {te : TE} {ti : TIp} {op : D → D → Option D} {f : ME} (i : Nat) (hr : RO K ti op) (h : ImW K te f) : ImS K (tAug i te ti) (augM i op f) := fun dk H0 F0 F σ H env st fl st' g e E hd => by
  unfold augM at e
  split at e
  · rename_i x hx
    obtain ⟨⟨d, s1⟩, e1, e⟩ := bnd e
    obtain ⟨z, e2, e⟩ := mpd e
    cases e
    obtain ⟨v, h1, h2⟩ := g.sl i _ hx
    refine ⟨v, join_eq h1, h dk H0 F0 F σ H env st d s1 g e1 _ fun u F1 H1 x1 g1 r1 => ?_⟩
    exact hr dk F1 H1 s1 v u x d z g1.wd (.rp (h2.mono x1.f)) r1.w e2 _ fun w F2 H2 px r2 => hd F2 _ H2 (x1.f.trans px.f) ((g1.px px).set r2)
  · cases e
/-- a name's own list is changed no more -/
def frzE (i : Nat) (env : Sg) : Sg := match env[i]? with
  | some (.own (.lst, ds)) => env.set i (.val (.lst ds))
  | some (.own (.dic ks, ds)) => env.set i (.val (.dic ks ds))
  | _ => env
theorem Good.frz1 {i : Nat} {w : Own} {o : HO} {d : D} {p : Addr} (g : Good K dk H0 F0 F σ H env st) (he : env[i]? = some (.own w)) (hs : σ[i]? = some (some (.ref p))) (h2 : H p = some o) (h3 : F.out p) (h4 : H0 p = none) (h5 : p ≠ dk.1) (h6 : p ≠ dk.2)
    (r : Rp K dk (F.up p o) (.ref p) d) : Good K dk H0 F0 (F.up p o) σ H (env.set i (.val d)) st := by
  have hil : i < env.length := by
    by_cases hl : i < env.length
    · exact hl
    · rw [List.getElem?_eq_none (by omega)] at he; cases he
  -- first forget the slot, then freeze, then store it again
  have g1 : Good K dk H0 F0 F σ H (env.set i .un) st := g.reslot (by rw [List.length_set]; exact g.len) fun j s e => by
    by_cases hj : i = j
    · subst hj
      rw [List.getElem?_set_self hil] at e
      cases e; exact .inl rfl
    · rw [List.getElem?_set_ne hj] at e; exact .inr ⟨e, rfl⟩
  have g2 := g1.freeze (p := p) h2 h3 h4 h5 h6 fun j es e => by
    by_cases hj : i = j
    · subst hj
      rw [List.getElem?_set_self hil] at e; cases e
    · rw [List.getElem?_set_ne hj] at e
      exact g.dis i j _ es p hj he e hs
  have g3 := g2.set (i := i) r
  rw [List.set_set] at g3
  have es : σ.set i (some (.ref p)) = σ := by
    apply List.ext_getElem?
    intro j
    by_cases hj : i = j
    · subst hj
      rw [List.getElem?_set_self (by rw [g.len]; exact hil), hs]
    · rw [List.getElem?_set_ne hj]
  rw [es] at g3
  exact g3
theorem Good.frzE (i : Nat) (g : Good K dk H0 F0 F σ H env st) : ∃ F', Le F F' ∧ Good K dk H0 F0 F' σ H (frzE i env) st := by
  unfold MD.frzE
  split
  · rename_i ds he
    obtain ⟨p, vs, h1, h2, h3, h4, h5, h6, h7⟩ := g.sl i _ he
    have le : Le F (F.up p (.lst vs)) := Le.new h3.1
    exact ⟨_, le, g.frz1 he (join_eq h1) h2 h3 h4 h5 h6 (.lst Fz.up_same (h7.mono le))⟩
  · rename_i ks ds he
    obtain ⟨p, vs, h1, ⟨h2, h2'⟩, h3, h4, h5, h6, h7⟩ := g.sl i _ he
    have le : Le F (F.up p (.dK (ks.zip vs))) := Le.new h3.1
    exact ⟨_, le, g.frz1 he (join_eq h1) h2 h3 h4 h5 h6 (.dic Fz.up_same h2' (h7.mono le))⟩
  · exact ⟨F, Le.refl F, g⟩
def frzM (i : Nat) (f : MS) : MS := fun env st => f (frzE i env) st
theorem is_frz {t : TS} {f : MS} (i : Nat) (h : ImS K t f) : ImS K t (frzM i f) := fun dk H0 F0 F σ H env st fl st' g e E hd => by
  obtain ⟨F1, le, g1⟩ := g.frzE i
  exact h dk H0 F0 F1 σ H (frzE i env) st fl st' g1 e E (hd.mono le)
/-- x.append(e), x.extend(e) of a name's own list -/
def appM (i : Nat) (f : ME) : MS := fun env st => match env[i]? with
  | some (.own (.lst, ds)) => if ds.length < sizeLine then (f env st).map fun p => (.nx (env.set i (.own (.lst, ds ++ [p.1]))), p.2) else none
  | _ => none
theorem is_app {te : TE} {f : ME} (i : Nat) (h : Im K te f) : ImS K (tDrop (tBM K "list" rAppend (tVar i) (tCons te tNil))) (appM i f) := fun dk H0 F0 F σ H env st fl st' g e E hd => by
  unfold appM at e
  split at e
  · rename_i ds he
    split at e
    · rename_i hz
      obtain ⟨⟨d, s1⟩, e1, e⟩ := mpd e
      cases e
      obtain ⟨p, vs, h1, h2, h3, h4, h5, h6, h7⟩ := g.sl i _ he
      refine ⟨.ref p, join_eq h1, .inl ⟨rfl, vs, SqL.of h2⟩, ?_⟩
      refine h dk H0 F0 F σ H env st d s1 g e1 _ fun v F1 H1 x1 g1 r1 => ?_
      refine ⟨p, vs, v, rfl, rfl, x1.h _ _ h2 h5 h6 (.inl h3.2), by rw [h7.length]; exact hz, ?_⟩
      exact hd F1 σ _ x1.f (g1.mut (ds' := (.lst, _)) he (join_eq h1) upd_same ((h7.mono x1.f).append (Rps.one r1)))
    · cases e
  · cases e
def lstOf : D → Option (List D)
  | .lst ds => some ds
  | _ => none
theorem lstOf_eq {d : D} {ds : List D} (h : lstOf d = some ds) : d = .lst ds := by
  cases d <;> first | (cases h; rfl) | cases h
def extM (i : Nat) (f : ME) : MS := fun env st => match env[i]? with
  | some (.own (.lst, ds)) => (f env st).bind fun p => (lstOf (dr p.2 p.1)).bind fun es => if ds.length + es.length ≤ sizeLine then some (.nx (env.set i (.own (.lst, ds ++ es))), p.2) else none
  | _ => none
theorem is_ext {te : TE} {f : ME} (i : Nat) (h : ImW K te f) : ImS K (tDrop (tBM K "list" rExtend (tVar i) (tCons te tNil))) (extM i f) := fun dk H0 F0 F σ H env st fl st' g e E hd => by
  unfold extM at e
  split at e
  · rename_i ds he
    obtain ⟨⟨d, s1⟩, e1, e⟩ := bnd e
    obtain ⟨es, e2, e⟩ := bnd e
    split at e
    · rename_i hz
      cases e
      obtain ⟨p, vs, h1, h2, h3, h4, h5, h6, h7⟩ := g.sl i _ he
      refine ⟨.ref p, join_eq h1, .inl ⟨rfl, vs, SqL.of h2⟩, ?_⟩
      refine h dk H0 F0 F σ H env st _ s1 g e1 _ fun v F1 H1 x1 g1 r1 => ?_
      have r2 := r1.dr g1.wd
      rw [lstOf_eq e2] at r2
      obtain ⟨q, us, rfl, k1, k2⟩ := r2.l g1.wd.sub
      refine ⟨p, q, vs, us, rfl, rfl, x1.h _ _ h2 h5 h6 (.inl h3.2), k1, by rw [h7.length, k2.length]; exact hz, ?_⟩
      exact hd F1 σ _ x1.f (g1.mut (ds' := (.lst, _)) he (join_eq h1) upd_same ((h7.mono x1.f).append k2))
    · cases e
  · cases e
end
end MD

set_option Elab.async false
set_option linter.all false
set_option maxRecDepth 100000
set_option maxHeartbeats 1000000
namespace MD
open PySem L2
variable {ww : WW}

abbrev MI := Sg → S → Option (List D × S)
/-- the walk goes through these data, whatever is laid meanwhile -/
def Stdy [WW] (K : Fg) (dk : Dk) (F : Fz) (J : It) (ds : List D) : Prop := ∀ (F1 : Fz) (H1 : Hp) (st : S), Le F F1 → Wd K dk F1 H1 st → ∀ i : Nat,
  (∀ d, ds[i]? = some d → J.go i H1 ∧ ∀ x H2, J.yld i H1 x H2 → ∃ F2, Px F1 H1 F2 H2 ∧ Rp K dk F2 x d) ∧ (ds.length ≤ i → J.stop i H1)
def ImI [WW] (K : Fg) (wi : TI) (f : MI) : Prop := ∀ (dk : Dk) (H0 : Hp) (F0 F : Fz) (σ : L2.St) (H : Hp) (env : Sg) (st : S) (ds : List D) (st' : S), Good K dk H0 F0 F σ H env st → f env st = some (ds, st') →
  ∀ R : It → Hp → Prop, (∀ J F' H', Ext dk F H F' H' → Good K dk H0 F0 F' σ H' env st' → Stdy K dk F' J ds → R J H') → wi σ H R

section
variable {K : Fg} {dk : Dk} {F F' F0 : Fz} {H H' H0 : Hp} {σ : L2.St} {env : Sg} {st : S}
theorem Stdy.mono {J : It} {ds : List D} (le : Le F F') (h : Stdy K dk F J ds) : Stdy K dk F' J ds := fun F1 H1 st l w => h F1 H1 st (le.trans l) w
theorem getD_none {α : Type} {l : List α} {i : Nat} (h : l.length ≤ i) : l[i]? = none := List.getElem?_eq_none h

/-! ### for -/
def forL (t : MG) (b : MS) : List D → MS
  | [], env, st => some (.nx env, st)
  | d :: ds, env, st => (t d env).bind fun env1 => (b env1 st).bind fun p => match p.1 with
    | .nx e => forL t b ds e p.2
    | .ct e => forL t b ds e p.2
    | .bk e => some (.nx e, p.2)
    | .rt r => some (.rt r, p.2)
def forM (it : MI) (t : MG) (b : MS) : MS := fun env st => (it env st).bind fun p => forL t b p.1 env p.2
theorem is_for {wi : TI} {g : TG} {tb : TS} {it : MI} {t : MG} {b : MS} {is : List Nat} (hi : ImI K wi it) (hg : ImG K g t is) (hb : ImS K tb b) : ImS K (tFor wi g tb) (forM it t b) := fun dk H0 F0 F σ H env st fl st' gd e E hd => by
  obtain ⟨⟨ds, s1⟩, e1, e⟩ := bnd e
  refine hi dk H0 F0 F σ H env st ds s1 gd e1 _ fun J F1 H1 x1 g1 sd => ?_
  have hd1 := hd.mono x1.f
  let P : Nat → L2.St → Hp → Prop := fun i σ H => ∃ F2 env st, Le F1 F2 ∧ Good K dk H0 F0 F2 σ H env st ∧ forL t b (ds.drop i) env st = some (fl, st')
  refine ⟨fun i m σ H => m = ds.length - i ∧ i ≤ ds.length ∧ P i σ H, ⟨_, rfl, Nat.zero_le _, F1, env, s1, Le.refl F1, g1, e⟩, ?_⟩
  rintro i m σ2 H2 ⟨rfl, hle, F2, env2, s2, le2, g2, e2⟩
  by_cases hlt : i < ds.length
  · have hdi : ds[i]? = some ds[i] := List.getElem?_eq_getElem hlt
    obtain ⟨hgo, hy⟩ := (sd F2 H2 s2 le2 g2.wd i).1 _ hdi
    refine .inr ⟨hgo, P (i + 1), fun σ' H' hp => ⟨_, by omega, rfl, hlt, hp⟩, fun x H3 hx => ?_⟩
    obtain ⟨F3, px, rx⟩ := hy x H3 hx
    have g3 := g2.px px
    rw [List.drop_eq_getElem_cons hlt] at e2
    obtain ⟨env3, e3, e2⟩ := bnd e2
    obtain ⟨⟨fl3, s3⟩, e4, e2⟩ := bnd e2
    refine hg dk H0 F0 F3 σ2 H3 env2 s2 x _ env3 g3 rx e3 _ fun σ4 g4 _ => ?_
    refine hb dk H0 F0 F3 σ4 H3 env3 s2 fl3 s3 g4 e4 _ ?_
    cases fl3 with
    | nx e5 => exact fun F5 σ5 H5 l5 g5 => ⟨F5, e5, s3, (le2.trans px.f).trans l5, g5, e2⟩
    | ct e5 => exact fun F5 σ5 H5 l5 g5 => ⟨F5, e5, s3, (le2.trans px.f).trans l5, g5, e2⟩
    | bk e5 =>
      cases e2
      exact fun F5 σ5 H5 l5 g5 => hd1 F5 σ5 H5 ((le2.trans px.f).trans l5) g5
    | rt r =>
      cases e2
      exact hd1
  · have ei : i = ds.length := by omega
    subst ei
    rw [List.drop_length] at e2
    cases e2
    exact .inl ⟨(sd F2 H2 _ le2 g2.wd ds.length).2 (Nat.le_refl _), hd1 F2 σ2 H2 le2 g2⟩

/-! ### while -/
def whF (c : MT) (b : MS) : Nat → MS
  | 0, _, _ => none
  | n + 1, env, st => (c env st).bind fun q => if q.1 then (b env q.2).bind fun p => match p.1 with
      | .nx e => whF c b n e p.2
      | .ct e => whF c b n e p.2
      | .bk e => some (.nx e, p.2)
      | .rt r => some (.rt r, p.2)
    else some (.nx env, q.2)
theorem whF_mono {c : MT} {b : MS} {r : Fl × S} : ∀ (n : Nat) {env : Sg} {st : S}, whF c b n env st = some r → whF c b (n + 1) env st = some r
  | 0, _, _, h => by cases h
  | n + 1, env, st, h => by
    obtain ⟨⟨k, s1⟩, e1, h⟩ := bnd h
    show ((c env st).bind _) = _
    rw [e1]
    cases k with
    | false => exact h
    | true =>
      replace h : ((b env s1).bind fun p => match p.1 with
        | .nx e => whF c b n e p.2
        | .ct e => whF c b n e p.2
        | .bk e => some (.nx e, p.2)
        | .rt r => some (.rt r, p.2)) = some r := h
      obtain ⟨⟨fl, s2⟩, e2, h⟩ := bnd h
      show ((b env s1).bind _) = _
      rw [e2]
      cases fl with
      | nx e => exact whF_mono n h
      | ct e => exact whF_mono n h
      | bk e => exact h
      | rt e => exact h
theorem whF_le {c : MT} {b : MS} {r : Fl × S} {env : Sg} {st : S} {n m : Nat} (h : n ≤ m) (e : whF c b n env st = some r) : whF c b m env st = some r := by
  induction h with
  | refl => exact e
  | step _ ih => exact whF_mono _ ih
open Classical in
noncomputable def whM (c : MT) (b : MS) : MS := fun env st => if h : ∃ n r, whF c b n env st = some r then whF c b h.choose env st else none
theorem whM_of {c : MT} {b : MS} {r : Fl × S} {env : Sg} {st : S} {n : Nat} (e : whF c b n env st = some r) : whM c b env st = some r := by
  unfold whM
  have h : ∃ n r, whF c b n env st = some r := ⟨n, r, e⟩
  rw [dif_pos h]
  obtain ⟨r', hr⟩ := h.choose_spec
  rw [hr]
  rcases Nat.le_total n h.choose with l | l
  · rw [whF_le l e] at hr; exact hr.symm
  · rw [whF_le l hr] at e; exact e
theorem of_whM {c : MT} {b : MS} {r : Fl × S} {env : Sg} {st : S} (e : whM c b env st = some r) : ∃ n, whF c b n env st = some r := by
  unfold whM at e
  split at e
  · exact ⟨_, e⟩
  · cases e
theorem is_while {c : TT} {tb : TS} {fc : MT} {b : MS} (hc : ImT K c fc) (hb : ImS K tb b) : ImS K (tWhile c tb) (whM fc b) := fun dk H0 F0 F σ H env st fl st' gd e E hd => by
  obtain ⟨n, e⟩ := of_whM e
  refine ⟨fun m σ H => ∃ F2 env st, Le F F2 ∧ Good K dk H0 F0 F2 σ H env st ∧ whF fc b m env st = some (fl, st'), ⟨n, F, env, st, Le.refl F, gd, e⟩, ?_⟩
  rintro m σ2 H2 ⟨F2, env2, s2, le2, g2, e2⟩
  cases m with
  | zero => cases e2
  | succ m =>
    obtain ⟨⟨k, s3⟩, e3, e2⟩ := bnd e2
    refine hc dk H0 F0 F2 σ2 H2 env2 s2 k s3 g2 e3 _ fun F3 H3 x3 g3 => ?_
    have le3 := le2.trans x3.f
    cases k with
    | false => cases e2; exact hd F3 σ2 H3 le3 g3
    | true =>
      replace e2 : ((b env2 s3).bind fun p => match p.1 with
        | .nx e => whF fc b m e p.2
        | .ct e => whF fc b m e p.2
        | .bk e => some (.nx e, p.2)
        | .rt r => some (.rt r, p.2)) = some (fl, st') := e2
      obtain ⟨⟨fl4, s4⟩, e4, e2⟩ := bnd e2
      refine ⟨fun σ H => ∃ F2 env st, Le F F2 ∧ Good K dk H0 F0 F2 σ H env st ∧ whF fc b m env st = some (fl, st'), fun σ' H' h => ⟨m, Nat.lt_succ_self m, h⟩, ?_⟩
      refine hb dk H0 F0 F3 σ2 H3 env2 s3 fl4 s4 g3 e4 _ ?_
      cases fl4 with
      | nx e5 => exact fun F5 σ5 H5 l5 g5 => ⟨F5, e5, s4, le3.trans l5, g5, e2⟩
      | ct e5 => exact fun F5 σ5 H5 l5 g5 => ⟨F5, e5, s4, le3.trans l5, g5, e2⟩
      | bk e5 =>
        cases e2
        exact fun F5 σ5 H5 l5 g5 => hd F5 σ5 H5 (le3.trans l5) g5
      | rt r =>
        cases e2
        exact hd

/-! ### comprehensions -/
def wipeE (env : Sg) : List Nat → Sg
  | [] => env
  | v :: vs => (wipeE env vs).set v .un
theorem wipeE_length (env : Sg) : ∀ vs : List Nat, (wipeE env vs).length = env.length
  | [] => rfl
  | v :: vs => by unfold wipeE; rw [List.length_set, wipeE_length env vs]
theorem wipeE_get {env : Sg} {i : Nat} {s : Sl} : ∀ {vs : List Nat}, (wipeE env vs)[i]? = some s → s = .un ∨ (env[i]? = some s ∧ i ∉ vs)
  | [], h => .inr ⟨h, by simp⟩
  | v :: vs, h => by
    unfold wipeE at h
    by_cases hi : v = i
    · subst hi
      by_cases hv : v < (wipeE env vs).length
      · rw [List.getElem?_set_self hv] at h; cases h; exact .inl rfl
      · rw [List.getElem?_eq_none (by rw [List.length_set]; omega)] at h; cases h
    · rw [List.getElem?_set_ne hi] at h
      rcases wipeE_get h with z | ⟨z1, z2⟩
      · exact .inl z
      · exact .inr ⟨z1, by simp only [List.mem_cons, not_or]; exact ⟨fun e => hi e.symm, z2⟩⟩
theorem wipe_off {σ : L2.St} {i : Nat} : ∀ {vs : List Nat}, i ∉ vs → (wipe σ vs)[i]? = σ[i]?
  | [], _ => rfl
  | v :: vs, h => by
    unfold wipe
    have hi : v ≠ i := fun e => h (by simp [e])
    rw [List.getElem?_set_ne hi]
    exact wipe_off fun z => h (List.mem_cons_of_mem _ z)
theorem wipe_in {σ : L2.St} {i : Nat} : ∀ {vs : List Nat}, i ∈ vs → (wipe σ vs)[i]? = if i < σ.length then some none else none
  | [], h => by cases h
  | v :: vs, h => by
    unfold wipe
    by_cases hi : v = i
    · subst hi
      by_cases hv : v < σ.length
      · rw [List.getElem?_set_self (by rw [wipe_length]; exact hv), if_pos hv]
      · rw [List.getElem?_eq_none (by rw [List.length_set, wipe_length]; omega), if_neg hv]
    · rw [List.getElem?_set_ne hi]
      rcases List.mem_cons.mp h with e | e
      · exact absurd e.symm hi
      · exact wipe_in e
theorem wipe_eq {σ σ' : L2.St} {vs : List Nat} (hl : σ'.length = σ.length) (h : ∀ i : Nat, i ∉ vs → σ'[i]? = σ[i]?) : wipe σ' vs = wipe σ vs := by
  apply List.ext_getElem?
  intro i
  by_cases hi : i ∈ vs
  · rw [wipe_in hi, wipe_in hi, hl]
  · rw [wipe_off hi, wipe_off hi]; exact h i hi
theorem wipe_wipe {σ : L2.St} {vs : List Nat} : wipe (wipe σ vs) vs = wipe σ vs := wipe_eq (wipe_length σ vs) fun i hi => wipe_off hi
theorem Good.wiped {vs : List Nat} (g : Good K dk H0 F0 F σ H env st) : Good K dk H0 F0 F (wipe σ vs) H (wipeE env vs) st :=
  g.reslot (by rw [wipe_length, wipeE_length]; exact g.len) fun i s e => by
    rcases wipeE_get e with z | ⟨z1, z2⟩
    · exact .inl z
    · exact .inr ⟨z1, wipe_off z2⟩
def compL (t : MG) (c : MT) (f : ME) (env : Sg) : List D → S → Option (List D × S)
  | [], st => some ([], st)
  | d :: ds, st => (t d env).bind fun e => (c e st).bind fun p => if p.1 then (f e p.2).bind fun q => (compL t c f env ds q.2).map fun r => (q.1 :: r.1, r.2) else compL t c f env ds p.2
def compM (it : MI) (t : MG) (c : MT) (f : ME) (vs : List Nat) : MA := fun env st => (it env st).bind fun p => if p.1.length ≤ sizeLine then compL t c f (wipeE env vs) p.1 p.2 else none
def yesM : MT := fun _ st => some (true, st)
theorem it_yes : ImT K tYes yesM := fun dk H0 F0 F σ H env st b st' g e Q q => by
  cases e
  exact q F H (Ext.refl F H) g
theorem if_comp {wi : TI} {g : TG} {tt : TT} {te : TE} {vs : List Nat} {it : MI} {t : MG} {c : MT} {f : ME} {is : List Nat} (hi : ImI K wi it) (hg : ImG K g t is) (ht : ImT K tt c) (he : Im K te f) (hv : ∀ i ∈ is, i ∈ vs) :
    ImF K (tLc wi g tt te vs) (compM it t c f vs) := fun dk H0 F0 F σ H env st out st' gd e Q q => by
  obtain ⟨⟨ds, s1⟩, e1, e⟩ := bnd e
  replace e : (if ds.length ≤ sizeLine then compL t c f (wipeE env vs) ds s1 else none) = some (out, st') := e
  split at e
  · rename_i hz
    refine hi dk H0 F0 F σ H env st ds s1 gd e1 _ fun J F1 H1 x1 g1 sd Dn hD => ?_
    have hDH : H Dn = none := by
      cases w : H Dn with
      | none => rfl
      | some o => exact absurd hD (x1.m Dn (by rw [w]; exact fun z => nomatch z))
    have nd := g1.nedk hD
    have h0D := g1.fresh0 hD
    have noD := g1.noown hD
    have noW : ∀ (j : Nat) (es : Own), (wipeE env vs)[j]? = some (.own es) → (wipe σ vs)[j]? ≠ some (some (.ref Dn)) := fun j es e => by
      rcases wipeE_get e with z | ⟨z1, z2⟩
      · cases z
      · rw [wipe_off z2]; exact noD j es z1
    let P : Nat → Hp → Prop := fun i H => ∃ F2 st2 acc done rest, Le F1 F2 ∧ Ext dk F1 H1 F2 H ∧ Good K dk H0 F0 F2 (wipe σ vs) H (wipeE env vs) st2 ∧ H Dn = some (.lst acc) ∧ F2.out Dn ∧ acc.length ≤ i ∧ Rps K dk F2 acc done ∧
      compL t c f (wipeE env vs) (ds.drop i) st2 = some (rest, st') ∧ done ++ rest = out
    have px0 : Px F1 H1 F1 (upd H1 Dn (.lst [])) := Px.lay g1.wd.sub hD
    refine ⟨fun i m H => m = ds.length - i ∧ i ≤ ds.length ∧ P i H, ⟨_, rfl, Nat.zero_le _, F1, s1, [], [], out, Le.refl F1, px0.ext, (g1.wiped).px px0, upd_same, g1.wd.out hD, Nat.zero_le _, .nil, e, rfl⟩, ?_⟩
    rintro i m H2 ⟨rfl, hle, F2, s2, acc, done, rest, le2, x2, g2, hacc, f2, hal, racc, e2, eo⟩
    by_cases hlt : i < ds.length
    · have hdi : ds[i]? = some ds[i] := List.getElem?_eq_getElem hlt
      obtain ⟨hgo, hy⟩ := (sd F2 H2 s2 le2 g2.wd i).1 _ hdi
      refine .inr ⟨hgo, P (i + 1), fun H' hp => ⟨_, by omega, rfl, hlt, hp⟩, fun x H3 hx => ?_⟩
      obtain ⟨F3, px, rx⟩ := hy x H3 hx
      have g3 := g2.px px
      rw [List.drop_eq_getElem_cons hlt] at e2
      obtain ⟨env3, e3, e2⟩ := bnd e2
      obtain ⟨⟨b, s4⟩, e4, e2⟩ := bnd e2
      refine hg dk H0 F0 F3 (wipe σ vs) H3 (wipeE env vs) s2 x _ env3 g3 rx e3 _ fun σ4 g4 tg => ?_
      have same : ∀ j : Nat, j ∉ vs → σ4[j]? = (wipe σ vs)[j]? ∧ env3[j]? = (wipeE env vs)[j]? := fun j hj => tg.same j fun z => hj (hv j z)
      have weq : wipe σ4 vs = wipe σ vs := by
        rw [wipe_eq tg.len fun j hj => (same j hj).1, wipe_wipe]
      have nD3 : H2 Dn ≠ none := by rw [hacc]; exact fun z => nomatch z
      have back : ∀ {F5 : Fz} {H5 : Hp} {st5 : S}, Good K dk H0 F0 F5 σ4 H5 env3 st5 → Good K dk H0 F0 F5 (wipe σ vs) H5 (wipeE env vs) st5 := fun {F5 H5 st5} g5 =>
        g5.reslot (by rw [wipe_length, wipeE_length]; exact gd.len) fun j s es => by
          rcases wipeE_get es with z | ⟨z1, z2⟩
          · exact .inl z
          · exact .inr ⟨(same j z2).2.trans es, (same j z2).1.symm⟩
      refine ⟨weq, ?_⟩
      refine ht dk H0 F0 F3 σ4 H3 env3 s2 b s4 g4 e4 _ fun F5 H5 x5 g5 => ?_
      have x25 : Ext dk F2 H2 F5 H5 := px.ext.trans x5
      have a5 : H5 Dn = some (.lst acc) := x25.h _ _ hacc nd.1 nd.2 (.inl f2.2)
      have f5 : F5.out Dn := x25.out f2 nD3
      cases b with
      | false =>
        exact ⟨F5, s4, acc, done, rest, le2.trans x25.f, x2.trans x25, back g5, a5, f5, by omega, racc.mono x25.f, e2, eo⟩
      | true =>
        replace e2 : ((f env3 s4).bind fun q => (compL t c f (wipeE env vs) (ds.drop (i + 1)) q.2).map fun r => (q.1 :: r.1, r.2)) = some (rest, st') := e2
        obtain ⟨⟨y, s6⟩, e6, e2⟩ := bnd e2
        obtain ⟨⟨rest', s7⟩, e7, e2⟩ := mpd e2
        cases e2
        refine he dk H0 F0 F5 σ4 H5 env3 s4 y s6 g5 e6 _ fun v F6 H6 x6 g6 r6 => ?_
        have x26 := x25.trans x6
        have a6 : H6 Dn = some (.lst acc) := x26.h _ _ hacc nd.1 nd.2 (.inl f2.2)
        have f6 : F6.out Dn := x26.out f2 nD3
        refine ⟨acc, a6, by omega, F6, s6, acc ++ [v], done ++ [y], rest', le2.trans x26.f, ?_, (back g6).mutT a6 f6 h0D nd.1 nd.2 noW, upd_same, f6, by simp; omega, (racc.mono x26.f).append (Rps.one r6), e7, by rw [← eo]; simp⟩
        exact (x2.trans x26).upd hD
    · have ei : i = ds.length := by omega
      subst ei
      rw [List.drop_length] at e2
      cases e2
      refine .inl ⟨(sd F2 H2 _ le2 g2.wd ds.length).2 (Nat.le_refl _), ?_⟩
      rw [List.append_nil] at eo
      subst eo
      have g9 : Good K dk H0 F0 F2 σ H2 env st' := by
        have gx := g1.step x2 g2.wd
        exact gx
      exact q Dn acc F2 H2 (x1.trans x2) g9 hDH f2 hacc racc
  · cases e
end
end MD

set_option Elab.async false
set_option linter.all false
set_option maxRecDepth 100000
set_option maxHeartbeats 2000000
namespace MD
open PySem L2
variable {ww : WW}

section
variable {K : Fg} {dk : Dk} {F F' F0 : Fz} {H H' H0 : Hp} {σ : L2.St} {env : Sg} {st : S}
/-! ### what a for or a comprehension walks -/
def rngD (lo : Int) (n : Nat) : List D := (List.range n).map fun k => .int (lo + (k : Nat))
theorem rngD_get {lo : Int} {n i : Nat} {d : D} (h : (rngD lo n)[i]? = some d) : i < n ∧ d = .int (lo + (i : Nat)) := by
  unfold rngD at h
  rw [List.getElem?_map] at h
  obtain ⟨k, h1, h2⟩ := mpd h
  have hi : i < n := by
    by_cases hl : i < n
    · exact hl
    · rw [List.getElem?_eq_none (by rw [List.length_range]; omega)] at h1; cases h1
  rw [List.getElem?_range hi] at h1
  cases h1
  exact ⟨hi, h2.symm⟩
theorem stdy_rng (lo : Int) (n : Nat) : Stdy K dk F (Itr lo n) (rngD lo n) := fun F1 H1 st le w i => by
  refine ⟨fun d hd => ?_, fun hl => ?_⟩
  · obtain ⟨h1, rfl⟩ := rngD_get hd
    refine ⟨h1, fun x H2 hy => ?_⟩
    obtain ⟨e1, e2⟩ := hy
    subst e1 e2
    exact ⟨F1, Px.refl w.sub, .int _⟩
  · show n ≤ i
    unfold rngD at hl
    simpa using hl
def r1M (a : MA) : MI := fun env st => (a env st).bind fun p => match p.1 with
  | [.int j] => if -(2 ^ 62) ≤ j ∧ j < 2 ^ 62 then some (rngD 0 j.toNat, p.2) else none
  | _ => none
theorem ii_range1 {ta : TA} {a : MA} (h : ImAW K ta a) : ImI K (iRng1 ta) (r1M a) := fun dk H0 F0 F σ H env st ds st' g e R q => by
  obtain ⟨⟨xs, s1⟩, h1, e⟩ := bnd e
  refine h dk H0 F0 F σ H env st xs s1 g h1 _ fun vs F1 H1 x1 g1 r1 => ?_
  dsimp only at e
  split at e
  · split at e
    · rename_i j hj
      cases e
      obtain ⟨v, rfl, r⟩ := r1.ws.one
      cases r.int
      exact ⟨j, rfl, hj.1, hj.2, q _ F1 H1 x1 g1 (stdy_rng 0 j.toNat)⟩
    · cases e
  · cases e
def r2M (a : MA) : MI := fun env st => (a env st).bind fun p => match p.1 with
  | [.int i, .int j] => if -(2 ^ 62) ≤ i ∧ i < 2 ^ 62 ∧ -(2 ^ 62) ≤ j ∧ j < 2 ^ 62 then some (rngD i (j - i).toNat, p.2) else none
  | _ => none
theorem ii_range2 {ta : TA} {a : MA} (h : ImAW K ta a) : ImI K (iRng2 ta) (r2M a) := fun dk H0 F0 F σ H env st ds st' g e R q => by
  obtain ⟨⟨xs, s1⟩, h1, e⟩ := bnd e
  refine h dk H0 F0 F σ H env st xs s1 g h1 _ fun vs F1 H1 x1 g1 r1 => ?_
  dsimp only at e
  split at e
  · split at e
    · rename_i i j hj
      cases e
      obtain ⟨v, u, rfl, r, r'⟩ := r1.ws.two
      cases r.int
      cases r'.int
      exact ⟨i, j, rfl, hj, q _ F1 H1 x1 g1 (stdy_rng i (j - i).toNat)⟩
    · cases e
  · cases e

/-! a list, a tuple or a text -/
theorem stdy_list {a : Addr} {vs : List V} {ds : List D} (h : F a = some (.lst vs)) (r : Rps K dk F vs ds) : Stdy K dk F (Itl K a) ds := fun F1 H1 st le w i => by
  have hq : SqL K H1 a vs := SqL.of (w.sub.lst (le.h _ _ h))
  refine ⟨fun d hd => ?_, fun hl => ⟨vs, hq, by rw [r.length]; exact hl⟩⟩
  obtain ⟨v, h1, h2⟩ := r.get hd
  refine ⟨⟨vs, v, hq, h1⟩, fun x H2 hy => ?_⟩
  obtain ⟨e1, e2⟩ := hy
  subst e1
  have ev := e2 vs hq
  rw [h1] at ev
  cases ev
  exact ⟨F1, Px.refl w.sub, h2.mono le⟩
theorem stdy_tup {a : Addr} {vs : List V} {ds : List D} (h : SqT K F a vs) (r : Rps K dk F vs ds) : Stdy K dk F (Itt K a) ds := fun F1 H1 st le w i => by
  have hq : SqT K H1 a vs := w.sub.sqT (le.sqT h)
  refine ⟨fun d hd => ?_, fun hl => ⟨vs, hq, by rw [r.length]; exact hl⟩⟩
  obtain ⟨v, h1, h2⟩ := r.get hd
  refine ⟨⟨vs, v, hq, h1⟩, fun x H2 hy => ?_⟩
  obtain ⟨e1, e2⟩ := hy
  subst e1
  have ev := e2 vs hq
  rw [h1] at ev
  cases ev
  exact ⟨F1, Px.refl w.sub, h2.mono le⟩
theorem signs_get {x : Str} {i : Nat} {d : D} (h : ((signs x).map D.str)[i]? = some d) : ∃ c, x.cps[i]? = some c ∧ d = .str ⟨#[c]⟩ := by
  unfold signs at h
  rw [List.map_map, List.getElem?_map] at h
  obtain ⟨c, h1, h2⟩ := mpd h
  exact ⟨c, by simpa using h1, h2.symm⟩
theorem signs_len (x : Str) : ((signs x).map D.str).length = x.cps.size := by
  unfold signs
  simp
theorem stdy_str (x : Str) : Stdy K dk F (Its x) ((signs x).map D.str) := fun F1 H1 st le w i => by
  refine ⟨fun d hd => ?_, fun hl => by rw [signs_len] at hl; exact hl⟩
  obtain ⟨c, h1, rfl⟩ := signs_get hd
  refine ⟨?_, fun y H2 hy => ?_⟩
  · show i < x.cps.size
    by_cases hl : i < x.cps.size
    · exact hl
    · rw [Array.getElem?_eq_none (by omega)] at h1; cases h1
  · obtain ⟨e1, c', h2, e2⟩ := hy
    subst e1 e2
    rw [h1] at h2
    cases h2
    exact ⟨F1, Px.refl w.sub, .str _⟩
def iSeq (K : Fg) (te : TE) : TI := fun σ H R => te σ H fun x H1 =>
  (∃ a, x = .ref a ∧ (∃ xs, SqL K H1 a xs) ∧ R (Itl K a) H1) ∨ (∃ a, x = .ref a ∧ (∃ xs, SqT K H1 a xs) ∧ R (Itt K a) H1) ∨ ∃ y, x = .str y ∧ R (Its y) H1
theorem pi_seq {X : Cx} {tg e : Expr} {te : TE} (he : PE X e te) : PI X tg e (iSeq X.K te) := by
  constructor
  intro pins s σ H R I h
  refine thn (he.run pins s σ H _ I h) fun v s1 h1 => ?_
  obtain ⟨x, H1, I1, r1, q1⟩ := h1
  rcases q1 with ⟨a, rfl, ⟨xs, hq⟩, q⟩ | ⟨a, rfl, ⟨xs, hq⟩, q⟩ | ⟨y, rfl, q⟩
  · cases r1
    obtain ⟨its, _, pl, _⟩ := I1.list hq
    exact wpAny_pyIter_list pl.isList (pi_one (tk := s1.toks) I1 _ (turn_list a _) ⟨_, Heap.get?_push_size _ rfl, rfl, rfl⟩ q)
  · cases r1
    obtain ⟨its, _, pl, _⟩ := I1.tuple hq
    exact wpAny_pyIter_tuple (show s1.heap.IsTuple a its.toArray from pl) (pi_one (tk := s1.toks) I1 _ (turn_tuple a _) ⟨_, Heap.get?_push_size _ rfl, rfl, rfl⟩ q)
  · obtain ⟨t, rfl⟩ := r1
    cases ha : y.cps.all (· < 128)
    · exact wpAny_pyIter_wide ha (pi_one (tk := s1.toks) I1 _ (turn_str _ y t "str_iterator" (.inr rfl)) ⟨_, Heap.get?_push_size _ rfl, rfl, rfl⟩ q)
    · exact wpAny_pyIter_ascii ha (pi_one (tk := s1.toks) I1 _ (turn_str _ y t "str_ascii_iterator" (.inl rfl)) ⟨_, Heap.get?_push_size _ rfl, rfl, rfl⟩ q)
def seqOf : D → Option (List D)
  | .lst ds => some ds
  | .tup ds => some ds
  | .str x => some ((signs x).map D.str)
  | _ => none
def seqI (f : ME) : MI := fun env st => (f env st).bind fun p => (seqOf p.1).map fun ds => (ds, p.2)
theorem ii_seq {te : TE} {f : ME} (h : Im K te f) : ImI K (iSeq K te) (seqI f) := fun dk H0 F0 F σ H env st ds st' g e R q => by
  obtain ⟨⟨d, s1⟩, h1, e⟩ := bnd e
  obtain ⟨es, h2, e⟩ := mpd e
  cases e
  refine h dk H0 F0 F σ H env st d s1 g h1 _ fun v F1 H1 x1 g1 r1 => ?_
  replace h2 : seqOf d = some ds := h2
  cases d with
  | lst xs =>
    cases h2
    cases r1 with
    | lst a1 a2 => exact .inl ⟨_, rfl, ⟨_, SqL.of (g1.wd.sub.lst a1)⟩, q _ F1 H1 x1 g1 (stdy_list a1 a2)⟩
  | tup xs =>
    cases h2
    cases r1 with
    | tup a1 a2 => exact .inr (.inl ⟨_, rfl, ⟨_, g1.wd.sub.sqT a1⟩, q _ F1 H1 x1 g1 (stdy_tup a1 a2)⟩)
  | str x =>
    cases h2
    cases r1
    exact .inr (.inr ⟨_, rfl, q _ F1 H1 x1 g1 (stdy_str x)⟩)
  | _ => cases h2

/-! ### enumerate -/
def enumD (ds : List D) : List D := ds.zipIdx.map fun p => .tup [.int ((p.2 : Nat) : Int), p.1]
theorem enumD_get {ds : List D} {i : Nat} {d : D} (h : (enumD ds)[i]? = some d) : ∃ x, ds[i]? = some x ∧ d = .tup [.int ((i : Nat) : Int), x] := by
  unfold enumD at h
  rw [List.getElem?_map, List.getElem?_zipIdx] at h
  obtain ⟨p, h1, h2⟩ := mpd h
  obtain ⟨x, h3, h4⟩ := mpd h1
  subst h4
  exact ⟨x, h3, by rw [← h2]; simp⟩
theorem enumD_len (ds : List D) : (enumD ds).length = ds.length := by unfold enumD; simp
/-- items that stand fast, each in a new pair with its number -/
def ItE (C : Hp → Prop) (xs : List V) : It := ⟨fun i H => i < xs.length ∧ C H, fun i H v H' => ∃ T x, v = .ref T ∧ H T = none ∧ H' = upd H T (.tup [.int ((i : Nat) : Int), x]) ∧ xs[i]? = some x, fun i H => xs.length ≤ i ∧ C H⟩
theorem pair_new {T : Addr} {i : Int} {x : V} {d : D} {F1 : Fz} {H1 : Hp} {st : S} (w : Wd K dk F1 H1 st) (hT : H1 T = none) (r : Rp K dk F1 x d) :
    ∃ F2, Px F1 H1 F2 (upd H1 T (.tup [.int i, x])) ∧ Rp K dk F2 (.ref T) (.tup [.int i, d]) := by
  have px : Px F1 H1 (Fz.up F1 T (.tup [.int i, x])) (upd H1 T (.tup [.int i, x])) := Px.new w.sub hT
  exact ⟨_, px, .tup (SqT.of Fz.up_same) (.cons (.int i) (.cons (r.mono px.f) .nil))⟩
theorem stdy_enumE {C : Hp → Prop} {vs : List V} {ds : List D} (hC : ∀ H1, Sb F H1 → C H1) (r : Rps K dk F vs ds) : Stdy K dk F (ItE C vs) (enumD ds) := fun F1 H1 st le w i => by
  have hc : C H1 := hC H1 (le.sb w.sub)
  refine ⟨fun d hd => ?_, fun hl => ⟨by rw [enumD_len, ← r.length] at hl; exact hl, hc⟩⟩
  obtain ⟨x, h1, rfl⟩ := enumD_get hd
  obtain ⟨v, h2, h3⟩ := r.get h1
  refine ⟨⟨?_, hc⟩, fun y H2 hy => ?_⟩
  · show i < vs.length
    by_cases hl : i < vs.length
    · exact hl
    · rw [List.getElem?_eq_none (by omega)] at h2; cases h2
  · obtain ⟨T, v', rfl, hT, rfl, e⟩ := hy
    rw [h2] at e
    cases e
    exact pair_new w hT (h3.mono le)
theorem stdy_enumL {a : Addr} {vs : List V} {ds : List D} (h : F a = some (.lst vs)) (r : Rps K dk F vs ds) : Stdy K dk F (Ite K a) (enumD ds) := fun F1 H1 st le w i => by
  have hq : SqL K H1 a vs := SqL.of (w.sub.lst (le.h _ _ h))
  refine ⟨fun d hd => ?_, fun hl => ⟨vs, hq, by rw [enumD_len, ← r.length] at hl; exact hl⟩⟩
  obtain ⟨x, h1, rfl⟩ := enumD_get hd
  obtain ⟨v, h2, h3⟩ := r.get h1
  refine ⟨⟨vs, v, hq, h2⟩, fun y H2 hy => ?_⟩
  obtain ⟨T, v', rfl, hT, rfl, e⟩ := hy
  have e' := e vs hq
  rw [h2] at e'
  cases e'
  exact pair_new w hT (h3.mono le)
/-- a turn of enumerate over what draws from it -/
theorem turnE {P : Program} {w : World} {K : Fg} {elts : List Expr} {kk : Nat} {tpos : Pos} (C : Hp → Prop) (xs : List V) (e it : Addr) (St1 : Nat → Heap → Prop)
    (fr : ∀ i h h', St1 i h → (∀ o, h.get? it = some o → h'.get? it = some o) → St1 i h')
    (ob : ∀ i h, St1 i h → ∃ o, h.get? it = some o ∧ ∀ v, o.data ≠ .cell v)
    (dr : ∀ (X : Cx), X.prog = P → X.w = w → X.K = K → X.calm = true → ∀ (i : Nat) (pins : List (Addr × Obj)) (s : Shared) (σ : L2.St) (H : Hp), Inv X pins σ H s → C H → H it = none → St1 i s.heap →
      ∃ (fp : List Addr) (St2 : Nat → Heap → Prop) (Pv : Nat → Value → Prop), Draws P w X.A.in1 it fp xs.length Pv St2 ∧ St2 i s.heap ∧ (∀ j h, St2 j h → St1 j h) ∧ (∀ b ∈ fp, b = it ∨ (∃ o, H b = some o) ∨ ∃ o, X.base.get? b = some o) ∧ ∀ j u, Pv j u → ∃ x, xs[j]? = some x ∧ RelV x u) :
    Turn P w K (.Tuple elts kk tpos) (ItE C xs) [e, it] e (fun i h => (∃ old, IsEnum h e it ((i : Nat) : Int) old) ∧ St1 i h ∧ e ≠ it ∧ i ≤ xs.length) where
  mem := List.mem_cons_self
  obj := fun i h tn b hb => by
    obtain ⟨⟨old, he⟩, hs, _⟩ := tn
    rcases List.mem_cons.mp hb with z | z
    · rw [z]; exact ⟨_, he, fun v q => nomatch q⟩
    · rw [List.mem_singleton.mp z]; exact ob i h hs
  keep := fun i h h' tn k => by
    obtain ⟨⟨old, he⟩, hs, hne, hl⟩ := tn
    exact ⟨⟨old, k e List.mem_cons_self _ he⟩, fr i h h' hs fun o q => k it (by simp) o q, hne, hl⟩
  item := by
    intro X hP hw hK hc i pins s σ H Er I hf tn hgo
    obtain ⟨hg, hC⟩ : i < xs.length ∧ C H := hgo
    obtain ⟨⟨old, he⟩, hs, hne, _⟩ := tn
    obtain ⟨fp, St2, Pv, Dw, h2, h21, hfp, hpv⟩ := dr X hP hw hK hc i pins s σ H I hC (hf it (by simp)).1 hs
    subst hP hw hK
    have hel : e < s.heap.objs.size := Heap.lt_size he
    have hil : it < s.heap.objs.size := by obtain ⟨o, q, _⟩ := ob i _ hs; exact Heap.lt_size q
    have hef : e ∉ fp := fun z => by
      rcases hfp e z with q | ⟨o, q⟩ | ⟨o, q⟩
      · exact hne q
      · rw [(hf e (by simp)).1] at q; cases q
      · have hx := (I.bs e o q).1
        obtain ⟨f0, f1, f2, f3, _⟩ := hf e (by simp)
        rcases f3 with f3 | f3
        · exact I.ok.noex e o q f3
        · exact absurd (Nat.lt_of_lt_of_le (Heap.lt_size (I.ok.bs e o q).1) f3) (Nat.lt_irrefl _)
    refine wpAny_pyNext_enum_itemD Dw he h2 hg hne hef fun u h' tk hu ho hst hT hsz hk => ?_
    obtain ⟨x, hx, ru⟩ := hpv i u hu
    refine ⟨_, rfl, wpAny_letOwnedTupleGo_enum (s := { s with heap := h', toks := tk + 1 }) ho fun h'' he' sb => ?_⟩
    have hT2 : h''.get? s.heap.objs.size = some { cls := .type "tuple", data := .seq #[.int i tk, u] } := (sb.2 _ (Nat.ne_of_gt hel)).trans hT
    have new : ObjOk X.prog X.w (upd H s.heap.objs.size (.tup [.int ((i : Nat) : Int), x])) h'' s.heap.objs.size (.tup [.int ((i : Nat) : Int), x]) := by
      refine ⟨?_, [.int i tk, u], .cons ⟨_, rfl⟩ (.cons ru .nil), ⟨_, hT2, rfl, _, rfl⟩⟩
      show 2 ≤ sizeLine
      decide
    have I1 : Inv X pins σ (upd H s.heap.objs.size (.tup [.int ((i : Nat) : Int), x])) { s with heap := h'', toks := tk + 1 } := by
      refine I.turnedNew (ch := [e, it]) (fun b o hb q => ?_) hf (Nat.le_refl _) new
      have n1 : b ≠ e := fun z => hb (by simp [z])
      have n2 : b ≠ it := fun z => hb (by simp [z])
      exact (sb.2 b n1).trans (hk b o n1 n2 q)
    refine ⟨.ref s.heap.objs.size, _, I1, rfl, ⟨_, x, rfl, I.hok.fresh (Nat.le_refl _), rfl, hx⟩, ⟨⟨u, ?_⟩, ?_, hne, hg⟩, fun b hb => ?_⟩
    · have e1 : ((i + 1 : Nat) : Int) = (i : Int) + 1 := by omega
      rw [e1]; exact he'
    · exact fr (i + 1) h' h'' (h21 _ _ hst) fun o q => (sb.2 it (Ne.symm hne)).trans q
    · have hb' : b < s.heap.objs.size := by
        rcases List.mem_cons.mp hb with z | z
        · rw [z]; exact hel
        · rw [List.mem_singleton.mp z]; exact hil
      rw [upd_ne (Nat.ne_of_lt hb')]
      exact (hf b hb).1
  done := by
    intro X hP hw hK hc i pins s σ H Er I hf tn hgo
    obtain ⟨hg, hC⟩ : xs.length ≤ i ∧ C H := hgo
    obtain ⟨⟨old, he⟩, hs, hne, hl⟩ := tn
    have ei : i = xs.length := Nat.le_antisymm hl hg
    subst ei
    obtain ⟨fp, St2, Pv, Dw, h2, h21, hfp, hpv⟩ := dr X hP hw hK hc xs.length pins s σ H I hC (hf it (by simp)).1 hs
    subst hP hw hK
    obtain ⟨f0, f1, f2, f3, f4, f5⟩ := hf it (by simp)
    exact wpAny_pyNext_enum_endD Dw he h2 fun h' eb => ⟨rfl, I.turned (t' := s.toks) (fun b o hb q => eb b o hb q) f0 f1 f3 f4 f5⟩
  self := fun A i s Q E tn h => by
    obtain ⟨⟨_, he⟩, _⟩ := tn
    exact wpAny_pyIter_enum he h
end
end MD

set_option Elab.async false
set_option linter.all false
set_option maxRecDepth 100000
set_option maxHeartbeats 2000000
namespace MD
open PySem L2
variable {ww : WW}

theorem newT (t : Addr) (items : Array Value) : Meets (Builtin.«enumerate.__new__» ⟨[.type "enumerate", .ref t], []⟩) (fun _ R s => s.heap.IsTuple t items ∧ R (.ok (.ret (.ref (s.heap.push { cls := .type "tuple_iterator", data := .fields #[.ref t, .int 0 0] }).objs.size)))
        { s with heap := (s.heap.push { cls := .type "tuple_iterator", data := .fields #[.ref t, .int 0 0] }).push { cls := .type "enumerate", data := .fields #[.none, .bool false, .ref s.heap.objs.size, rawInt 0, .none, .none] } }) :=
  .of_wp fun prog w A R s h => by
    obtain ⟨hp, g, d, tk, os⟩ := s
    obtain ⟨hL, h⟩ := h
    obtain ⟨⟨c0, dct, dt, sl⟩, hl, hc, n, hd⟩ := id hL
    have hsub := sub_enumerate
    wp_walk using AutoSeq1.wpAny_loadPart' hl
    refine wpAny_stack_any fun st => wpAny_pure ?_
    split
    · rename_i c _ _ _ _ _
      cases (c == Value.type "enumerate")
      · wp_walk using AutoSeq1.wpAny_loadPart' hl, wpAny_pyIter_tuple hL
        exact ⟨_, rfl, h⟩
      · wp_walk using AutoSeq1.wpAny_loadPart' hl, wpAny_pyIter_tuple hL
        exact ⟨_, rfl, h⟩
    · wp_walk using AutoSeq1.wpAny_loadPart' hl, wpAny_pyIter_tuple hL
      exact ⟨_, rfl, h⟩
theorem call_enumT {prog : Program} {w : World} {A : Around} {E : Value → Shared → Prop} {s : Shared} {t : Addr} {items : Array Value} {Q : Value → Shared → Prop} (hL : s.heap.IsTuple t items)
    (h : ∀ h', IsEnum h' (s.heap.objs.size + 1) s.heap.objs.size 0 .none → h'.IsTupleIter s.heap.objs.size t 0 → (∀ b o, s.heap.get? b = some o → h'.get? b = some o) → Q (.ref (s.heap.objs.size + 1)) { s with heap := h' }) :
    wpAny (model prog w) A (call (.type "enumerate") [.ref t]) Q E s := by
  refine callType_new F.called_enumerate (by decide) (F.typeCall_enumerate_1 _) (F.newCall_enumerate_1 _) (fun obj => F.args_object_init_2 obj _) F.entry_enumerate_new (newT t items) ⟨hL, ?_⟩
  have hz : (s.heap.push { cls := .type "tuple_iterator", data := .fields #[.ref t, .int 0 0] }).objs.size = s.heap.objs.size + 1 := Heap.size_push ..
  show _ ∧ _
  rw [hz]
  have he : IsEnum ((s.heap.push { cls := .type "tuple_iterator", data := .fields #[.ref t, .int 0 0] }).push { cls := .type "enumerate", data := .fields #[.none, .bool false, .ref s.heap.objs.size, rawInt 0, .none, .none] }) (s.heap.objs.size + 1) s.heap.objs.size 0 .none := by
    have q := Heap.get?_push_size (s.heap.push { cls := .type "tuple_iterator", data := .fields #[.ref t, .int 0 0] }) (o := { cls := .type "enumerate", data := .fields #[.none, .bool false, .ref s.heap.objs.size, rawInt 0, .none, .none] }) rfl
    rw [hz] at q
    exact q
  exact ⟨⟨_, he, rfl⟩, h _ he ⟨_, Heap.get?_push_of_some _ (Heap.get?_push_size _ rfl), rfl, rfl⟩ fun b o x => Heap.get?_push_of_some _ (Heap.get?_push_of_some _ x)⟩

section
variable {K : Fg} {dk : Dk} {F F' F0 : Fz} {H H' H0 : Hp} {σ : L2.St} {env : Sg} {st : S}
theorem turn_enumS {P : Program} {w : World} {elts : List Expr} {kk : Nat} {tpos : Pos} (e it : Addr) (x : Str) (t : Tok) :
    Turn P w K (.Tuple elts kk tpos) (ItE (fun _ => True) ((signs x).map V.str)) [e, it] e (fun i h => (∃ old, IsEnum h e it ((i : Nat) : Int) old) ∧ h.IsStrIter it (strIterType x) x t i ∧ e ≠ it ∧ i ≤ ((signs x).map V.str).length) := by
  refine turnE _ _ e it (fun i h => h.IsStrIter it (strIterType x) x t i) (fun i h h' st k => ?_) (fun i h st => ?_) fun X hP hw hK hc i pins s σ H I _ _ hs => ?_
  · obtain ⟨o, ho, r⟩ := st
    exact ⟨o, k o ho, r⟩
  · obtain ⟨o, ho, c, d⟩ := st
    exact ⟨o, ho, fun v z => by rw [d] at z; cases z⟩
  · have hd : X.A.in1.handled = none := I.ok.hd hc
    have hl : ((signs x).map V.str).length = x.cps.size := by unfold signs; simp
    subst hP hw
    refine ⟨[it], _, _, hl ▸ Draws.text (prog := X.prog) (w := X.w) hd it x t, hs, fun _ _ z => z, fun b hb => .inl (List.mem_singleton.mp hb), fun j u hu => ?_⟩
    obtain ⟨c, u', h1, rfl⟩ := hu
    refine ⟨.str ⟨#[c]⟩, ?_, ⟨_, rfl⟩⟩
    unfold signs
    rw [List.map_map, List.getElem?_map]
    have : x.cps.toList[j]? = some c := by simpa using h1
    rw [this]
    rfl
theorem turn_enumT {P : Program} {w : World} {elts : List Expr} {kk : Nat} {tpos : Pos} (a e it : Addr) (xs : List V) :
    Turn P w K (.Tuple elts kk tpos) (ItE (fun H => SqT K H a xs) xs) [e, it] e (fun i h => (∃ old, IsEnum h e it ((i : Nat) : Int) old) ∧ h.IsTupleIter it a i ∧ e ≠ it ∧ i ≤ xs.length) := by
  refine turnE _ _ e it (fun i h => h.IsTupleIter it a i) (fun i h h' st k => ?_) (fun i h st => ?_) fun X hP hw hK hc i pins s σ H I hq hn hs => ?_
  · obtain ⟨o, ho, r⟩ := st
    exact ⟨o, k o ho, r⟩
  · obtain ⟨o, ho, c, d⟩ := st
    exact ⟨o, ho, fun v z => by rw [d] at z; cases z⟩
  · have hd : X.A.in1.handled = none := I.ok.hd hc
    subst hP hw hK
    obtain ⟨its, rv, pt, hz⟩ := I.tuple hq
    have hl : xs.length = its.toArray.size := by rw [List.size_toArray]; exact rv.length
    have hb : (∃ o, H a = some o) ∨ ∃ o, X.base.get? a = some o := by
      rcases hq with (h | ⟨o, h⟩) | ⟨o, _, _, h, _⟩
      · exact .inl ⟨_, h⟩
      · exact .inl ⟨_, h⟩
      · exact .inr ⟨_, I.mod.kin a o h⟩
    have hai : a ≠ it := fun z => by
      obtain ⟨o, ho, c, d⟩ := hs
      obtain ⟨o2, ho2, c2, _⟩ := id pt
      rw [z, ho] at ho2
      cases ho2
      rw [c] at c2
      exact absurd c2 (by decide)
    refine ⟨[it, a], _, _, hl ▸ Draws.tuple (prog := X.prog) (w := X.w) hd it a hai its.toArray, ⟨hs, pt⟩, fun _ _ z => z.1, fun b hbm => ?_, fun j u hu => ?_⟩
    · rcases List.mem_cons.mp hbm with z | z
      · exact .inl z
      · rw [List.mem_singleton.mp z]; exact .inr hb
    · have hu' : its[j]? = some u := by simpa using hu
      have hjl : j < xs.length := by
        rw [rv.length]
        by_cases hl : j < its.length
        · exact hl
        · rw [List.getElem?_eq_none (by omega)] at hu'; cases hu'
      obtain ⟨u2, h1, h2⟩ := rv.get (List.getElem?_eq_getElem hjl)
      rw [hu'] at h1
      cases h1
      exact ⟨_, List.getElem?_eq_getElem hjl, h2⟩
def iEnumA (K : Fg) (ta : TA) : TI := fun σ H R => ta σ H fun vs H1 => (∃ a xs, vs = [.ref a] ∧ SqL K H1 a xs ∧ R (Ite K a) H1) ∨ (∃ a xs, vs = [.ref a] ∧ SqT K H1 a xs ∧ R (ItE (fun H => SqT K H a xs) xs) H1) ∨
  ∃ y, vs = [.str y] ∧ R (ItE (fun _ => True) ((signs y).map V.str)) H1
theorem pi_enumA {X : Cx} {e : Expr} {ta : TA} {p pos tpos : Pos} {elts : List Expr} {kk : Nat} (hg : Gl X "enumerate") (hm : X.mg "enumerate" = none) (ha : PA X [e] ta) (hs : starEach [e] X.env = [(false, eval e X.env)] := by rfl) :
    PI X (.Tuple elts kk tpos) (.Call (.Name "enumerate" p) [e] [] pos) (iEnumA X.K ta) := by
  constructor
  intro pins s σ H R I h
  refine PyProof.Rows.Call_ (ld_blt I hg hm PyProof.Rows.boot_enumerate (PyProof.Rows.callWith_type1 (thn (ha.run pos pins s σ H _ I h) fun us s1 q0 => ?_) hs rfl))
  obtain ⟨vs, H1, I1, r1, q1⟩ := q0
  have fpo : ∀ b ∈ [s1.heap.objs.size + 1, s1.heap.objs.size], FpOk X pins H1 b := fun b hb => by
    have hle : s1.heap.objs.size ≤ b := by
      rcases List.mem_cons.mp hb with z | z
      · rw [z]; exact Nat.le_add_right _ _
      · rw [List.mem_singleton.mp z]; exact Nat.le_refl _
    exact I1.fpOk hle (I1.hok.fresh hle)
  rcases q1 with ⟨a, xs, rfl, hq, q⟩ | ⟨a, xs, rfl, hq, q⟩ | ⟨y, rfl, q⟩
  · obtain ⟨u, rfl, ru⟩ := vals1 r1
    cases ru
    obtain ⟨its, rv, pl, hz⟩ := I1.list hq
    refine call_enumerate_list pl.isList fun h' he hit hsz hk => wpAny_pyIter_enum he ?_
    exact ⟨_, _, _, _, H1, rfl, I1.kept (t' := s1.toks) hk, turn_enum a (s1.heap.objs.size + 1) s1.heap.objs.size, ⟨⟨.none, he⟩, hit, Nat.succ_ne_self _⟩, fpo, q⟩
  · obtain ⟨u, rfl, ru⟩ := vals1 r1
    cases ru
    obtain ⟨its, rv, pl, hz⟩ := I1.tuple hq
    refine call_enumT (show s1.heap.IsTuple a its.toArray from pl) fun h' he hit hk => wpAny_pyIter_enum he ?_
    exact ⟨_, _, _, _, H1, rfl, I1.kept (t' := s1.toks) hk, turn_enumT a (s1.heap.objs.size + 1) s1.heap.objs.size xs, ⟨⟨.none, he⟩, hit, Nat.succ_ne_self _, Nat.zero_le _⟩, fpo, q⟩
  · obtain ⟨u, rfl, ru⟩ := vals1 r1
    obtain ⟨t, rfl⟩ := ru
    refine call_enumerate_str fun h' he hit hsz hk => wpAny_pyIter_enum he ?_
    exact ⟨_, _, _, _, H1, rfl, I1.kept (t' := s1.toks) hk, turn_enumS (s1.heap.objs.size + 1) s1.heap.objs.size y t, ⟨⟨.none, he⟩, hit, Nat.succ_ne_self _, Nat.zero_le _⟩, fpo, q⟩
def enumI (f : ME) : MI := fun env st => (f env st).bind fun p => (seqOf p.1).map fun ds => (enumD ds, p.2)
theorem Rps.mapStr : ∀ (xs : List Str), Rps K dk F (xs.map V.str) (xs.map D.str) := Rps.ofStrs
theorem ii_enum {te : TE} {f : ME} (h : Im K te f) : ImI K (iEnumA K (tCons te tNil)) (enumI f) := fun dk H0 F0 F σ H env st ds st' g e R q => by
  obtain ⟨⟨d, s1⟩, h1, e⟩ := bnd e
  obtain ⟨es, h2, e⟩ := mpd e
  cases e
  refine h dk H0 F0 F σ H env st d s1 g h1 _ fun v F1 H1 x1 g1 r1 => ?_
  replace h2 : seqOf d = some es := h2
  cases d with
  | lst xs =>
    cases h2
    cases r1 with
    | lst a1 a2 => exact .inl ⟨_, _, rfl, SqL.of (g1.wd.sub.lst a1), q _ F1 H1 x1 g1 (stdy_enumL a1 a2)⟩
  | tup xs =>
    cases h2
    cases r1 with
    | tup a1 a2 => exact .inr (.inl ⟨_, _, rfl, g1.wd.sub.sqT a1, q _ F1 H1 x1 g1 (stdy_enumE (fun H2 le => le.sqT a1) a2)⟩)
  | str x =>
    cases h2
    cases r1
    exact .inr (.inr ⟨_, rfl, q _ F1 H1 x1 g1 (stdy_enumE (fun _ _ => trivial) (Rps.ofStrs _))⟩)
  | _ => cases h2
end
end MD

set_option Elab.async false
set_option linter.all false
set_option maxRecDepth 100000
set_option maxHeartbeats 2000000
namespace MD
open PySem PySem.Spec PyProof.Rows L2
variable {ww : WW}

/-- a def keeps its promise wherever no repr is running -/
structure FnG (P : Program) (w : World) (K : Fg) (mg : Str → Option Value) (base : Heap) (k : Nat) (f : Addr) (fd : FuncData) (ps : List Str) (sp : Sp) : Prop where
  len : ∀ vs H Q E, sp vs H Q E → vs.length = ps.length
  run : ∀ (A : Around) (outer : List Env) (s : Shared) (H : Hp) (args : Args) (us : List Value) (vs : List V) (Q : VK) (E : XK), Room k A → A.guards = some [] → Env0 P w K mg base A outer s H → BindsTo s fd args (ps.zip us) → Vals vs us →
    sp vs H Q E → codeAny (model P w) A (.call (.ref f) args) (CR CX0 outer P w H s Q E) s

section
variable {X : Cx} {k : Nat} {f : Addr} {fd : FuncData} {ps : List Str} {sp : Sp} {x : Str} {p pos : Pos} {e : Expr} {es : List Expr} {t : TA}
theorem runG {pins : List (Addr × Obj)} {σ : L2.St} {H : Hp} {s : Shared} {Q : VK} {us : List Value} {vs : List V} (F : FnG X.prog X.w X.K X.mg X.base k f fd ps sp) (hr : Room k X.A) (gd : X.A.guards = some []) (hb : Binds X.K fd ps [])
    (I : L2.Inv X pins σ H s) (r : Vals vs us) (h : sp vs H Q E0) : wpAny (model X.prog X.w) X.A (call (.ref f) us) (EP X pins σ Q) X.xe s := by
  have hl : us.length = ps.length := r.length.symm.trans (F.len _ _ _ _ h)
  have bb := hb s us I.kIn (by rw [List.append_nil]; exact hl)
  rw [List.append_nil] at bb
  refine wpAny_call (codeAny_mono (F.run X.A X.stack s H ⟨us, []⟩ us vs Q E0 hr gd I.env0 bb r h) fun rr s' hq => ?_)
  cases rr with
  | error er => exact False.elim hq
  | ok fl =>
    cases fl with
    | ret u => exact I.after hq
    | next => exact False.elim hq
    | brk => exact False.elim hq
    | cont => exact False.elim hq
theorem pe_callG (F : FnG X.prog X.w X.K X.mg X.base k f fd ps sp) (hr : Room k X.A) (gd : X.A.guards = some []) (hg : Gl X x) (hm : X.mg x = some (.ref f)) (hk : PySem.W.keepIn X.K (.ref f) = true) (hb : Binds X.K fd ps [])
    (ha : PA X (e :: es) t) (hdb : (x == ("__debug__" : Str)) = false := by decide) (he : starEach (e :: es) X.env = (false, eval e X.env) :: starEach es X.env := by rfl) (hpl : (backTo pos (starEach es X.env)).any (·.1) = false := by rfl) :
    PE X (.Call (.Name x p) (e :: es) [] pos) (tCall sp [] E0 t) := by
  constructor
  intro pins s σ H Q I h
  refine wpAny_Call_Name_kw (ld_glob I hg hm ?_ hdb)
  refine PySem.W.callWith_K (h₀ := X.base) I.ok.mod.kin hk (thn (ha.run pos pins s σ H _ I h) fun us s1 q0 => ?_) he hpl
  obtain ⟨vs, H1, I1, r, q⟩ := q0
  rw [List.append_nil] at q
  exact ⟨I1.kIn, runG F hr gd hb I1 r q⟩
end

theorem guards_deeper {A : Around} (env : Env) (h : A.guards = some []) : (A.deeper env).guards = some [] := by
  first | exact h | (simp [Around.deeper, h]) 

/-- a def of the text by its body -/
theorem fnG_of {P : Program} {w : World} {K : Fg} {mg : Str → Option Value} {base : Heap} {x qual : Str} {st : Stmt} {f : Addr} {fd : FuncData} {N ps : List Str} {k : Nat} {sp : Sp} (Fn : Fun K x qual st f fd) (S : FnScope N ps (defScope st))
    (len : ∀ vs H Q E, sp vs H Q E → vs.length = ps.length)
    (hbody : ∀ (cdv : Value) (A : Around) (outer : List Env) (s : Shared) (H : Hp) (vs : List V) (Q : VK) (E : XK), Room k (A.deeper (envOfC qual (defScope st) s.heap.objs.size f cdv)) → (A.deeper (envOfC qual (defScope st) s.heap.objs.size f cdv)).guards = some [] → sp vs H Q E →
      ∃ t, PSs (cxOf CX0 P w K mg base N qual (defScope st) f cdv A outer s H E).nox (defBody st) t ∧ t { nx := fun _ H' => Q .non H', rt := Q } (L2.start N vs) H) : FnG P w K mg base (k + 1) f fd ps sp := by
  refine ⟨len, fun A outer s H args us vs Q E hr gd e0 hb r hsp => ?_⟩
  -- the promise, asked only where no repr is running
  let sp' : Sp := fun vs' H' Q' E' => sp vs' H' Q' E'
  obtain ⟨oc, od, kV, doc, pm, an, cdv, ct, osl, rfl, lk, hcd⟩ := Fn.ex
  have hl := len _ _ _ _ hsp
  have KX : K.In s.heap := e0.mod.kin.keeps fun b o e => (e0.bs b o e).1
  have lim : s.heap.NoLimit := e0.mod.nolimit.keeps fun b o e => (e0.bs b o e).1
  have hkind : ∀ y ∈ ps.zip us, (defScope st).names.lookup y.1 = some .local ∨ ((defScope st).names.lookup y.1 = some .cell ∧ ((cellsFrom (s.heap.objs.size + 1) (defScope st).names []).lookup y.1).isSome = true) := by
    rintro ⟨n, v⟩ hy
    rcases S.par n (List.of_mem_zip hy).1 with q | q
    · exact .inl q
    · exact .inr ⟨q, PySem.W.cellsFrom_some _ _ _ (.inl q)⟩
  refine codeAny_call_function hr.depth (KX _ _ lk) rfl S.co S.gen rfl (PySem.W.codeRec_of KX hcd) (hb _ _ _ _ ?_)
  refine wpAny_newFunctionEnv_cells S.kind hkind fun env he s1 y => ?_
  subst he
  refine ⟨lim.keeps y.toInCall.keep, codeAny_func ?_⟩
  obtain ⟨t, ht, hq⟩ := hbody cdv A outer s H vs Q E (hr.deeper _) (guards_deeper _ gd) hsp
  have I := inv_start (CX := CX0) (E := E) (qual := qual) (f := f) (cd := cdv) S hr.hd e0 hl r y
  refine wpAny_mono ((ht.nox).run [] s1 (L2.start N vs) H _ I hq) (fun fl s' hs => ?_) fun er s' hs => hs
  cases fl with
  | ret u =>
    obtain ⟨v, σ', H', J, rv, q⟩ := hs
    exact ⟨v, H', J.os, J.bare, J.base, J.hok, rv, q⟩
  | next =>
    obtain ⟨σ', H', J, q⟩ := hs
    exact ⟨V.non, H', J.os, J.bare, J.base, J.hok, rfl, q⟩
  | brk =>
    obtain ⟨_, _, _, q⟩ := hs
    exact False.elim q
  | cont =>
    obtain ⟨_, _, _, q⟩ := hs
    exact False.elim q

/-! ### promises by mirrors -/
abbrev MF := List D → S → Option (D × S)
/-- called with these data it gives what the mirror gives; n parameters -/
def spD [WW] (K : Fg) (n : Nat) (m : MF) : Sp := fun vs H Q _ => vs.length = n ∧ ∃ (dk : Dk) (F : Fz) (ds : List D) (st : S) (d : D) (st' : S), Wd K dk F H st ∧ Rps K dk F vs ds ∧ m ds st = some (d, st') ∧
  ∀ v F' H', Ext dk F H F' H' → Wd K dk F' H' st' → Rp K dk F' v d → Q v H'
def callM (m : MF) (a : MA) : ME := fun env st => (a env st).bind fun p => m p.1 p.2
section
variable {K : Fg}
theorem im_call {n : Nat} {m : MF} {ta : TA} {a : MA} {E : XK} (ha : ImA K ta a) (hn : ∀ env st p, a env st = some p → p.1.length = n) : Im K (tCall (spD K n m) [] E ta) (callM m a) := fun dk H0 F0 F σ H env st d st' g e Q q => by
  obtain ⟨⟨ds, s1⟩, h1, e⟩ := bnd e
  refine ha dk H0 F0 F σ H env st ds s1 g h1 _ fun vs F1 H1 x1 g1 r1 => ?_
  rw [List.append_nil]
  exact ⟨r1.length.trans (hn _ _ _ h1), dk, F1, ds, s1, d, st', g1.wd, r1, e, fun v F' H' x w r => q v F' H' (x1.trans x) (g1.step x w) r⟩
theorem an_nil : ∀ env st p, aNil env st = some p → p.1.length = 0 := fun env st p h => by cases h; rfl
theorem an_cons {f : ME} {r : MA} {n : Nat} (h : ∀ env st p, r env st = some p → p.1.length = n) : ∀ env st p, aCons f r env st = some p → p.1.length = n + 1 := fun env st p e => by
  obtain ⟨x, h1, e⟩ := bnd e
  obtain ⟨y, h2, e⟩ := mpd e
  cases e
  simp [h _ _ _ h2]
/-- a def's mirror, by its body's -/
def runM (N : Nat) (b : MS) : MF := fun ds st => (b (ds.map Sl.val ++ List.replicate (N - ds.length) Sl.un) st).bind fun p => match p.1 with
  | .rt d => some (d, p.2)
  | .nx _ => some (.non, p.2)
  | _ => none
theorem Rps.slots {dk : Dk} {F : Fz} : ∀ {vs : List V} {ds : List D} {i : Nat} {s : Sl}, Rps K dk F vs ds → (ds.map Sl.val)[i]? = some s → ∃ v d, vs[i]? = some v ∧ s = .val d ∧ Rp K dk F v d := fun {vs ds i s} r e => by
  rw [List.getElem?_map] at e
  obtain ⟨d, h1, h2⟩ := mpd e
  obtain ⟨v, h3, h4⟩ := r.get h1
  exact ⟨v, d, h3, h2.symm, h4⟩
theorem good_start {dk : Dk} {F : Fz} {H : Hp} {N : List Str} {vs : List V} {ds : List D} {st : S} (w : Wd K dk F H st) (r : Rps K dk F vs ds) (hl : vs.length ≤ N.length) : Good K dk H F F (L2.start N vs) H (ds.map Sl.val ++ List.replicate (N.length - ds.length) Sl.un) st := by
  have hlen := r.length
  refine ⟨w, Ext.refl F H, ?_, fun i s e => ?_, fun i j es fs p hne e1 e2 e3 => ?_⟩
  · unfold L2.start
    simp
    omega
  · by_cases hi : i < ds.length
    · rw [List.getElem?_append_left (by simpa using hi)] at e
      obtain ⟨v, d, h1, rfl, h2⟩ := r.slots e
      refine ⟨v, ?_, h2⟩
      unfold L2.start
      rw [List.getElem?_append_left (by rw [List.length_map, hlen]; exact hi), List.getElem?_map, h1]
      rfl
    · rw [List.getElem?_append_right (by simpa using hi), List.getElem?_replicate] at e
      split at e
      · cases e; trivial
      · cases e
  · exfalso
    by_cases hi : i < ds.length
    · rw [List.getElem?_append_left (by simpa using hi)] at e1
      obtain ⟨v, d, _, h, _⟩ := r.slots e1
      cases h
    · rw [List.getElem?_append_right (by simpa using hi), List.getElem?_replicate] at e1
      split at e1 <;> cases e1
/-- THE RULE: a def by its body's term t and the mirror b of t -/
theorem fnD {P : Program} {w : World} {mg : Str → Option Value} {base : Heap} {x qual : Str} {st : Stmt} {f : Addr} {fd : FuncData} {N ps : List Str} {k : Nat} {b : MS} (Fn : Fun K x qual st f fd) (S : FnScope N ps (defScope st)) (hN : ps.length ≤ N.length)
    (hbody : ∀ (cdv : Value) (A : Around) (outer : List Env) (s : Shared) (H : Hp) (E : XK), Room k (A.deeper (envOfC qual (defScope st) s.heap.objs.size f cdv)) → (A.deeper (envOfC qual (defScope st) s.heap.objs.size f cdv)).guards = some [] →
      ∃ t, PSs (cxOf CX0 P w K mg base N qual (defScope st) f cdv A outer s H E).nox (defBody st) t ∧ ImS K t b) : FnG P w K mg base (k + 1) f fd ps (spD K ps.length (runM N.length b)) := by
  refine fnG_of Fn S (fun vs H Q E h => h.1) fun cdv A outer s H vs Q E hr gd h => ?_
  obtain ⟨hlv, dk, F, ds, s0, d, s1, wd, r, e, q⟩ := h
  obtain ⟨t, h1, h2⟩ := hbody cdv A outer s H E hr gd
  refine ⟨t, h1, ?_⟩
  obtain ⟨⟨fl, s2⟩, e1, e⟩ := bnd e
  refine h2 dk H F F (L2.start N vs) H _ s0 fl s2 (good_start wd r (by rw [hlv]; exact hN)) e1 _ ?_
  cases fl with
  | rt d' => cases e; exact fun v F' H' x w r => q v F' H' x w r
  | nx en => cases e; exact fun F' σ' H' le g => q .non F' H' g.ext g.wd .non
  | bk en => cases e
  | ct en => cases e
end
end MD

set_option Elab.async false
set_option linter.all false
set_option maxRecDepth 100000
set_option maxHeartbeats 2000000
namespace MD
open PySem PySem.Spec PyProof.Rows L2
variable {ww : WW}

/-! ### the deck -/
structure DC where
  m1 : Int
  c1 : Int
  c2 : Int
  m2 : Int
def atOf (st : S) : Nat := ((st.n + 1) % (st.cells.length : Int)).toNat
def cellOf (st : S) : Int := if st.cells = [] then 0 else st.cells.getD (atOf st) 0
def drawV (c : DC) (many : Int) (st : S) : Int :=
  if cellOf st ≥ 10 ^ 18 then cellOf st % many else ((cellOf st % c.m1 + c.c1 * (st.n + 1) + c.c2) ^ 5 % c.m2) % many
def drawT (many : Int) (st : S) : S :=
  if cellOf st ≥ 10 ^ 18 then ⟨st.cells.set (atOf st) (cellOf st / many), st.n + 1, st.ob⟩ else ⟨st.cells, st.n + 1, st.ob⟩
def nMax : Int := 1000000000000
def drawM (c : DC) : MF
  | [.deck, .int many], st => if 0 < many ∧ many < 1073741824 ∧ 0 ≤ st.n ∧ st.n < nMax then some (.int (drawV c many st), drawT many st) else none
  | _, _ => none
def DC.ok (c : DC) : Prop := 0 < c.m1 ∧ c.m1 < 2 ^ 32 ∧ 0 < c.m2 ∧ c.m2 < 2 ^ 32 ∧ 0 ≤ c.c1 ∧ c.c1 < 2 ^ 16 ∧ 0 ≤ c.c2 ∧ c.c2 < 2 ^ 16

/-! readings used by the draw -/
section
variable {K : Fg}
def rInt1 : List V → Hp → VK → Prop := fun xs H Q => (∃ i, xs = [.int i] ∧ Q (.int i) H) ∨ ∃ k, xs = [.bl k] ∧ Q (.int (if k then 1 else 0)) H
def rLen1 (K : Fg) : List V → Hp → VK → Prop := fun xs H Q => ∃ x n, xs = [x] ∧ LenV K x H n ∧ Q (.int n) H
abbrev tInt (t : TE) : TE := tCB rInt1 (tCons t tNil)
abbrev tLen (K : Fg) (t : TE) : TE := tCB (rLen1 K) (tCons t tNil)
abbrev tIx (K : Fg) (a b : TE) : TE := tOp (rIx K) a b
abbrev tI (i : Int) : TE := tC (.int i)
abbrev tDk1 (K : Fg) : TE := tIx K (tVar 0) (tI 1)
abbrev tDk0 (K : Fg) : TE := tIx K (tVar 0) (tI 0)
def tDraw1 (K : Fg) : TS := tAsg (tOp (rI0 fun i j => .int (i + j)) (tDk1 K) (tI 1)) (gSub (tVar 0) (tI 1) rSetL)
def tDraw2 (K : Fg) : TS := tAsg (tTup (tCons (tI 0) (tCons (tUn (rU fun i => .int (-i)) (tI 1)) tNil))) (gTup K 2 (gCons (gName 2) (gCons (gName 3) gNil)))
def tDraw3 (K : Fg) : TS := tIfS (tTest (tOp (rI0 fun i j => .bl (decide (j < i))) (tLen K (tDk0 K)) (tI 0)))
  (tSeq (tAsg (tOp (rI (fun _ j => 0 < j) fun i j => .int (i % j)) (tInt (tDk1 K)) (tLen K (tDk0 K))) (gName 3)) (tAsg (tIx K (tDk0 K) (tVar 3)) (gName 2))) tNext
def tDraw4 (K : Fg) : TS := tIfS (tTest (tOp (rI0 fun i j => .bl (decide (j ≤ i))) (tVar 2) (tOp (rI CPow fun i j => .int (i ^ j.toNat)) (tI 10) (tI 18))))
  (tSeq (tAsg (tOp (rI CDiv fun i j => .int (i / j)) (tInt (tVar 2)) (tVar 1)) (gSub (tDk0 K) (tVar 3) rSetL)) (tRet (tOp (rI (fun _ j => 0 < j) fun i j => .int (i % j)) (tInt (tVar 2)) (tVar 1)))) tNext
def tDraw5 (K : Fg) (c : DC) : TS := tAsg (tOp (rI0 fun i j => .int (i + j)) (tOp (rI0 fun i j => .int (i + j)) (tOp (rI (fun _ j => 0 < j) fun i j => .int (i % j)) (tInt (tVar 2)) (tI c.m1))
  (tOp (rI CMul fun i j => .int (i * j)) (tI c.c1) (tDk1 K))) (tI c.c2)) (gName 4)
def tDraw6 (K : Fg) (c : DC) : TS := tRet (tOp (rI (fun _ j => 0 < j) fun i j => .int (i % j)) (tInt (tOp (rI (fun _ j => 0 < j) fun i j => .int (i % j)) (tInt (tOp (rI CPow fun i j => .int (i ^ j.toNat)) (tVar 4) (tI 5))) (tI c.m2))) (tVar 1))
def tDraw (K : Fg) (c : DC) : TS := tSeq (tDraw1 K) (tSeq (tDraw2 K) (tSeq (tDraw3 K) (tSeq (tDraw4 K) (tSeq (tDraw5 K c) (tDraw6 K c)))))

theorem at0 {α : Type} {x y : α} : L2.atI [x, y] 0 = some x := rfl
theorem at1 {α : Type} {x y : α} : L2.atI [x, y] 1 = some y := rfl
/-- deck[1], deck[0] -/
theorem rd1 {H : Hp} {a c : Addr} {n : Int} {σ : L2.St} {Q : VK} (hs : σ[0]? = some (some (.ref a))) (h : H a = some (.lst [.ref c, .int n])) (q : Q (.int n) H) : tDk1 K σ H Q :=
  ⟨_, hs, .inl ⟨a, _, 1, _, rfl, rfl, SqL.of h, at1, q⟩⟩
theorem rd0 {H : Hp} {a c : Addr} {n : Int} {σ : L2.St} {Q : VK} (hs : σ[0]? = some (some (.ref a))) (h : H a = some (.lst [.ref c, .int n])) (q : Q (.ref c) H) : tDk0 K σ H Q :=
  ⟨_, hs, .inl ⟨a, _, 0, _, rfl, rfl, SqL.of h, at0, q⟩⟩

theorem draw_ok {dk : Dk} {F : Fz} {H : Hp} {st : S} {c : DC} {many : Int} (hc : c.ok) (w : Wd K dk F H st) (h1 : 0 < many) (h2 : many < 1073741824) (h3 : 0 ≤ st.n) (h4 : st.n < nMax) {E : Ends}
    (q : ∀ F' H', Ext dk F H F' H' → Wd K dk F' H' (drawT many st) → E.rt (.int (drawV c many st)) H') : tDraw K c E [some (.ref dk.1), some (.int many), none, none, none] H := by
  obtain ⟨k1, k2, k3, k4, k5, k6, k7, k8⟩ := hc
  -- deck[1] = deck[1] + 1
  refine rd1 rfl w.d1 ⟨st.n, 1, rfl, rfl, _, rfl, dk.1, _, 1, 1, rfl, rfl, w.d1, rfl, ?_⟩
  have hH1 : upd H dk.1 (.lst ([V.ref dk.2, V.int st.n].set 1 (V.int (st.n + 1)))) = upd H dk.1 (.lst [.ref dk.2, .int (st.n + 1)]) := rfl
  rw [hH1]
  have a1 : ∀ (H' : Hp), H' = upd H dk.1 (.lst [.ref dk.2, .int (st.n + 1)]) → H' dk.1 = some (.lst [.ref dk.2, .int (st.n + 1)]) ∧ H' dk.2 = some (.lst (st.cells.map V.int)) := by
    rintro H' rfl
    exact ⟨upd_same, by rw [upd_ne w.ne.symm]; exact w.d2⟩
  generalize hHH : upd H dk.1 (.lst [.ref dk.2, .int (st.n + 1)]) = H1
  obtain ⟨b1, b2⟩ := a1 H1 hHH.symm
  -- cell, at = 0, -1
  refine ⟨1, rfl, by show 2 ≤ sizeLine; decide, fun p hp => ⟨p, _, rfl, SqT.of upd_same, rfl, _, _, rfl, _, _, rfl, rfl, ?_⟩⟩
  have p1 : p ≠ dk.1 := (ne_of_none b1 hp).symm
  have p2 : p ≠ dk.2 := (ne_of_none b2 hp).symm
  generalize hHp : upd H1 p (.tup [.int 0, .int (-1)]) = H2
  have c1 : H2 dk.1 = some (.lst [.ref dk.2, .int (st.n + 1)]) := by rw [← hHp, upd_ne p1.symm]; exact b1
  have c2 : H2 dk.2 = some (.lst (st.cells.map V.int)) := by rw [← hHp, upd_ne p2.symm]; exact b2
  have hp0 : H p = none := by
    rw [← hHH, upd_ne p1] at hp; exact hp
  have keep : ∀ a o, H a = some o → a ≠ dk.1 → a ≠ dk.2 → H2 a = some o := fun a o e n1 n2 => by
    rw [← hHp, upd_ne (ne_of_none e hp0), ← hHH, upd_ne n1]; exact e
  have keepF : Sb F H2 := fun a o e => by
    have m1 : a ≠ dk.1 := fun z => by rw [z, w.f1.1] at e; cases e
    have m2 : a ≠ dk.2 := fun z => by rw [z, w.f2.1] at e; cases e
    rcases w.sub a o e with q | ⟨od, kvs, q1, q2⟩
    · exact .inl (keep a o q m1 m2)
    · exact .inr ⟨od, kvs, q1, keep a _ q2 m1 m2⟩
  have keepO : ∀ (H3 : Hp), (∀ a o, H2 a = some o → a ≠ dk.2 → H3 a = some o) → ∀ (n : Nat) (a : Addr) (o : Ob), F.mu[n]? = some a → st.ob[n]? = some o → F a = none ∧ ObAt K dk F H3 a o := fun H3 hk n a o e1 e2 => by
    obtain ⟨q1, q2⟩ := w.ob n a o e1 e2
    have m1 : a ≠ dk.1 := fun z => w.f1.2 (z ▸ List.mem_of_getElem? e1)
    have m2 : a ≠ dk.2 := fun z => w.f2.2 (z ▸ List.mem_of_getElem? e1)
    exact ⟨q1, q2.keep (fun o e => hk a o (keep a o e m1 m2) m2) (Le.refl F)⟩
  have keepK : ∀ a o, H2 a = some o → Fro o → H a = some o := fun a o e f => by
    rw [← hHp, ← hHH] at e
    exact updK (by rintro ⟨_, _, z⟩; cases z) a o (updK (by rintro ⟨_, _, z⟩; cases z) a o e f) f
  have keepM : ∀ a, H a ≠ none → H2 a ≠ none := fun a e z => by
    by_cases n1 : a = dk.1
    · rw [n1, c1] at z; cases z
    · by_cases n2 : a = dk.2
      · rw [n2, c2] at z; cases z
      · cases q : H a with
        | none => exact e q
        | some o => rw [keep a o q n1 n2] at z; cases z
  have ext2 : Ext dk F H F H2 := ⟨fun a o e n1 n2 _ => keep a o e n1 n2, Le.refl F, fun _ h _ => h, keepM, fun _ h => .inl h, keepK⟩
  have wd2 : Wd K dk F H2 ⟨st.cells, st.n + 1, st.ob⟩ := ⟨keepF, c1, c2, w.f1, w.f2, w.ne, w.ml, w.nd, keepO H2 fun _ _ e _ => e⟩
  -- the cell
  have mid : ∀ (E' : Ends), (∀ v3, (st.cells ≠ [] → v3 = ((atOf st : Nat) : Int) ∧ atOf st < st.cells.length) → E'.nx [some (.ref dk.1), some (.int many), some (.int (cellOf st)), some (.int v3), none] H2) →
      tDraw3 K E' [some (.ref dk.1), some (.int many), some (.int 0), some (.int (-1)), none] H2 := by
    intro E' hE
    refine rd0 rfl c1 ⟨_, _, rfl, .inl ⟨_, SqL.of c2, rfl⟩, _, 0, rfl, rfl, _, rfl, ?_⟩
    by_cases hl : st.cells = []
    · dsimp only
      rw [if_neg (by simp [hl])]
      have e0 : cellOf st = 0 := by unfold cellOf; rw [if_pos hl]
      have := hE (-1) fun z => absurd hl z
      rw [e0] at this
      exact this
    · have hlen : 0 < st.cells.length := List.length_pos_iff.mpr hl
      dsimp only
      rw [if_pos (by simp; exact hlen)]
      refine rd1 rfl c1 (.inl ⟨_, rfl, rd0 rfl c1 ⟨_, _, rfl, .inl ⟨_, SqL.of c2, rfl⟩, _, _, rfl, rfl, by simp; exact hlen, ?_⟩⟩)
      have hm0 : 0 ≤ (st.n + 1) % (st.cells.length : Int) := Int.emod_nonneg _ (by omega)
      have hm1 : (st.n + 1) % (st.cells.length : Int) < st.cells.length := Int.emod_lt_of_pos _ (by omega)
      have hat : ((atOf st : Nat) : Int) = (st.n + 1) % (st.cells.length : Int) := by unfold atOf; omega
      have hal : atOf st < st.cells.length := by omega
      show tAsg (tIx K (tDk0 K) (tVar 3)) (gName 2) E' [some (.ref dk.1), some (.int many), some (.int 0), some (.int ((st.n + 1) % ((st.cells.map V.int).length : Int))), none] H2
      rw [List.length_map, ← hat]
      have hg : L2.atI (st.cells.map V.int) ((atOf st : Nat) : Int) = some (.int (st.cells.getD (atOf st) 0)) := by
        refine atI_nat ?_
        rw [List.getElem?_map, List.getElem?_eq_getElem hal, List.getD_eq_getElem?_getD, List.getElem?_eq_getElem hal]
        rfl
      refine rd0 rfl c1 ⟨_, rfl, .inl ⟨_, _, _, _, rfl, rfl, SqL.of c2, hg, ?_⟩⟩
      have e0 : cellOf st = st.cells.getD (atOf st) 0 := by unfold cellOf; rw [if_neg hl]
      have := hE ((atOf st : Nat) : Int) fun _ => ⟨rfl, hal⟩
      rw [e0] at this
      exact this
  refine mid _ fun v3 hv3 => ?_
  -- a great cell
  refine ⟨_, rfl, 10, 18, rfl, rfl, ⟨by decide, by decide, by decide⟩, _, _, rfl, rfl, _, rfl, ?_⟩
  by_cases hbig : cellOf st ≥ 10 ^ 18
  · have hne : st.cells ≠ [] := fun z => by
      have e0 : cellOf st = 0 := by unfold cellOf; rw [if_pos z]
      rw [e0] at hbig
      revert hbig; decide
    obtain ⟨e3, hal⟩ := hv3 hne
    dsimp only
    rw [if_pos (by simpa using hbig)]
    refine ⟨_, rfl, .inl ⟨_, rfl, _, rfl, _, _, rfl, rfl, ⟨h1, h2⟩, ?_⟩⟩
    refine rd0 rfl c1 ⟨_, rfl, dk.2, _, v3, atOf st, rfl, rfl, c2, ?_, ?_⟩
    · rw [e3]
      unfold ixN
      rw [if_pos (by omega), if_pos (by rw [List.length_map]; omega)]
      simp
    · refine ⟨_, rfl, .inl ⟨_, rfl, _, rfl, _, _, rfl, rfl, h1, ?_⟩⟩
      have ev : drawV c many st = cellOf st % many := by unfold drawV; rw [if_pos hbig]
      have et : drawT many st = ⟨st.cells.set (atOf st) (cellOf st / many), st.n + 1, st.ob⟩ := by unfold drawT; rw [if_pos hbig]
      have es : (st.cells.map V.int).set (atOf st) (.int (cellOf st / many)) = (st.cells.set (atOf st) (cellOf st / many)).map V.int := by rw [List.map_set]
      rw [es]
      have fin := q F (upd H2 dk.2 (.lst ((st.cells.set (atOf st) (cellOf st / many)).map V.int))) ⟨fun a o e n1 n2 _ => by rw [upd_ne n2]; exact keep a o e n1 n2, Le.refl F, fun _ h _ => h, fun a e z => by
        by_cases n2 : a = dk.2
        · rw [n2, upd_same] at z; cases z
        · rw [upd_ne n2] at z; exact keepM a e z, fun _ h => .inl h, fun a o e f => keepK a o (updK (by rintro ⟨_, _, z⟩; cases z) a o e f) f⟩ (by
          rw [et]
          exact ⟨fun a o e => by rw [upd_ne (fun z => by rw [z, w.f2.1] at e; cases e)]; exact keepF a o e, by rw [upd_ne w.ne]; exact c1, upd_same, w.f1, w.f2, w.ne, w.ml, w.nd, keepO _ fun a o e m => by rw [upd_ne m]; exact e⟩)
      rw [ev] at fin
      exact fin
  · dsimp only
    rw [if_neg (by simpa using hbig)]
    have hmix : 0 ≤ cellOf st % c.m1 ∧ cellOf st % c.m1 < c.m1 := ⟨Int.emod_nonneg _ (by omega), Int.emod_lt_of_pos _ k1⟩
    refine ⟨_, rfl, .inl ⟨_, rfl, _, _, rfl, rfl, k1, ?_⟩⟩
    refine rd1 rfl c1 ⟨_, _, rfl, rfl, .inl ⟨by omega, by omega⟩, _, _, rfl, rfl, _, _, rfl, rfl, ?_⟩
    have hb : c.c1 * (st.n + 1) ≤ 65536 * 1000000000001 := by
      unfold nMax at h4
      have x1 : c.c1 * (st.n + 1) ≤ 65536 * (st.n + 1) := Int.mul_le_mul_of_nonneg_right (by omega) (by omega)
      omega
    have hb0 : 0 ≤ c.c1 * (st.n + 1) := Int.mul_nonneg k5 (by omega)
    refine ⟨_, rfl, _, _, rfl, rfl, ⟨by decide, by decide, ?_⟩, .inl ⟨_, rfl, _, _, rfl, rfl, k3, .inl ⟨_, rfl, _, rfl, _, _, rfl, rfl, h1, ?_⟩⟩⟩
    · omega
    · have ev : drawV c many st = ((cellOf st % c.m1 + c.c1 * (st.n + 1) + c.c2) ^ 5 % c.m2) % many := by unfold drawV; rw [if_neg hbig]
      have et : drawT many st = ⟨st.cells, st.n + 1, st.ob⟩ := by unfold drawT; rw [if_neg hbig]
      have fin := q F H2 ext2 (by rw [et]; exact wd2)
      rw [ev] at fin
      exact fin
end
end MD

set_option Elab.async false
set_option linter.all false
set_option maxRecDepth 100000
set_option maxHeartbeats 2000000
namespace MD
open PySem PySem.Spec PyProof.Rows L2
variable {ww : WW}

section
variable {K : Fg} {P : Program} {w : World} {mg : Str → Option Value} {base : Heap}
theorem fn_draw {x qual : Str} {st : Stmt} {f : Addr} {fd : FuncData} {N ps : List Str} {k : Nat} {c : DC} (hc : c.ok) (Fn : Fun K x qual st f fd) (S : FnScope N ps (defScope st)) (hN : N.length = 5) (hp : ps.length = 2)
    (hbody : ∀ (cdv : Value) (A : Around) (outer : List Env) (s : Shared) (H : Hp) (E : XK), PSs (cxOf CX0 P w K mg base N qual (defScope st) f cdv A outer s H E).nox (defBody st) (tDraw K c)) : FnG P w K mg base (k + 1) f fd ps (spD K 2 (drawM c)) := by
  refine fnG_of Fn S (fun vs H Q E h => by rw [hp]; exact h.1) fun cdv A outer s H vs Q E hr gd h => ⟨_, hbody cdv A outer s H E, ?_⟩
  obtain ⟨hlv, dk, F, ds, s0, d, s1, wd, r, e, q⟩ := h
  unfold drawM at e
  split at e
  · split at e
    · rename_i hcnd
      cases e
      cases r with
      | cons a b => cases b with
        | cons b c' =>
          cases c'
          cases a
          cases b
          have es : ∀ i : Int, L2.start N [V.ref dk.1, V.int i] = [some (.ref dk.1), some (.int i), none, none, none] := fun i => by
            unfold L2.start
            rw [hN]
            rfl
          rw [es _]
          exact draw_ok hc wd hcnd.1 hcnd.2.1 hcnd.2.2.1 hcnd.2.2.2 fun F' H' x w => q _ F' H' x w (.int _)
    · cases e
  · cases e

/-! ### the deck is made -/
def absI (i : Int) : Int := if i < 0 then -i else i
def spDeck [WW] (K : Fg) : Sp := fun vs H Q _ => ∃ (a : Addr) (ns : List Int), vs = [.ref a] ∧ SqL K H a (ns.map V.int) ∧ ns.length ≤ 63 ∧
  ∀ (dk : Dk) (H' : Hp), Lh H H' → Wd K dk ⟨fun _ => none, []⟩ H' ⟨ns.map absI, 0, []⟩ → Q (.ref dk.1) H'
def rAbs1 : List V → Hp → VK → Prop := fun xs H Q => ∃ i, xs = [.int i] ∧ Q (.int (if i < 0 then -i else i)) H
def tDeck (K : Fg) : TS := tRet (tLst (tCons (tLc (iList K (tSl (rSlL K) (tVar 0) tNoPart (tPart (tI 63)))) (gName 1) tYes (tCB rAbs1 (tCons (tVar 1) tNil)) [1]) (tCons (tI 0) tNil)))
theorem deck_ok {H : Hp} {a : Addr} {ns : List Int} {E : Ends} (hs : SqL K H a (ns.map V.int)) (hl : ns.length ≤ 63) (q : ∀ (dk : Dk) (H' : Hp), Lh H H' → Wd K dk ⟨fun _ => none, []⟩ H' ⟨ns.map absI, 0, []⟩ → E.rt (.ref dk.1) H') :
    tDeck K E [some (.ref a), none] H := by
  refine ⟨_, rfl, _, rfl, a, _, rfl, hs, fun p hp => ?_⟩
  have ec : cutV (ns.map V.int) none (some 63) = ns.map V.int := by
    unfold cutV
    have e1 : HT.sIx (ns.map V.int).length 0 none = 0 := rfl
    have e2 : HT.sIx (ns.map V.int).length (ns.map V.int).length (some 63) = ns.length := by
      rw [List.length_map]
      have := HT.sIx_nat ns.length ns.length 63
      rw [show ((63 : Nat) : Int) = 63 from rfl] at this
      rw [this]; omega
    rw [e1, e2, List.drop_zero, Nat.sub_zero]
    exact List.take_of_length_le (by rw [List.length_map]; exact Nat.le_refl _)
  rw [ec]
  refine ⟨p, rfl, ⟨_, SqL.of upd_same⟩, fun c hc => ?_⟩
  have ncp : c ≠ p := fun z => by rw [z, upd_same] at hc; cases hc
  have hcH : H c = none := by rw [upd_ne ncp] at hc; exact hc
  refine lc_list (xs := ns.map V.int) (fun i H' => Lh H H' ∧ H' p = some (.lst (ns.map V.int)) ∧ H' c = some (.lst (((ns.take i).map absI).map V.int))) ⟨(Lh.new hp).trans (Lh.new hc), by rw [upd_ne ncp.symm, upd_same], upd_same⟩ (fun i H' _ h => SqL.of h.2.1) (fun i v H' hv h => ?_) fun H' h => ?_
  · obtain ⟨h1, h2, h3⟩ := h
    rw [List.getElem?_map] at hv
    obtain ⟨n, hn, rfl⟩ := mpd hv
    have hil : i < ns.length := by
      by_cases hi : i < ns.length
      · exact hi
      · rw [List.getElem?_eq_none (by omega)] at hn; cases hn
    refine ⟨rfl, ?_⟩
    show tCB rAbs1 (tCons (tVar 1) tNil) _ H' _
    refine ⟨_, rfl, n, rfl, _, h3, ?_, fun b o e => ?_, ?_, ?_⟩
    · rw [List.length_map, List.length_map, List.length_take]
      exact Nat.lt_of_le_of_lt (Nat.min_le_right _ _) (small1000 (by omega))
    · rw [upd_ne (ne_of_none e hcH)]; exact h1 b o e
    · rw [upd_ne ncp.symm]; exact h2
    · rw [upd_same, List.take_add_one, hn]
      simp [absI]
  · obtain ⟨h1, h2, h3⟩ := h
    rw [List.length_map, List.take_length] at h3
    refine ⟨by show 2 ≤ sizeLine; decide, fun d hd => ?_⟩
    have ndc : d ≠ c := fun z => by rw [z, h3] at hd; cases hd
    have fin := q (d, c) (upd H' d (.lst [.ref c, .int 0])) (h1.trans (Lh.new hd)) ⟨fun _ _ z => (nomatch z), upd_same, (upd_ne (a := d) ndc.symm).trans h3, ⟨rfl, fun z => nomatch z⟩, ⟨rfl, fun z => nomatch z⟩, ndc, rfl, List.nodup_nil, fun n a o z => by simp at z⟩
    exact fin
theorem fn_deck {x qual : Str} {st : Stmt} {f : Addr} {fd : FuncData} {N ps : List Str} {k : Nat} (Fn : Fun K x qual st f fd) (S : FnScope N ps (defScope st)) (hN : N.length = 2) (hp : ps.length = 1)
    (hbody : ∀ (cdv : Value) (A : Around) (outer : List Env) (s : Shared) (H : Hp) (E : XK), PSs (cxOf CX0 P w K mg base N qual (defScope st) f cdv A outer s H E).nox (defBody st) (tDeck K)) : FnG P w K mg base (k + 1) f fd ps (spDeck K) := by
  refine fnG_of Fn S (fun vs H Q E h => ?_) fun cdv A outer s H vs Q E hr gd h => ⟨_, hbody cdv A outer s H E, ?_⟩
  · obtain ⟨a, ns, rfl, _⟩ := h
    rw [hp]; rfl
  · obtain ⟨a, ns, rfl, hs, hl, q⟩ := h
    have es : L2.start N [V.ref a] = [some (.ref a), none] := by
      unfold L2.start
      rw [hN]
      rfl
    rw [es]
    exact deck_ok hs hl fun dk H' le wd => q dk H' le wd

/-! ### the law -/
def spLaw (K : Fg) : Sp := fun vs H Q _ => ∃ (a : Addr) (ns : List Int), vs = [.ref a] ∧ SqL K H a (ns.map V.int) ∧ ns.length ≤ 63 ∧ ∀ H', Q (.bl true) H'
/-- the slots behind the law's first statement: the script, the deck, all else -/
def env0 (n : Nat) : Sg := .un :: .val .deck :: List.replicate (n - 2) .un
theorem fn_law {x qual : Str} {st : Stmt} {f : Addr} {fd : FuncData} {N ps : List Str} {k : Nat} {b : MS} (Fn : Fun K x qual st f fd) (S : FnScope N ps (defScope st)) (hN : 2 ≤ N.length) (hp : ps.length = 1)
    (hb : ∀ ns : List Int, ns.length ≤ 63 → ∃ s1, b (env0 N.length) ⟨ns.map absI, 0, []⟩ = some (.rt (.bl true), s1))
    (hbody : ∀ (cdv : Value) (A : Around) (outer : List Env) (s : Shared) (H : Hp) (E : XK), Room k (A.deeper (envOfC qual (defScope st) s.heap.objs.size f cdv)) → (A.deeper (envOfC qual (defScope st) s.heap.objs.size f cdv)).guards = some [] →
      ∃ t, PSs (cxOf CX0 P w K mg base N qual (defScope st) f cdv A outer s H E).nox (defBody st) (tSeq (tAsg (tCall (spDeck K) [] E0 (tCons (tVar 0) tNil)) (gName 1)) t) ∧ ImS K t b) : FnG P w K mg base (k + 1) f fd ps (spLaw K) := by
  refine fnG_of Fn S (fun vs H Q E h => ?_) fun cdv A outer s H vs Q E hr gd h => ?_
  · obtain ⟨a, ns, rfl, _⟩ := h
    rw [hp]; rfl
  · obtain ⟨a, ns, rfl, hs, hl, q⟩ := h
    obtain ⟨t, h1, h2⟩ := hbody cdv A outer s H E hr gd
    refine ⟨_, h1, ?_⟩
    obtain ⟨m, hm⟩ : ∃ m, N.length = m + 2 := ⟨N.length - 2, by omega⟩
    have es : L2.start N [V.ref a] = some (.ref a) :: none :: List.replicate m none := by
      unfold L2.start
      rw [hm]
      rfl
    rw [es]
    refine ⟨_, rfl, a, ns, rfl, hs, hl, fun dk H' le wd => ?_⟩
    obtain ⟨s1, hr1⟩ := hb ns hl
    have g : Good K dk H' ⟨fun _ => none, []⟩ ⟨fun _ => none, []⟩ (some (.ref a) :: some (.ref dk.1) :: List.replicate m none) H' (env0 N.length) ⟨ns.map absI, 0, []⟩ := by
      refine ⟨wd, Ext.refl _ _, by unfold env0; rw [hm]; simp, fun i s e => ?_, fun i j ds es p hne e1 e2 e3 => ?_⟩
      · unfold env0 at e
        match i with
        | 0 => cases e; trivial
        | 1 => cases e; exact ⟨_, rfl, .deck⟩
        | i + 2 =>
          have e' : (List.replicate (N.length - 2) Sl.un)[i]? = some s := e
          rw [List.getElem?_replicate] at e'
          split at e'
          · cases e'; trivial
          · cases e'
      · exfalso
        unfold env0 at e1
        match i with
        | 0 => cases e1
        | 1 => cases e1
        | i + 2 =>
          have e' : (List.replicate (N.length - 2) Sl.un)[i]? = some (.own ds) := e1
          rw [List.getElem?_replicate] at e'
          split at e' <;> cases e'
    refine h2 dk H' _ _ _ H' _ _ _ s1 g hr1 _ ?_
    intro v F' H2 _ _ r
    cases r
    exact q H2
end
end MD

set_option Elab.async false
set_option linter.all false
set_option maxRecDepth 100000
set_option maxHeartbeats 2000000
namespace MD
open PySem PySem.Spec PyProof.Rows L2
variable {ww : WW}

/-- the law's own call, from a heap in which nothing is tracked but the script -/
theorem law_core {P : Program} {w : World} {K : Fg} {mg mb : Str → Option Value} {k : Nat} {fa a : Addr} {fd : FuncData} {x : Str} {sp : Sp} {s1 : Shared} {vs : List Value} (KX : K.In s1.heap) (hns : s1.heap.Ns mainGlobals mg) (hb : s1.heap.Ns builtinsNs mb)
    (hbb : ∀ y : Str, y ≠ "__name__" → mb y = bootBuiltins y) (hlim : s1.heap.NoLimit) (hg : s1.gens = #[]) (ha : s1.heap.get? a = some { cls := .type "list", data := .seq vs.toArray }) (hr : Room k callerA)
    (Fn : ∀ base : Heap, K.In base → base.Ns mainGlobals mg → FnG P w K mg base k fa fd [x] sp) (hbind : ∀ (s : Shared) (u : Value), BindsTo s fd ⟨[u], []⟩ [(x, u)])
    (H : Hp) (hO : Only H) (hok : HOk P w H s1.heap) (hA : ∀ b, H b ≠ none → b = a) (hK : H a ≠ none → K.lookup a = none) (hsp : sp [.ref a] H (fun v _ => v = .bl true) E0) :
    codeAny (model P w) callerA (.call (.ref fa) ⟨[.ref a], []⟩) (fun r s' => r = .ok (.ret (.bool true)) ∧ OldK s1.heap s'.heap ∧ s'.os = s1.os ∧ AllBare s'.gens) s1 := by
  have only : ∀ {b : Addr} {o : Obj} {es : Array DictEntry} {ep : Nat}, s1.heap.get? b = some o → o.data = .dict es ep → H b = none := by
    intro b o es ep e d
    by_cases hz : H b = none
    · exact hz
    · have hba := hA b hz
      rw [hba, ha] at e
      have e' := (Option.some.inj e).symm
      rw [e'] at d
      exact absurd d (fun z => Data.noConfusion z)
  have low : ∀ {b : Addr} {m : Str → Option Value}, s1.heap.Ns b m → (hidT s1.heap H).Ns b m := by
    intro b m hm
    obtain ⟨o, es, ep, e, d, r⟩ := hm
    exact ⟨o, es, ep, hidT_get e (only e d), d, r⟩
  have kin : K.In (hidT s1.heap H) := by
    intro b o e
    refine hidT_get (KX b o e) ?_
    by_cases hz : H b = none
    · exact hz
    · have hba := hA b hz
      rw [hba] at hz e
      rw [hK hz] at e
      cases e
  obtain ⟨mc, l1, l2⟩ := hlim
  have md : Mod K mg (hidT s1.heap H) := ⟨kin, low hns, ⟨mb, low hb, hbb⟩, ⟨mc, low l1, l2⟩⟩
  have en : Env0 P w K mg (hidT s1.heap H) callerA [] s1 H := by
    refine ⟨rfl, md, fun b o e => of_hidT e, Nat.le_of_eq (hidT_size _ _), trivial, fun b z => ?_, hok, .of_eq hg⟩
    exact absurd (show b ∈ ([] : List Addr) from z) (by simp)
  refine codeAny_mono ((Fn _ kin (low hns)).run callerA [] s1 H ⟨[.ref a], []⟩ [.ref a] [.ref a] _ _ hr rfl en (hbind s1 (.ref a)) (.cons rfl .nil) hsp) fun r s' h => ?_
  rcases r with er | fl
  · exact False.elim h
  · cases fl with
    | ret u =>
      obtain ⟨v, H', os, bare, un, hok', r', q⟩ := h
      replace q : v = .bl true := q
      rw [q] at r'
      have hu : u = Value.bool true := r'
      rw [hu]
      refine ⟨rfl, OldK.of_keep fun b o e => ?_, os, bare⟩
      by_cases hz : H b = none
      · exact un.keep b o e hz (fun z => absurd (show b ∈ ([] : List Addr) from z) (by simp)) (by simp)
      · rcases hO b with z | ⟨ob, xs, z⟩
        · exact absurd z hz
        · have k1 := (hok b _ z).1
          have k2 := (hok' b _ (un.frzs b ob _ z)).1
          rw [e] at k1
          rw [k2, k1]
    | next => exact False.elim h
    | brk => exact False.elim h
    | cont => exact False.elim h
theorem law_callG {P : Program} {w : World} {K : Fg} {mg mb : Str → Option Value} {k : Nat} {fa a : Addr} {fd : FuncData} {x : Str} {sp : Sp} {s1 : Shared} {vs : List Value} {ns : List Int} (KX : K.In s1.heap) (hns : s1.heap.Ns mainGlobals mg) (hb : s1.heap.Ns builtinsNs mb)
    (hbb : ∀ y : Str, y ≠ "__name__" → mb y = bootBuiltins y) (hlim : s1.heap.NoLimit) (hg : s1.gens = #[]) (ha : s1.heap.get? a = some { cls := .type "list", data := .seq vs.toArray }) (hi : IntsAre vs ns) (hl : ns.length ≤ sizeLine) (hr : Room k callerA)
    (Fn : ∀ base : Heap, K.In base → base.Ns mainGlobals mg → FnG P w K mg base k fa fd [x] sp) (hbind : ∀ (s : Shared) (u : Value), BindsTo s fd ⟨[u], []⟩ [(x, u)])
    (hsp : ∀ H : Hp, SqL K H a (ns.map V.int) → sp [.ref a] H (fun v _ => v = .bl true) E0) :
    codeAny (model P w) callerA (.call (.ref fa) ⟨[.ref a], []⟩) (fun r s' => r = .ok (.ret (.bool true)) ∧ OldK s1.heap s'.heap ∧ s'.os = s1.os ∧ AllBare s'.gens) s1 := by
  have rv := vals_ints hi
  have lenV := hi.length
  by_cases hk : K.lookup a = none
  · let H : Hp := fun b => if b = a then some (.frz { cls := .type "list", data := .seq vs.toArray } (.lst (ns.map V.int))) else none
    have atA : H a = some (.frz { cls := .type "list", data := .seq vs.toArray } (.lst (ns.map V.int))) := if_pos rfl
    have off : ∀ b, b ≠ a → H b = none := fun b z => if_neg z
    refine law_core KX hns hb hbb hlim hg ha hr Fn hbind H (fun b => ?_) (fun b u z => ?_) (fun b z => ?_) (fun _ => hk) (hsp H (.inl (.inr ⟨_, atA⟩)))
    · by_cases e : b = a
      · rw [e]; exact .inr ⟨_, _, atA⟩
      · exact .inl (off b e)
    · by_cases e : b = a
      · rw [e, atA] at z
        cases z
        rw [e]
        exact ⟨ha, by rw [List.length_map]; exact hl, vs, _, rv, ha⟩
      · rw [off b e] at z; cases z
    · by_cases e : b = a
      · exact e
      · exact absurd (off b e) z
  · obtain ⟨o, ho⟩ : ∃ o, K.lookup a = some o := Option.ne_none_iff_exists'.mp hk
    have e := KX a o ho
    rw [ha] at e
    have eo : o = { cls := .type "list", data := .seq vs.toArray } := (Option.some.inj e).symm
    subst eo
    refine law_core KX hns hb hbb hlim hg ha hr Fn hbind (fun _ => none) (fun _ => .inl rfl) (fun b u z => nomatch (show (none : Option HO) = some u from z)) (fun b z => absurd rfl z) (fun z => absurd rfl z) (hsp _ ?_)
    exact .inr ⟨_, vs.toArray, _, ho, rfl, rfl, rfl, by rw [List.size_toArray, lenV]; exact hl, by simpa using rv⟩
/-- what k_head leaves, from the law's promise -/
theorem walkG {l : PySem.W.OpenLaw} {n k : Nat} {q : Program} {loose : List Str} {XP : (Str → Option Value) → Heap → Prop} {YP : World → Heap → Prop} {d : DefRec} {K : Params → Fg} {x : Str} (hn : l.most = some n) (hn2 : n ≤ 63) (hdf : d.params.defaults = []) (hr : Room k callerA)
    (hY : ∀ (w : World) (h : Heap), YP w h → (K w.params).In h)
    (Fn : ∀ (w : World) (mg : Str → Option Value) (fa : Addr) (h : Heap), (K w.params).In h → h.Ns mainGlobals mg → mg d.name = some (.ref fa) →
      ∃ fd : FuncData, (∀ (s : Shared) (u : Value), BindsTo s fd ⟨[u], []⟩ [(x, u)]) ∧ ∀ base : Heap, (K w.params).In base → base.Ns mainGlobals mg → FnG l.prog w (K w.params) mg base k fa fd [x] (spLaw (K w.params))) :
    PySem.W.WalkO q loose XP YP l.row.toRowW d [] (fun f vs => PySem.call f vs) := by
  refine Att.attach_call hn hdf fun w s₀ s₁ mg mb fa o pm cd doc a vs ns G Y ho hd hcd hmg hobj hints hlen hg => ?_
  have KX := hY w _ Y
  obtain ⟨fd, hb, hF⟩ := Fn w mg fa _ KX G.T.g hmg
  have small : ns.length ≤ sizeLine := Nat.le_trans (Nat.le_trans hlen hn2) (by decide)
  exact law_callG KX G.T.g G.T.b G.T.builtins G.T.nolimit hg hobj hints small hr hF hb fun H hS => ⟨a, ns, rfl, hS, Nat.le_trans hlen hn2, fun _ => rfl⟩
end MD

set_option Elab.async false
set_option linter.all false
set_option maxRecDepth 100000
set_option maxHeartbeats 2000000
namespace MD
open PySem PySem.Spec PyProof.Rows L2
variable {ww : WW}

section
variable {K : Fg} {dk : Dk} {F F' F0 : Fz} {H H' H0 : Hp} {X : Cx}
/-! rules of several kinds in one -/
def rAddA (K : Fg) : R2 := fun x y H Q => rI0 (fun i j => .int (i + j)) x y H Q ∨ (∃ i j, x = .str i ∧ y = .str j ∧ i.length + j.length ≤ sizeLine ∧ Q (.str (i ++ j)) H) ∨ rCatA K x y H Q ∨ rCat x y H Q
theorem op_addA : OpR X (binaryOp .Add) (rAddA X.K) := OpR.or op_add (OpR.or op_add_str (OpR.or op_catA op_cat))
def addM : D → D → Option D
  | .int i, .int j => some (.int (i + j))
  | .str i, .str j => if i.length + j.length ≤ sizeLine then some (.str (i ++ j)) else none
  | .tup i, .tup j => if i.length + j.length ≤ sizeLine then some (.tup (i ++ j)) else none
  | .lst i, .lst j => if i.length + j.length ≤ sizeLine then some (.lst (i ++ j)) else none
  | _, _ => none
theorem ro_addA : RO K (rAddA K) addM := by
  intro dk F H st x y d e z w rx ry hz Q q
  unfold addM at hz
  split at hz
  · exact .inl (ro_I0 (fun i j => rc_int (i + j)) dk F H st x y _ _ z w rx ry hz Q q)
  · exact .inr (.inl (ro_strCat dk F H st x y _ _ z w rx ry hz Q q))
  · exact .inr (.inr (.inl (ro_tupCat dk F H st x y _ _ z w rx ry hz Q q)))
  · refine .inr (.inr (.inr (rof_lstCat.ro dk F H st x y _ _ z w rx ry ?_ Q q)))
    unfold lstCat
    split at hz
    · rename_i hc
      simp only [hc, if_true]; exact hz
    · cases hz
  · cases hz
abbrev subM : D → D → Option D := iI fun i j => .int (i - j)
abbrev mulM : D → D → Option D := iIC CMul fun i j => .int (i * j)
abbrev fdivM : D → D → Option D := iIC CDiv fun i j => .int (i / j)
abbrev modM : D → D → Option D := iIC (fun _ j => 0 < j) fun i j => .int (i % j)
abbrev powM : D → D → Option D := iIC CPow fun i j => .int (i ^ j.toNat)
abbrev ltM : D → D → Option D := iI fun i j => .bl (decide (i < j))
abbrev leM : D → D → Option D := iI fun i j => .bl (decide (i ≤ j))
abbrev gtM : D → D → Option D := iI fun i j => .bl (decide (j < i))
abbrev geM : D → D → Option D := iI fun i j => .bl (decide (j ≤ i))
theorem ro_sub : RO K (rI0 fun i j => .int (i - j)) subM := ro_I0 fun i j => rc_int _
theorem ro_mul : RO K (rI CMul fun i j => .int (i * j)) mulM := ro_I fun i j => rc_int _
theorem ro_fdiv : RO K (rI CDiv fun i j => .int (i / j)) fdivM := ro_I fun i j => rc_int _
theorem ro_mod : RO K (rI (fun _ j => 0 < j) fun i j => .int (i % j)) modM := ro_I fun i j => rc_int _
theorem ro_pow : RO K (rI CPow fun i j => .int (i ^ j.toNat)) powM := ro_I fun i j => rc_int _
theorem ro_lt : RO K (rI0 fun i j => .bl (decide (i < j))) ltM := ro_I0 fun i j => rc_bl _
theorem ro_le : RO K (rI0 fun i j => .bl (decide (i ≤ j))) leM := ro_I0 fun i j => rc_bl _
theorem ro_gt : RO K (rI0 fun i j => .bl (decide (j < i))) gtM := ro_I0 fun i j => rc_bl _
theorem ro_ge : RO K (rI0 fun i j => .bl (decide (j ≤ i))) geM := ro_I0 fun i j => rc_bl _
theorem ro_ipAdd : RO K (ipI fun i j => i + j) (iI fun i j => .int (i + j)) := ro_I0 fun i j => rc_int _
theorem ro_ipSub : RO K (ipI fun i j => i - j) (iI fun i j => .int (i - j)) := ro_I0 fun i j => rc_int _
/-! in -/
def rInA (K : Fg) : R2 := fun x y H Q => (∃ (c : Nat) (z : Str), x = .str ⟨#[c]⟩ ∧ y = .str z ∧ Q (.bl (decide (c ∈ z.cps.toList))) H) ∨ rIn K false x y H Q
def rNotInA (K : Fg) : R2 := fun x y H Q => (∃ (c : Nat) (z : Str), x = .str ⟨#[c]⟩ ∧ y = .str z ∧ Q (.bl (!decide (c ∈ z.cps.toList))) H) ∨ rIn K true x y H Q
theorem op_inA : OpR X (compareOp .In) (rInA X.K) := OpR.or op_in_sign op_in_seq
theorem op_notInA : OpR X (compareOp .NotIn) (rNotInA X.K) := OpR.or op_notIn_sign op_notIn_seq
def inM (d e : D) : Option D := match e with
  | .str _ => inSign d e
  | _ => inSeq false d e
def notInM (d e : D) : Option D := match e with
  | .str _ => notInSign d e
  | _ => inSeq true d e
theorem ro_in : RO K (rInA K) inM := by
  intro dk F H st x y d e z w rx ry hz Q q
  unfold inM at hz
  split at hz
  · exact .inl (ro_inSign dk F H st x y _ _ z w rx ry hz Q q)
  · exact .inr (ro_inSeq false dk F H st x y _ _ z w rx ry hz Q q)
theorem ro_notIn : RO K (rNotInA K) notInM := by
  intro dk F H st x y d e z w rx ry hz Q q
  unfold notInM at hz
  split at hz
  · exact .inl (ro_notInSign dk F H st x y _ _ z w rx ry hz Q q)
  · exact .inr (ro_inSeq true dk F H st x y _ _ z w rx ry hz Q q)
/-! tuple(..) of a list, a tuple, a text -/
def rTupA (K : Fg) : List V → Hp → VK → Prop := fun xs H Q => (∃ p ys, xs = [.ref p] ∧ ((SqL K H p ys ∧ ∀ l, H l = none → Q (.ref l) (upd H l (.tup ys))) ∨ (SqT K H p ys ∧ Q (.ref p) H))) ∨
  ∃ x, xs = [.str x] ∧ x.cps.size ≤ sizeLine ∧ ∀ p, H p = none → Q (.ref p) (upd H p (.tup ((signs x).map V.str)))
theorem call_tupA (hc : X.calm = true) : CallR X (.type "tuple") (rTupA X.K) := CallR.or call_tuple_of (call_tupStr hc)
def tupleM : List D → Option D
  | [.lst ds] => some (.tup ds)
  | [.tup ds] => some (.tup ds)
  | [.str x] => if x.cps.size ≤ sizeLine then some (.tup ((signs x).map D.str)) else none
  | _ => none
theorem rc_tupA : RC K (rTupA K) tupleM := by
  intro dk F H st vs ds z w rx hz Q q
  unfold tupleM at hz
  split at hz
  · exact .inl (rc_tupOf dk F H st vs _ z w rx hz Q q)
  · exact .inl (rc_tupOf dk F H st vs _ z w rx hz Q q)
  · exact .inr (rc_tupStr dk F H st vs _ z w rx hz Q q)
  · cases hz
/-! module constants -/
theorem pe_gstr {x : Str} {s : Str} {pos : Pos} (hg : Gl X x) (hm : ∃ t, X.mg x = some (.str s t)) (hd : (x == ("__debug__" : Str)) = false := by decide) : PE X (.Name x pos) (tC (.str s)) := by
  obtain ⟨t, h⟩ := hm
  exact pe_glob hg h ⟨t, rfl⟩ hd
theorem pe_gint {x : Str} {i : Int} {pos : Pos} (hg : Gl X x) (hm : ∃ t, X.mg x = some (.int i t)) (hd : (x == ("__debug__" : Str)) = false := by decide) : PE X (.Name x pos) (tC (.int i)) := by
  obtain ⟨t, h⟩ := hm
  exact pe_glob hg h ⟨t, rfl⟩ hd
end
/-! a def that is known to its callers -/
def Cal (P : Program) (w : World) (K : Fg) (mg : Str → Option Value) (base : Heap) (k : Nat) (x : Str) (ps : List Str) (sp : Sp) : Prop :=
  ∃ f fd, FnG P w K mg base k f fd ps sp ∧ mg x = some (.ref f) ∧ PySem.W.keepIn K (.ref f) = true ∧ Binds K fd ps []
section
variable {X : Cx} {k j : Nat} {ps : List Str} {sp : Sp} {x : Str} {p pos : Pos} {e : Expr} {es : List Expr} {t : TA}
theorem pe_callC (C : Cal X.prog X.w X.K X.mg X.base j x ps sp) (hr : Room k X.A) (gd : X.A.guards = some []) (hg : Gl X x) (ha : PA X (e :: es) t) (hj : j ≤ k := by decide) (hdb : (x == ("__debug__" : Str)) = false := by decide)
    (he : starEach (e :: es) X.env = (false, eval e X.env) :: starEach es X.env := by rfl) (hpl : (backTo pos (starEach es X.env)).any (·.1) = false := by rfl) : PE X (.Call (.Name x p) (e :: es) [] pos) (tCall sp [] E0 t) := by
  obtain ⟨f, fd, F, hm, hk, hb⟩ := C
  exact pe_callG F (hr.mono hj) gd hg hm hk hb ha hdb he hpl
end
end MD

set_option Elab.async false
set_option linter.all false
set_option maxRecDepth 100000
set_option maxHeartbeats 1000000
namespace MD
open PySem L2
variable {ww : WW}

/-! ### dicts with ints and texts as keys -/
def keyOf : D → Option Key
  | .int i => some (.inl i)
  | .str x => some (.inr x)
  | _ => none
def keyD : Key → D
  | .inl i => .int i
  | .inr x => .str x
section
variable {K : Fg} {dk : Dk} {F F' F0 : Fz} {H H' H0 : Hp} {σ : L2.St} {env : Sg} {st : S}
theorem keyOf_rw {v : V} {d : D} {k : Key} (r : Rw K dk F H v d) (h : keyOf d = some k) : v = kV k := by
  cases d with
  | int i => cases h; exact r.int
  | str x => cases h; exact r.str
  | _ => cases h
theorem keyD_rp (k : Key) : Rp K dk F (kV k) (keyD k) := by
  cases k with
  | inl i => exact .int i
  | inr x => exact .str x
def getK {α : Type} : List Key → List α → Key → Option α
  | k' :: ks, x :: xs, k => if k' = k then some x else getK ks xs k
  | _, _, _ => none
theorem getK_val : ∀ {vs : List V} {ds : List D} (ks : List Key) (k : Key), Rps K dk F vs ds → ks.length = vs.length →
    (∀ d, getK ks ds k = some d → ∃ v, valV (ks.zip vs) k = some v ∧ Rp K dk F v d) ∧ (getK ks ds k = none → valV (ks.zip vs) k = none)
  | _, _, [], k, .nil, _ => ⟨fun d h => (by cases h), fun _ => rfl⟩
  | _, _, [], k, .cons a r, h => by simp at h
  | _, _, k' :: ks, k, .nil, h => by simp at h
  | v :: vs, d :: ds, k' :: ks, k, .cons a r, h => by
    obtain ⟨i1, i2⟩ := getK_val ks k r (by simpa using h)
    rw [List.zip_cons_cons]
    unfold getK
    by_cases e : k' = k
    · rw [if_pos e, valV_pos (p := (k', v)) e]
      exact ⟨fun d' h => (by cases h; exact ⟨v, rfl, a⟩), fun h => (by cases h)⟩
    · rw [if_neg e, valV_neg (p := (k', v)) e]
      exact ⟨i1, i2⟩
def hasK (ks : List Key) (k : Key) : Bool := ks.any fun k' => decide (k' = k)
def putKs (ks : List Key) (k : Key) : List Key := if hasK ks k = true then ks else ks ++ [k]
def putVs {α : Type} (ks : List Key) (xs : List α) (k : Key) (x : α) : List α := if hasK ks k = true then List.zipWith (fun k' x' => if k' = k then x else x') ks xs else xs ++ [x]
theorem put_len {α : Type} {ks : List Key} {xs : List α} {k : Key} {x : α} (h : ks.length = xs.length) : (putKs ks k).length = (putVs ks xs k x).length := by
  unfold putKs putVs
  by_cases e : hasK ks k = true
  · rw [if_pos e, if_pos e, List.length_zipWith, h, Nat.min_self]
  · rw [if_neg e, if_neg e, List.length_append, List.length_append, h]; rfl
theorem any_zip {vs : List V} (k : Key) : ∀ (ks : List Key) (vs : List V), ks.length = vs.length → ((ks.zip vs).any fun kv => decide (kv.1 = k)) = hasK ks k
  | [], [], _ => rfl
  | k' :: ks, v :: vs, h => by
    rw [List.zip_cons_cons, List.any_cons, any_zip (vs := vs) k ks vs (by simpa using h)]
    rfl
theorem map_zip (k : Key) (v : V) : ∀ (ks : List Key) (vs : List V), (ks.zip vs).map (fun kv => if kv.1 = k then (kv.1, v) else kv) = ks.zip (List.zipWith (fun k' x' => if k' = k then v else x') ks vs)
  | [], _ => rfl
  | _ :: _, [] => rfl
  | k' :: ks, u :: vs => by
    rw [List.zip_cons_cons, List.map_cons, map_zip k v ks vs, List.zipWith_cons_cons, List.zip_cons_cons]
    by_cases e : k' = k
    · simp [e]
    · simp [e]
theorem put_zip {ks : List Key} {vs : List V} {k : Key} {v : V} (h : ks.length = vs.length) : putK (ks.zip vs) k v = (putKs ks k).zip (putVs ks vs k v) := by
  unfold putK putKs putVs
  rw [any_zip (vs := vs) k ks vs h]
  by_cases e : hasK ks k = true
  · rw [if_pos e, if_pos e, if_pos e, map_zip]
  · rw [if_neg e, if_neg e, if_neg e, List.zip_append h]; rfl
theorem put_rps {k : Key} {v : V} {d : D} (r : Rp K dk F v d) : ∀ {vs : List V} {ds : List D} (ks : List Key), Rps K dk F vs ds → Rps K dk F (List.zipWith (fun k' x' => if k' = k then v else x') ks vs) (List.zipWith (fun k' x' => if k' = k then d else x') ks ds)
  | _, _, [], _ => .nil
  | _, _, _ :: _, .nil => .nil
  | _, _, k' :: ks, .cons a b => by
    rw [List.zipWith_cons_cons, List.zipWith_cons_cons]
    refine .cons ?_ (put_rps r ks b)
    by_cases e : k' = k
    · rw [if_pos e, if_pos e]; exact r
    · rw [if_neg e, if_neg e]; exact a
theorem putVs_rps {k : Key} {v : V} {d : D} {vs : List V} {ds : List D} {ks : List Key} (r : Rp K dk F v d) (rs : Rps K dk F vs ds) : Rps K dk F (putVs ks vs k v) (putVs ks ds k d) := by
  unfold putVs
  by_cases e : hasK ks k = true
  · rw [if_pos e, if_pos e]; exact put_rps r ks rs
  · rw [if_neg e, if_neg e]; exact rs.append (Rps.one r)

theorem pe_or {X : Cx} {e : Expr} {t t' : TE} (h : PE X e t) (h' : PE X e t') : PE X e (fun σ H Q => t σ H Q ∨ t' σ H Q) :=
  ⟨fun pins s σ H Q I q => q.elim (h.run pins s σ H Q I) (h'.run pins s σ H Q I)⟩
theorem ps_or {X : Cx} {e : Stmt} {t t' : TS} (h : PS X e t) (h' : PS X e t') : PS X e (fun E σ H => t E σ H ∨ t' E σ H) :=
  ⟨fun pins s σ H E I q => q.elim (h.run pins s σ H E I) (h'.run pins s σ H E I)⟩
/-! e[k], of a list, a tuple, a text, a dict -/
def dgetD : List Key → List D → D → Option D := fun ks ds k => (keyOf k).bind fun k => getK ks ds k
def subD (d e : D) : Option D := match d with
  | .dic ks ds => dgetD ks ds e
  | d => ixM d e
def tSub (K : Fg) (ta tb : TE) : TE := fun σ H Q => tDGet ta tb σ H Q ∨ tOp (rIx K) ta tb σ H Q
theorem pe_sub {X : Cx} {o i : Expr} {pos : Pos} {ta tb : TE} (hu : X.A.units + 1 < cLine) (ho : PE X o ta) (hi : PE X i tb) (hs : NoSl i := by intro _ _; rfl) (hs' : PlainIx i := by intro _ _; rfl) : PE X (.Subscript o i pos) (tSub X.K ta tb) :=
  pe_or (pe_dget hu ho hi hs) (pe_ix ix_seq ho hi hs')
theorem im_sub {ta tb : TE} {fa fb : ME} (ha : ImW K ta fa) (hb : ImW K tb fb) : Im K (tSub K ta tb) (opM subD fa fb) := fun dk H0 F0 F σ H env st d st' g e Q q => by
  obtain ⟨⟨x, s1⟩, h1, e'⟩ := bnd e
  obtain ⟨⟨y, s2⟩, h2, e'⟩ := bnd e'
  obtain ⟨z, h3, e'⟩ := mpd e'
  cases e'
  by_cases hd : ∃ ks ds, dr s2 x = .dic ks ds
  · obtain ⟨ks, ds, hd⟩ := hd
    refine .inl ?_
    refine ha dk H0 F0 F σ H env st x s1 g h1 _ fun v F1 H1 x1 g1 r1 => ?_
    refine hb dk H0 F0 F1 σ H1 env s1 y _ g1 h2 _ fun u F2 H2 x2 g2 r2 => ?_
    have r3 := (r1.ext x2).dr g2.wd
    rw [hd] at r3
    obtain ⟨p, vs, rfl, hr, hl, r⟩ := r3.d g2.wd.sub
    replace h3 : subD (dr s2 x) (dr s2 y) = some d := h3
    rw [hd] at h3
    obtain ⟨k, h4, h5⟩ := bnd (show (keyOf (dr s2 y)).bind (fun k => getK ks ds k) = some d from h3)
    obtain ⟨w, hw, rw'⟩ := (getK_val ks k r hl).1 _ h5
    exact ⟨p, w, rfl, .inl ⟨_, k, hr, keyOf_rw (r2.dr g2.wd) h4, hw.symm⟩, q w F2 H2 (x1.trans x2) g2 rw'⟩
  · refine .inr (im_op ro_ix ha hb dk H0 F0 F σ H env st d s2 g ?_ Q q)
    unfold opM
    rw [h1]
    show ((fb env s1).bind _) = _
    rw [h2]
    show (ixM (dr s2 x) (dr s2 y)).map _ = _
    have : subD (dr s2 x) (dr s2 y) = ixM (dr s2 x) (dr s2 y) := by
      unfold subD
      split
      · rename_i ks ds hx
        exact absurd ⟨ks, ds, hx⟩ hd
      · rfl
    rw [← this, show subD (dr s2 x) (dr s2 y) = some d from h3]
    rfl
/-! k in d, k not in d -/
def cntD (neg : Bool) (d e : D) : Option D := match e with
  | .dic ks ds => (keyOf d).map fun k => .bl (if neg then !(getK ks ds k).isSome else (getK ks ds k).isSome)
  | e => if neg then notInM d e else inM d e
def tIn (K : Fg) (ta tb : TE) : TE := fun σ H Q => tDIn ta tb σ H Q ∨ tOp (rInA K) ta tb σ H Q
def tNotIn (K : Fg) (ta tb : TE) : TE := fun σ H Q => tDNotIn ta tb σ H Q ∨ tOp (rNotInA K) ta tb σ H Q
theorem pe_in {X : Cx} {a b : Expr} {pos : Pos} {ta tb : TE} (hu : X.A.units + 1 < cLine) (ha : PE X a ta) (hb : PE X b tb) (hm : behindInMarks .In b = false := by rfl) : PE X (.Compare a [.In] [b] pos) (tIn X.K ta tb) :=
  pe_or (pe_cmp (pc_din hu ha hb) hm) (pe_cmpR op_inA ha hb hm)
theorem pe_notIn {X : Cx} {a b : Expr} {pos : Pos} {ta tb : TE} (hu : X.A.units + 1 < cLine) (ha : PE X a ta) (hb : PE X b tb) (hm : behindInMarks .NotIn b = false := by rfl) : PE X (.Compare a [.NotIn] [b] pos) (tNotIn X.K ta tb) :=
  pe_or (pe_cmp (pc_dnotin hu ha hb) hm) (pe_cmpR op_notInA ha hb hm)
theorem im_inX (neg : Bool) {ta tb t : TE} {fa fb : ME} (r : R2) (ro : RO K r (fun d e => if neg then notInM d e else inM d e))
    (hin : ∀ σ H Q, (ta σ H fun y H1 => tb σ H1 fun x H2 => ∃ a o, x = .ref a ∧ DGet H2 a y o ∧ Q (.bl (if neg then !o.isSome else o.isSome)) H2) ∨ tOp r ta tb σ H Q → t σ H Q) (ha : ImW K ta fa) (hb : ImW K tb fb) : Im K t (opM (cntD neg) fa fb) := fun dk H0 F0 F σ H env st d st' g e Q q => by
  obtain ⟨⟨x, s1⟩, h1, e'⟩ := bnd e
  obtain ⟨⟨y, s2⟩, h2, e'⟩ := bnd e'
  obtain ⟨z, h3, e'⟩ := mpd e'
  cases e'
  refine hin σ H Q ?_
  by_cases hd : ∃ ks ds, dr s2 y = .dic ks ds
  · obtain ⟨ks, ds, hd⟩ := hd
    refine .inl ?_
    refine ha dk H0 F0 F σ H env st x s1 g h1 _ fun v F1 H1 x1 g1 r1 => ?_
    refine hb dk H0 F0 F1 σ H1 env s1 y _ g1 h2 _ fun u F2 H2 x2 g2 r2 => ?_
    have r3 := r2.dr g2.wd
    rw [hd] at r3
    obtain ⟨p, vs, rfl, hr, hl, r⟩ := r3.d g2.wd.sub
    replace h3 : cntD neg (dr s2 x) (dr s2 y) = some d := h3
    rw [hd] at h3
    obtain ⟨k, h4, h5⟩ := mpd (show (keyOf (dr s2 x)).map (fun k => D.bl (if neg then !(getK ks ds k).isSome else (getK ks ds k).isSome)) = some d from h3)
    subst h5
    obtain ⟨i1, i2⟩ := getK_val ks k r hl
    refine ⟨p, _, rfl, .inl ⟨_, k, hr, keyOf_rw ((r1.ext x2).dr g2.wd) h4, rfl⟩, ?_⟩
    have es : (valV (ks.zip vs) k).isSome = (getK ks ds k).isSome := by
      cases hk : getK ks ds k with
      | none => rw [i2 hk]; rfl
      | some w => obtain ⟨u, hu, _⟩ := i1 w hk; rw [hu]; rfl
    rw [es]
    exact q _ F2 H2 (x1.trans x2) g2 (.bl _)
  · refine .inr (im_op ro ha hb dk H0 F0 F σ H env st d s2 g ?_ Q q)
    unfold opM
    rw [h1]
    show ((fb env s1).bind _) = _
    rw [h2]
    show ((fun d e => if neg then notInM d e else inM d e) (dr s2 x) (dr s2 y)).map _ = _
    have : cntD neg (dr s2 x) (dr s2 y) = if neg then notInM (dr s2 x) (dr s2 y) else inM (dr s2 x) (dr s2 y) := by
      unfold cntD
      split
      · rename_i ks ds hx
        exact absurd ⟨ks, ds, hx⟩ hd
      · rfl
    dsimp only
    rw [← this, show cntD neg (dr s2 x) (dr s2 y) = some d from h3]
    rfl
theorem im_in {ta tb : TE} {fa fb : ME} (ha : ImW K ta fa) (hb : ImW K tb fb) : Im K (tIn K ta tb) (opM (cntD false) fa fb) := im_inX false (rInA K) ro_in (fun σ H Q h => h) ha hb
theorem im_notIn {ta tb : TE} {fa fb : ME} (ha : ImW K ta fa) (hb : ImW K tb fb) : Im K (tNotIn K ta tb) (opM (cntD true) fa fb) := im_inX true (rNotInA K) ro_notIn (fun σ H Q h => h) ha hb
/-! len(d), list(d) -/
theorem call_lenR {X : Cx} : CallR X (.builtin "len") (fun xs H Q => ∃ a kvs, xs = [V.ref a] ∧ Rd H a (.dK kvs) ∧ Q (.int kvs.length) H) := by
  intro pins s σ H xs us Q I r h
  obtain ⟨a, kvs, rfl, ha, q⟩ := h
  obtain ⟨u, rfl, ru⟩ := vals1 r
  cases ru
  exact d_len I ha fun t s' I' => ⟨.int kvs.length, H, I', ⟨t, rfl⟩, q⟩
def lenA : List D → Option D
  | [.dic ks _] => some (.int ks.length)
  | ds => lenM ds
def rLenA (K : Fg) : List V → Hp → VK → Prop := fun xs H Q => (∃ a kvs, xs = [V.ref a] ∧ Rd H a (.dK kvs) ∧ Q (.int kvs.length) H) ∨ ∃ x n, xs = [x] ∧ LenV K x H n ∧ Q (.int n) H
theorem call_lenA {X : Cx} : CallR X (.builtin "len") (rLenA X.K) := CallR.or call_lenR call_len
theorem rc_lenA : RC K (rLenA K) lenA := by
  intro dk F H st vs ds z w rx hz Q q
  unfold lenA at hz
  split at hz
  · cases hz
    obtain ⟨v, rfl, r⟩ := rx.one
    obtain ⟨p, vs, rfl, hr, hl, r⟩ := r.d w.sub
    refine .inl ⟨p, _, rfl, hr, ?_⟩
    rw [List.length_zip, hl, Nat.min_self, ← hl]
    exact q _ F H (Px.refl w.sub) (.int _)
  · exact .inr (rc_len dk F H st vs _ z w rx hz Q q)
/-! d.get(k), d.get(k, x) -/
def isDicD : D → Option (List Key × List D)
  | .dic ks ds => some (ks, ds)
  | _ => none
theorem isDicD_eq {d : D} {q : List Key × List D} (h : isDicD d = some q) : d = .dic q.1 q.2 := by
  cases d <;> first | (cases h; rfl) | cases h
def get1M (fd fk : ME) : ME := fun env st => (fd env st).bind fun p => (isDicD (dr p.2 p.1)).bind fun _ => (fk env p.2).bind fun q => (isDicD (dr q.2 p.1)).bind fun z => (keyOf q.1).map fun k => ((getK z.1 z.2 k).getD .non, q.2)
theorem im_get1 {td ty : TE} {fd fk : ME} (hd : ImW K td fd) (hk : ImW K ty fk) : Im K (tDGet1 td ty) (get1M fd fk) := fun dk H0 F0 F σ H env st d st' g e Q q => by
  obtain ⟨⟨x, s1⟩, h1, e⟩ := bnd e
  obtain ⟨_, h2, e⟩ := bnd e
  obtain ⟨⟨y, s2⟩, h3, e⟩ := bnd e
  obtain ⟨⟨ks, ds⟩, h4, e⟩ := bnd e
  obtain ⟨k, h5, e⟩ := mpd e
  cases e
  refine hd dk H0 F0 F σ H env st x s1 g h1 _ fun v F1 H1 x1 g1 r1 => ?_
  have r1' := r1.dr g1.wd
  rw [isDicD_eq h2] at r1'
  obtain ⟨p, _, rfl, hr, _, _⟩ := r1'.d g1.wd.sub
  refine ⟨p, rfl, .inl ⟨_, hr⟩, ?_⟩
  refine hk dk H0 F0 F1 σ H1 env s1 y _ g1 h3 _ fun u F2 H2 x2 g2 r2 => ?_
  have r3 := (r1.ext x2).dr g2.wd
  rw [isDicD_eq h4] at r3
  obtain ⟨p', vs, e', hr, hl, r⟩ := r3.d g2.wd.sub
  cases e'
  obtain ⟨i1, i2⟩ := getK_val ks k r hl
  refine ⟨_, .inl ⟨_, k, hr, keyOf_rw r2.w h5, rfl⟩, ?_⟩
  dsimp only at q ⊢
  cases hk : getK ks ds k with
  | none =>
    rw [i2 hk]
    rw [hk] at q
    exact q .non F2 H2 (x1.trans x2) g2 .non
  | some d =>
    obtain ⟨u, hu, ru⟩ := i1 d hk
    rw [hu]
    rw [hk] at q
    exact q u F2 H2 (x1.trans x2) g2 ru
def get2M (fd fk fx : ME) : ME := fun env st => (fd env st).bind fun p => (isDicD (dr p.2 p.1)).bind fun _ => (fk env p.2).bind fun q => (fx env q.2).bind fun r => (isDicD (dr r.2 p.1)).bind fun z => (keyOf q.1).map fun k => ((getK z.1 z.2 k).getD r.1, r.2)
theorem im_get2 {td ty tx : TE} {fd fk fx : ME} (hd : ImW K td fd) (hk : ImW K ty fk) (hx : Im K tx fx) : Im K (tDGet2 td ty tx) (get2M fd fk fx) := fun dk H0 F0 F σ H env st d st' g e Q q => by
  obtain ⟨⟨x, s1⟩, h1, e⟩ := bnd e
  obtain ⟨_, h2, e⟩ := bnd e
  obtain ⟨⟨y, s2⟩, h3, e⟩ := bnd e
  obtain ⟨⟨z, s3⟩, h6, e⟩ := bnd e
  obtain ⟨⟨ks, ds⟩, h4, e⟩ := bnd e
  obtain ⟨k, h5, e⟩ := mpd e
  cases e
  refine hd dk H0 F0 F σ H env st x s1 g h1 _ fun v F1 H1 x1 g1 r1 => ?_
  have r1' := r1.dr g1.wd
  rw [isDicD_eq h2] at r1'
  obtain ⟨p, _, rfl, hr, _, _⟩ := r1'.d g1.wd.sub
  refine ⟨p, rfl, .inl ⟨_, hr⟩, ?_⟩
  refine hk dk H0 F0 F1 σ H1 env s1 y _ g1 h3 _ fun u F2 H2 x2 g2 r2 => ?_
  refine hx dk H0 F0 F2 σ H2 env s2 z _ g2 h6 _ fun w F3 H3 x3 g3 rz => ?_
  have x23 := x2.trans x3
  have r3 := (r1.ext x23).dr g3.wd
  rw [isDicD_eq h4] at r3
  obtain ⟨p', vs, e', hr, hl, r⟩ := r3.d g3.wd.sub
  cases e'
  obtain ⟨i1, i2⟩ := getK_val ks k r hl
  refine ⟨_, .inl ⟨_, k, hr, keyOf_rw (r2.ext x3).w h5, rfl⟩, ?_⟩
  dsimp only at q ⊢
  cases hk : getK ks ds k with
  | none =>
    rw [i2 hk]
    rw [hk] at q
    exact q w F3 H3 (x1.trans x23) g3 rz
  | some d =>
    obtain ⟨u, hu, ru⟩ := i1 d hk
    rw [hu]
    rw [hk] at q
    exact q u F3 H3 (x1.trans x23) g3 ru
/-! d[k] = v, of a name's own dict -/
def dputM (i : Nat) (fk fv : ME) : MS := fun env st => match env[i]? with
  | some (.own (.dic ks, ds)) => (fv env st).bind fun p => (fk env p.2).bind fun q => (keyOf q.1).bind fun k => if ds.length < sizeLine then some (.nx (env.set i (.own (.dic (putKs ks k), putVs ks ds k p.1))), q.2) else none
  | _ => none
theorem is_dput {ty tv : TE} {fk fv : ME} (i : Nat) (hk : ImW K ty fk) (hv : Im K tv fv) : ImS K (sDPut (tVar i) ty tv) (dputM i fk fv) := fun dk H0 F0 F σ H env st fl st' g e E hd => by
  unfold dputM at e
  split at e
  · rename_i ks ds he
    obtain ⟨⟨d, s1⟩, e1, e⟩ := bnd e
    obtain ⟨⟨y, s2⟩, e2, e⟩ := bnd e
    obtain ⟨k, e3, e⟩ := bnd e
    split at e
    · rename_i hz
      cases e
      obtain ⟨p, vs, h1, ⟨h2, h2'⟩, h3, h4, h5, h6, h7⟩ := g.sl i _ he
      refine hv dk H0 F0 F σ H env st d s1 g e1 _ fun v F1 H1 x1 g1 r1 => ?_
      refine ⟨.ref p, join_eq h1, hk dk H0 F0 F1 σ H1 env s1 y s2 g1 e2 _ fun u F2 H2 x2 g2 r2 => ?_⟩
      have x12 := x1.trans x2
      have hl := h7.length
      refine ⟨p, _, rfl, .inl ⟨ks.zip vs, k, x12.h _ _ h2 h5 h6 (.inl h3.2), keyOf_rw r2.w e3, ?_, rfl⟩, ?_⟩
      · rw [List.length_zip, h2', Nat.min_self, hl]; exact hz
      · refine hd F2 σ _ x12.f (g2.mut (ds' := (.dic (putKs ks k), putVs ks ds k d)) (vs' := putVs ks vs k v) he (join_eq h1) ⟨?_, put_len h2'⟩ (putVs_rps (r1.mono x2.f) (h7.mono x12.f)))
        rw [upd_same, put_zip h2']
    · cases e
  · cases e
/-! ### new dicts -/
abbrev MK := Sg → S → Option ((List Key × List D) × S)
def ImK [WW] (K : Fg) (te : TE) (f : MK) : Prop := ∀ (dk : Dk) (H0 : Hp) (F0 F : Fz) (σ : L2.St) (H : Hp) (env : Sg) (st : S) (q : List Key × List D) (st' : S), Good K dk H0 F0 F σ H env st → f env st = some (q, st') →
  ∀ Q : VK, (∀ p vs F' H', Ext dk F H F' H' → Good K dk H0 F0 F' σ H' env st' → H p = none → F'.out p → H' p = some (.dK (q.1.zip vs)) → q.1.length = vs.length → Rps K dk F' vs q.2 → Q (.ref p) H') → te σ H Q
def frzK (f : MK) : ME := fun env st => (f env st).map fun p => (.dic p.1.1 p.1.2, p.2)
theorem ImK.im {te : TE} {f : MK} (h : ImK K te f) : Im K te (frzK f) := fun dk H0 F0 F σ H env st d st' g e Q q => by
  obtain ⟨⟨⟨ks, ds⟩, s1⟩, h1, h2⟩ := mpd e
  cases h2
  refine h dk H0 F0 F σ H env st _ s1 g h1 Q fun p vs F' H' x g' hp fp hl hl2 r => ?_
  have nd := g.nedk hp
  have le : Le F' (F'.up p (.dK (ks.zip vs))) := Le.new fp.1
  exact q (.ref p) _ H' (x.freeze hp fp) (g'.freeze hl fp (g.fresh0 hp) nd.1 nd.2 (g.noown hp)) (.dic Fz.up_same hl2 (r.mono le))
theorem ImK.w {te : TE} {f : MK} (h : ImK K te f) : ImW K te (frzK f) := h.im.w
def ownK (i : Nat) (f : MK) : MS := fun env st => (f env st).map fun p => (.nx (env.set i (.own (.dic p.1.1, p.1.2))), p.2)
theorem is_ownK {te : TE} {f : MK} (i : Nat) (h : ImK K te f) : ImS K (tAsg te (gName i)) (ownK i f) := fun dk H0 F0 F σ H env st fl st' g e E hd => by
  obtain ⟨⟨⟨ks, ds⟩, s1⟩, e1, e⟩ := mpd e
  cases e
  refine h dk H0 F0 F σ H env st _ s1 g e1 _ fun p vs F1 H1 x1 g1 hp fp hl hl2 r => ?_
  have nd := g.nedk hp
  exact hd F1 _ H1 x1.f (g1.setO (ds := (.dic ks, ds)) ⟨hl, hl2⟩ fp (g.fresh0 hp) nd.1 nd.2 (g.noown hp) r)
/-! {k: v, ..} -/
def mrgL {α : Type} : List Key → List α → List (Key × α) → List Key × List α
  | ks, xs, [] => (ks, xs)
  | ks, xs, (k, x) :: r => mrgL (putKs ks k) (putVs ks xs k x) r
theorem mrg_zip : ∀ (kvs : List (Key × V)) (ks : List Key) (vs : List V), ks.length = vs.length → mergeK (ks.zip vs) kvs = (mrgL ks vs kvs).1.zip (mrgL ks vs kvs).2 ∧ (mrgL ks vs kvs).1.length = (mrgL ks vs kvs).2.length
  | [], ks, vs, h => ⟨rfl, h⟩
  | (k, v) :: r, ks, vs, h => by
    have ih := mrg_zip r (putKs ks k) (putVs ks vs k v) (put_len h)
    rw [← put_zip h] at ih
    exact ih
inductive Rpk (K : Fg) (dk : Dk) (F : Fz) : List (Key × V) → List (Key × D) → Prop
  | nil : Rpk K dk F [] []
  | cons {k : Key} {v : V} {d : D} {kvs : List (Key × V)} {kds : List (Key × D)} : Rp K dk F v d → Rpk K dk F kvs kds → Rpk K dk F ((k, v) :: kvs) ((k, d) :: kds)
theorem Rpk.mono (le : Le F F') : ∀ {kvs : List (Key × V)} {kds : List (Key × D)}, Rpk K dk F kvs kds → Rpk K dk F' kvs kds
  | _, _, .nil => .nil
  | _, _, .cons a b => .cons (a.mono le) (Rpk.mono le b)
theorem Rpk.length : ∀ {kvs : List (Key × V)} {kds : List (Key × D)}, Rpk K dk F kvs kds → kvs.length = kds.length
  | _, _, .nil => rfl
  | _, _, .cons a b => by simp [Rpk.length b]
theorem mrg_rps : ∀ {kvs : List (Key × V)} {kds : List (Key × D)} (ks : List Key) {vs : List V} {ds : List D}, Rpk K dk F kvs kds → Rps K dk F vs ds → (mrgL ks vs kvs).1 = (mrgL ks ds kds).1 ∧ Rps K dk F (mrgL ks vs kvs).2 (mrgL ks ds kds).2
  | _, _, ks, _, _, .nil, r => ⟨rfl, r⟩
  | _, _, ks, _, _, .cons a b, r => mrg_rps (putKs ks _) b (putVs_rps a r)
abbrev MP := Sg → S → Option (List (Key × D) × S)
def ImP [WW] (K : Fg) (trs : List (TE × TE)) (f : MP) : Prop := ∀ (dk : Dk) (H0 : Hp) (F0 F : Fz) (σ : L2.St) (H : Hp) (env : Sg) (st : S) (kds : List (Key × D)) (st' : S), Good K dk H0 F0 F σ H env st → f env st = some (kds, st') →
  ∀ Q : List (V × V) → Hp → Prop, (∀ kvs F' H', Ext dk F H F' H' → Good K dk H0 F0 F' σ H' env st' → Rpk K dk F' kvs kds → Q (kvs.map fun kv => (kV kv.1, kv.2)) H') → tPairs trs σ H Q
def pNil : MP := fun _ st => some ([], st)
theorem ip_nil : ImP K [] pNil := fun dk H0 F0 F σ H env st kds st' g e Q q => by
  cases e
  exact q [] F H (Ext.refl F H) g .nil
def pCons (fk fv : ME) (r : MP) : MP := fun env st => (fk env st).bind fun p => (keyOf p.1).bind fun k => (fv env p.2).bind fun q => (r env q.2).map fun z => ((k, q.1) :: z.1, z.2)
theorem ip_cons {tk tv : TE} {trs : List (TE × TE)} {fk fv : ME} {r : MP} (hk : Im K tk fk) (hv : Im K tv fv) (hr : ImP K trs r) : ImP K ((tk, tv) :: trs) (pCons fk fv r) := fun dk H0 F0 F σ H env st kds st' g e Q q => by
  obtain ⟨⟨y, s1⟩, e1, e⟩ := bnd e
  obtain ⟨k, e2, e⟩ := bnd e
  obtain ⟨⟨d, s2⟩, e3, e⟩ := bnd e
  obtain ⟨⟨kds', s3⟩, e4, e⟩ := mpd e
  cases e
  refine hk dk H0 F0 F σ H env st y s1 g e1 _ fun v F1 H1 x1 g1 r1 => ?_
  refine hv dk H0 F0 F1 σ H1 env s1 d s2 g1 e3 _ fun u F2 H2 x2 g2 r2 => ?_
  refine hr dk H0 F0 F2 σ H2 env s2 kds' _ g2 e4 _ fun kvs F3 H3 x3 g3 r3 => ?_
  have := q ((k, u) :: kvs) F3 H3 (x1.trans (x2.trans x3)) g3 (.cons (r2.mono x3.f) r3)
  rw [List.map_cons] at this
  have hv : v = kV k := keyOf_rw (H := H1) (.rp r1) e2
  rw [hv]
  exact this
def dispK (f : MP) : MK := fun env st => (f env st).bind fun p => if p.1.length ≤ 15 then some (mrgL [] [] p.1, p.2) else none
theorem ik_disp {trs : List (TE × TE)} {f : MP} (h : ImP K trs f) : ImK K (tDisp trs) (dispK f) := fun dk H0 F0 F σ H env st kd st' g e Q q => by
  obtain ⟨⟨kds, s1⟩, e1, e⟩ := bnd e
  dsimp only at e
  split at e
  · rename_i hz
    cases e
    intro p hp
    have nd := g.nedk hp
    have px : Px F H F (upd H p (.dK [])) := Px.lay g.wd.sub hp
    have fp := g.wd.out hp
    refine h dk H0 F0 F σ _ env st kds _ (g.px px) e1 _ fun kvs F1 H1 x1 g1 r1 => ?_
    have h1 : H1 p = some (.dK []) := x1.h _ _ upd_same nd.1 nd.2 (.inl fp.2)
    have f1 : F1.out p := x1.out fp (nn upd_same)
    have no := g.noown hp
    refine ⟨h1, kvs, rfl, by rw [r1.length]; exact hz, ?_⟩
    have g2 : Good K dk H0 F0 F1 σ (upd H1 p (.dK (mergeK [] kvs))) env st' := g1.mutT h1 f1 (g.fresh0 hp) nd.1 nd.2 no
    obtain ⟨z1, z2⟩ := mrg_zip kvs [] [] rfl
    obtain ⟨y1, y2⟩ := mrg_rps (K := K) (dk := dk) (F := F1) [] r1 Rps.nil
    refine q p (mrgL [] [] kvs).2 F1 _ ?_ g2 hp f1 (by rw [upd_same, ← y1]; exact congrArg (fun z => some (HO.dK z)) z1) (by rw [← y1]; exact z2) y2
    exact (px.ext.trans x1).upd hp
  · cases e
/-- {} -/
def newK : MK := fun env st => some (([], []), st)
theorem ik_new : ImK K tDNewK newK := fun dk H0 F0 F σ H env st kd st' g e Q q => by
  cases e
  intro p hp
  have px : Px F H F (upd H p (.dK [])) := Px.lay g.wd.sub hp
  exact q p [] F _ px.ext (g.px px) hp (g.wd.out hp) upd_same rfl .nil
/-- dict(d) -/
def cpyK (f : ME) : MK := fun env st => (f env st).bind fun p => (isDicD (dr p.2 p.1)).map fun q => (q, p.2)
theorem ik_cpy {te : TE} {f : ME} (h : ImW K te f) : ImK K (tCB (fun xs H Q => ∃ (a : Addr) (kvs : List (Key × V)), xs = [.ref a] ∧ Rd H a (.dK kvs) ∧ ∀ p, H p = none → Q (.ref p) (upd H p (.dK kvs))) (tCons te tNil)) (cpyK f) := fun dk H0 F0 F σ H env st kd st' g e Q q => by
  obtain ⟨⟨x, s1⟩, h1, e⟩ := bnd e
  obtain ⟨⟨ks, ds⟩, h2, e⟩ := mpd e
  cases e
  refine h dk H0 F0 F σ H env st x s1 g h1 _ fun v F1 H1 x1 g1 r1 => ?_
  have r3 := r1.dr g1.wd
  rw [isDicD_eq h2] at r3
  obtain ⟨p, vs, rfl, hr, hl, r⟩ := r3.d g1.wd.sub
  refine ⟨p, _, rfl, hr, fun p' hp => ?_⟩
  have px : Px F1 H1 F1 (upd H1 p' (.dK (ks.zip vs))) := Px.lay g1.wd.sub hp
  exact q p' vs F1 _ (x1.trans px.ext) (g1.px px) (x1.back hp) (g1.wd.out hp) upd_same hl r
end
end MD

set_option Elab.async false
set_option linter.all false
set_option maxRecDepth 100000
set_option maxHeartbeats 1000000
namespace MD
open PySem L2
variable {ww : WW}

/-! ### things of the store, changed -/
def S.put (st : S) (n : Nat) (o : Ob) : S := { st with ob := st.ob.set n o }
section
variable {K : Fg} {dk : Dk} {F F' F0 : Fz} {H H' H0 : Hp} {σ σ' : L2.St} {env env' : Sg} {st st' st'' : S}
theorem mu_lt {n : Nat} {a : Addr} (h : F.mu[n]? = some a) : n < F.mu.length := by
  by_cases hl : n < F.mu.length
  · exact hl
  · rw [List.getElem?_eq_none (by omega)] at h; cases h
theorem Wd.ndk (w : Wd K dk F H st) {a : Addr} (h : a ∈ F.mu) : a ≠ dk.1 ∧ a ≠ dk.2 := ⟨fun z => w.f1.2 (z ▸ h), fun z => w.f2.2 (z ▸ h)⟩
theorem Wd.put {n : Nat} {a : Addr} {o' : HO} {ob' : Ob} (w : Wd K dk F H st) (hn : F.mu[n]? = some a) (ho : ObAt K dk F (L2.upd H a o') a ob') : Wd K dk F (L2.upd H a o') (st.put n ob') := by
  have hm := List.mem_of_getElem? hn
  obtain ⟨n1, n2⟩ := w.ndk hm
  have hln := mu_lt hn
  obtain ⟨fa, _⟩ := w.ob n a _ hn (List.getElem?_eq_getElem (by rw [← w.ml]; exact hln))
  refine ⟨fun b u e => ?_, by rw [upd_ne n1.symm]; exact w.d1, by rw [upd_ne n2.symm]; exact w.d2, w.f1, w.f2, w.ne, by rw [w.ml]; simp [S.put], w.nd, fun m b u h1 h2 => ?_⟩
  · rw [upd_ne (ne_of_none e fa)]; exact w.sub b u e
  · by_cases hmn : n = m
    · subst hmn
      rw [hn] at h1; cases h1
      have h2' : (st.ob.set n ob')[n]? = some u := h2
      rw [List.getElem?_set_self (by rw [← w.ml]; exact hln)] at h2'
      cases h2'
      exact ⟨fa, ho⟩
    · have h2' : (st.ob.set n ob')[m]? = some u := h2
      rw [List.getElem?_set_ne hmn] at h2'
      obtain ⟨q1, q2⟩ := w.ob m b u h1 h2'
      have nb : b ≠ a := fun z => hmn (by
        subst z
        exact (List.getElem?_inj hln w.nd).mp (hn.trans h1.symm))
      exact ⟨q1, q2.keep (fun _ e => by rw [upd_ne nb]; exact e) (Le.refl F)⟩
theorem Ext.put {n : Nat} {a : Addr} {o o' : HO} (x : Ext dk F0 H0 F H) (hn : F.mu[n]? = some a) (ha : H a = some o) (nf : ¬ Fro o) (nf' : ¬ Fro o') : Ext dk F0 H0 F (L2.upd H a o') := by
  have hm := List.mem_of_getElem? hn
  refine ⟨fun b u e n1 n2 n3 => ?_, x.f, x.n, fun b e z => ?_, x.u, fun b u e f => x.k b u (updK nf' b u e f) f⟩
  · have e' := x.h b u e n1 n2 n3
    by_cases nb : b = a
    · subst nb
      rw [ha] at e'; cases e'
      rcases n3 with n3 | n3
      · rcases x.u b hm with q | q
        · exact absurd q n3
        · rw [q] at e; cases e
      · exact absurd n3 nf
    · rw [upd_ne nb]; exact e'
  · by_cases nb : b = a
    · subst nb; rw [upd_same] at z; cases z
    · rw [upd_ne nb] at z; exact x.m b e z
theorem Good.put {n : Nat} {a : Addr} {o o' : HO} {ob' : Ob} (g : Good K dk H0 F0 F σ H env st) (hn : F.mu[n]? = some a) (ha : H a = some o) (nf : ¬ Fro o) (ho : ObAt K dk F (upd H a o') a ob')
    (nf' : ¬ Fro o' := by rintro ⟨_, _, z⟩; cases z) : Good K dk H0 F0 F σ (upd H a o') env (st.put n ob') := by
  refine ⟨g.wd.put hn ho, g.ext.put hn ha nf nf', g.len, fun i s e => ?_, g.dis⟩
  have q := g.sl i s e
  cases s with
  | un => trivial
  | val d => exact q
  | own ds =>
    obtain ⟨p, vs, h1, h2, h3, h4⟩ := q
    have np : p ≠ a := fun z => h3.2 (z ▸ List.mem_of_getElem? hn)
    exact ⟨p, vs, h1, h2.keep fun o e => by rw [upd_ne np]; exact e, h3, h4⟩
/-! new things of the store -/
def Fz.ad (F : Fz) (p : Addr) : Fz := ⟨F.hp, F.mu ++ [p]⟩
def S.ad (st : S) (o : Ob) : S := { st with ob := st.ob ++ [o] }
theorem Le.ad {p : Addr} : Le F (F.ad p) := ⟨Lh.refl _, [p], rfl⟩
theorem Good.ad {p : Addr} {o : HO} {ob : Ob} (g : Good K dk H0 F0 F σ H env st) (hp : H p = some o) (fp : F.out p) (h0 : H0 p = none) (n1 : p ≠ dk.1) (n2 : p ≠ dk.2)
    (no : ∀ (i : Nat) (ds : Own), env[i]? = some (.own ds) → σ[i]? ≠ some (some (.ref p))) (ho : ObAt K dk (F.ad p) H p ob) : Good K dk H0 F0 (F.ad p) σ H env (st.ad ob) := by
  have le : Le F (F.ad p) := Le.ad
  have w := g.wd
  refine ⟨⟨w.sub, w.d1, w.d2, ⟨w.f1.1, fun z => ?_⟩, ⟨w.f2.1, fun z => ?_⟩, w.ne, ?_, ?_, fun n a u h1 h2 => ?_⟩, ⟨g.ext.h, g.ext.f.trans le, g.ext.n, g.ext.m, fun a ha => ?_, g.ext.k⟩, g.len, fun i s e => ?_, g.dis⟩
  · rcases List.mem_append.mp z with z | z
    · exact w.f1.2 z
    · exact n1 (List.mem_singleton.mp z).symm
  · rcases List.mem_append.mp z with z | z
    · exact w.f2.2 z
    · exact n2 (List.mem_singleton.mp z).symm
  · simp [Fz.ad, S.ad, w.ml]
  · show (F.mu ++ [p]).Nodup
    rw [List.nodup_append]
    refine ⟨w.nd, by simp, fun a ha b hb z => fp.2 ?_⟩
    rw [List.mem_singleton.mp hb] at z
    exact z ▸ ha
  · have h1' : (F.mu ++ [p])[n]? = some a := h1
    have h2' : (st.ob ++ [ob])[n]? = some u := h2
    by_cases hl : n < F.mu.length
    · rw [List.getElem?_append_left hl] at h1'
      rw [List.getElem?_append_left (by rw [← w.ml]; exact hl)] at h2'
      obtain ⟨q1, q2⟩ := w.ob n a u h1' h2'
      exact ⟨q1, q2.keep (fun _ e => e) le⟩
    · have hn : n = F.mu.length := by
        have := mu_lt h1
        simp [Fz.ad] at this
        omega
      subst hn
      rw [List.getElem?_append_right (Nat.le_refl _), Nat.sub_self] at h1'
      rw [w.ml, List.getElem?_append_right (Nat.le_refl _), Nat.sub_self] at h2'
      cases h1'; cases h2'
      exact ⟨fp.1, ho⟩
  · have ha' : a ∈ F.mu ++ [p] := ha
    rcases List.mem_append.mp ha' with z | z
    · exact g.ext.u a z
    · rw [List.mem_singleton.mp z]; exact .inr h0
  · have q := g.sl i s e
    cases s with
    | un => trivial
    | val d => obtain ⟨v, h1, h2⟩ := q; exact ⟨v, h1, h2.mono le⟩
    | own ds =>
      obtain ⟨r, vs, h1, h2, h3, h4, h5, h6, h7⟩ := q
      have nr : r ≠ p := fun z => no i ds e (by rw [← z]; exact join_eq h1)
      refine ⟨r, vs, h1, h2, ⟨h3.1, fun z => ?_⟩, h4, h5, h6, h7.mono le⟩
      rcases List.mem_append.mp z with z | z
      · exact h3.2 z
      · exact nr (List.mem_singleton.mp z)
theorem Ext.ad {p : Addr} (x : Ext dk F H F' H') (hp : H p = none) : Ext dk F H (F'.ad p) H' :=
  ⟨x.h, x.f.trans Le.ad, x.n, x.m, fun a ha => by
    have ha' : a ∈ F'.mu ++ [p] := ha
    rcases List.mem_append.mp ha' with z | z
    · exact x.u a z
    · rw [List.mem_singleton.mp z]; exact .inr hp, x.k⟩
theorem ad_at (w : Wd K dk F H st) (p : Addr) : (F.ad p).mu[st.ob.length]? = some p := by
  show (F.mu ++ [p])[st.ob.length]? = some p
  rw [← w.ml, List.getElem?_append_right (Nat.le_refl _), Nat.sub_self]; rfl
/-- a new list, a new dict for the store -/
def stoL (f : MA) : ME := fun env st => (f env st).map fun p => (.ref p.2.ob.length, p.2.ad (.lst p.1))
theorem ImF.sto {te : TE} {f : MA} (h : ImF K te f) : Im K te (stoL f) := fun dk H0 F0 F σ H env st d st' g e Q q => by
  obtain ⟨⟨ds, s1⟩, h1, h2⟩ := mpd e
  cases h2
  refine h dk H0 F0 F σ H env st ds s1 g h1 Q fun p vs F' H' x g' hp fp hl r => ?_
  have nd := g.nedk hp
  exact q (.ref p) _ H' (x.ad hp) (g'.ad hl fp (g.fresh0 hp) nd.1 nd.2 (g.noown hp) (.lst hl (r.mono Le.ad))) (.ref (ad_at g'.wd p))
def stoK (f : MK) : ME := fun env st => (f env st).map fun p => (.ref p.2.ob.length, p.2.ad (.dic false p.1.1 p.1.2))
theorem ImK.sto {te : TE} {f : MK} (h : ImK K te f) : Im K te (stoK f) := fun dk H0 F0 F σ H env st d st' g e Q q => by
  obtain ⟨⟨⟨ks, ds⟩, s1⟩, h1, h2⟩ := mpd e
  cases h2
  refine h dk H0 F0 F σ H env st _ s1 g h1 Q fun p vs F' H' x g' hp fp hl hl2 r => ?_
  have nd := g.nedk hp
  exact q (.ref p) _ H' (x.ad hp) (g'.ad hl fp (g.fresh0 hp) nd.1 nd.2 (g.noown hp) (.dic hl hl2 (r.mono Le.ad))) (.ref (ad_at g'.wd p))
/-! e.append(x), e[k] = x, of a thing of the store -/
def refOf : D → Option Nat
  | .ref n => some n
  | _ => none
theorem refOf_eq {d : D} {n : Nat} (h : refOf d = some n) : d = .ref n := by
  cases d <;> first | (cases h; rfl) | cases h
def lstAt (st : S) (n : Nat) : Option (List D) := match st.ob[n]? with
  | some (.lst ds) => some ds
  | _ => none
theorem lstAt_eq {n : Nat} {ds : List D} (h : lstAt st n = some ds) : st.ob[n]? = some (.lst ds) := by
  unfold lstAt at h
  split at h
  · rename_i e; cases h; exact e
  · cases h
def dicAt (st : S) (n : Nat) : Option (List Key × List D) := match st.ob[n]? with
  | some (.dic false ks ds) => some (ks, ds)
  | _ => none
theorem dicAt_eq {n : Nat} {q : List Key × List D} (h : dicAt st n = some q) : st.ob[n]? = some (.dic false q.1 q.2) := by
  unfold dicAt at h
  split at h
  · rename_i e; cases h; exact e
  · cases h
theorem Wd.lstAt {n : Nat} {a : Addr} {ds : List D} (w : Wd K dk F H st) (hn : F.mu[n]? = some a) (h : lstAt st n = some ds) : ∃ vs, H a = some (.lst vs) ∧ Rps K dk F vs ds := by
  obtain ⟨_, q⟩ := w.ob n a _ hn (lstAt_eq h)
  cases q with
  | lst h r => exact ⟨_, h, r⟩
theorem Wd.dicAt {n : Nat} {a : Addr} {q : List Key × List D} (w : Wd K dk F H st) (hn : F.mu[n]? = some a) (h : dicAt st n = some q) : ∃ vs, H a = some (.dK (q.1.zip vs)) ∧ q.1.length = vs.length ∧ Rps K dk F vs q.2 := by
  obtain ⟨_, q⟩ := w.ob n a _ hn (dicAt_eq h)
  cases q with
  | dic h l r => exact ⟨_, h, l, r⟩
theorem Rp.refn {v : V} {n : Nat} (r : Rp K dk F v (.ref n)) : ∃ a, v = .ref a ∧ F.mu[n]? = some a := by
  cases r with
  | ref h => exact ⟨_, rfl, h⟩
def sappM (fo f : ME) : MS := fun env st => (fo env st).bind fun o => (refOf o.1).bind fun n => (lstAt o.2 n).bind fun _ => (f env o.2).bind fun p => (lstAt p.2 n).bind fun ds => if ds.length < sizeLine then some (.nx env, p.2.put n (.lst (ds ++ [p.1]))) else none
theorem is_sapp {to te : TE} {fo f : ME} (ho : Im K to fo) (h : Im K te f) : ImS K (tDrop (tBM K "list" rAppend to (tCons te tNil))) (sappM fo f) := fun dk H0 F0 F σ H env st fl st' g e E hd => by
  obtain ⟨⟨x, s1⟩, h1, e⟩ := bnd e
  obtain ⟨n, h2, e⟩ := bnd e
  obtain ⟨_, h0, e⟩ := bnd e
  obtain ⟨⟨d, s2⟩, h3, e⟩ := bnd e
  obtain ⟨ds, h4, e⟩ := bnd e
  split at e
  · rename_i hz
    cases e
    refine ho dk H0 F0 F σ H env st x s1 g h1 _ fun v F1 H1 x1 g1 r1 => ?_
    have hx : x = .ref n := refOf_eq h2
    subst hx
    obtain ⟨a, rfl, ha⟩ := r1.refn
    obtain ⟨vs0, hv0, _⟩ := g1.wd.lstAt ha h0
    refine ⟨.inl ⟨rfl, vs0, SqL.of hv0⟩, ?_⟩
    refine h dk H0 F0 F1 σ H1 env s1 d s2 g1 h3 _ fun u F2 H2 x2 g2 r2 => ?_
    have ha2 := x2.f.at ha
    obtain ⟨vs, hv, rv⟩ := g2.wd.lstAt ha2 h4
    refine ⟨a, vs, u, rfl, rfl, hv, by rw [rv.length]; exact hz, ?_⟩
    exact hd F2 σ _ (x1.f.trans x2.f) (g2.put ha2 hv (by rintro ⟨_, _, z⟩; cases z) (.lst upd_same (rv.append (Rps.one r2))))
  · cases e
def sputM (fo fk fv : ME) : MS := fun env st => (fv env st).bind fun p => (fo env p.2).bind fun o => (refOf o.1).bind fun n => (fk env o.2).bind fun q => (keyOf q.1).bind fun k => (dicAt q.2 n).bind fun z => if z.2.length < sizeLine then some (.nx env, q.2.put n (.dic false (putKs z.1 k) (putVs z.1 z.2 k p.1))) else none
theorem is_sput {to ty tv : TE} {fo fk fv : ME} (ho : Im K to fo) (hk : ImW K ty fk) (hv : Im K tv fv) : ImS K (sDPut to ty tv) (sputM fo fk fv) := fun dk H0 F0 F σ H env st fl st' g e E hd => by
  obtain ⟨⟨d, s1⟩, h1, e⟩ := bnd e
  obtain ⟨⟨x, s2⟩, h2, e⟩ := bnd e
  obtain ⟨n, h3, e⟩ := bnd e
  obtain ⟨⟨y, s3⟩, h4, e⟩ := bnd e
  obtain ⟨k, h5, e⟩ := bnd e
  obtain ⟨⟨ks, ds⟩, h6, e⟩ := bnd e
  split at e
  · rename_i hz
    cases e
    refine hv dk H0 F0 F σ H env st d s1 g h1 _ fun v F1 H1 x1 g1 r1 => ?_
    refine ho dk H0 F0 F1 σ H1 env s1 x s2 g1 h2 _ fun u F2 H2 x2 g2 r2 => ?_
    have hx : x = .ref n := refOf_eq h3
    subst hx
    obtain ⟨a, rfl, ha⟩ := r2.refn
    refine hk dk H0 F0 F2 σ H2 env s2 y s3 g2 h4 _ fun w F3 H3 x3 g3 r3 => ?_
    have ha3 := x3.f.at ha
    obtain ⟨vs, hvs, hl, rv⟩ := g3.wd.dicAt ha3 h6
    refine ⟨a, _, rfl, .inl ⟨ks.zip vs, k, hvs, keyOf_rw r3.w h5, ?_, rfl⟩, ?_⟩
    · have := rv.length
      rw [List.length_zip, hl, Nat.min_self, this]; exact hz
    · refine hd F3 σ _ (x1.f.trans (x2.f.trans x3.f)) (g3.put ha3 hvs (by rintro ⟨_, _, z⟩; cases z) ?_)
      exact .dic (by rw [upd_same]; exact congrArg (fun z => some (HO.dK z)) (put_zip hl)) (put_len hl) (putVs_rps (r1.mono (x2.f.trans x3.f)) rv)
  · cases e
/-! ### locks -/
theorem Good.lock {a : Addr} {od : Obj} {u : HO} (g : Good K dk H0 F0 F σ H env st) (no : ∀ (i : Nat) (ds : Own), env[i]? = some (.own ds) → σ[i]? ≠ some (some (.ref a))) (w : Wd K dk F (upd H a (.frz od u)) st') :
    Good K dk (upd H0 a (.frz od u)) F F σ (upd H a (.frz od u)) env st' := by
  refine ⟨w, ⟨fun b o e n1 n2 n3 => ?_, Le.refl F, fun _ h _ => h, fun b e z => ?_, fun _ h => .inl h, fun b o e f => ?_⟩, g.len, fun i s e => ?_, g.dis⟩
  · by_cases nb : b = a
    · subst nb; rw [upd_same] at e ⊢; exact e
    · rw [upd_ne nb] at e ⊢
      exact g.ext.h b o e n1 n2 (n3.imp (fun n3 z => n3 (g.ext.f.mem z)) id)
  · by_cases nb : b = a
    · subst nb; rw [upd_same] at z; cases z
    · rw [upd_ne nb] at e z; exact g.ext.m b e z
  · by_cases nb : b = a
    · subst nb; rw [upd_same] at e ⊢; exact e
    · rw [upd_ne nb] at e ⊢; exact g.ext.k b o e f
  · have q := g.sl i s e
    cases s with
    | un => trivial
    | val d => exact q
    | own ds =>
      obtain ⟨p, vs, h1, h2, h3, h4, h5⟩ := q
      have np : p ≠ a := fun z => no i ds e (by rw [← z]; exact join_eq h1)
      exact ⟨p, vs, h1, h2.keep fun o e => by rw [upd_ne np]; exact e, h3, by rw [upd_ne np]; exact h4, h5⟩
theorem Ext.unlock {a : Addr} {od : Obj} {u : HO} (x : Ext dk F0 H0 F H) (ha : H a = some u) (nf : ¬ Fro u) (y : Ext dk F (L2.upd H0 a (.frz od u)) F' H') : Ext dk F0 H0 F' (L2.upd H' a u) := by
  refine ⟨fun b o e n1 n2 n3 => ?_, x.f.trans y.f, fun b h1 h2 => ?_, fun b e z => ?_, fun b h => ?_, fun b o e f => ?_⟩
  · by_cases nb : b = a
    · subst nb
      have e' := x.h b o e n1 n2 n3
      rw [ha] at e'; rw [upd_same]; exact e'
    · rw [upd_ne nb]
      refine y.h b o (by rw [upd_ne nb]; exact e) n1 n2 (n3.imp (fun n3 z => ?_) id)
      rcases x.u b z with q | q
      · exact n3 q
      · rw [q] at e; cases e
  · refine y.n b (x.n b h1 h2) ?_
    by_cases nb : b = a
    · subst nb; rw [upd_same]; exact fun z => nomatch z
    · rw [upd_ne nb]; exact h2
  · by_cases nb : b = a
    · subst nb; rw [upd_same] at z; cases z
    · rw [upd_ne nb] at z; exact y.m b (by rw [upd_ne nb]; exact e) z
  · rcases y.u b h with q | q
    · exact x.u b q
    · refine .inr ?_
      by_cases nb : b = a
      · subst nb; rw [upd_same] at q; cases q
      · rw [upd_ne nb] at q; exact q
  · by_cases nb : b = a
    · subst nb; rw [upd_same] at e; cases e; exact absurd f nf
    · rw [upd_ne nb] at e
      have := y.k b o e f
      rw [upd_ne nb] at this; exact this
theorem Good.unlock {a : Addr} {od : Obj} {u : HO} (g : Good K dk H0 F0 F σ H env st) (ha : H a = some u) (nf : ¬ Fro u) (g' : Good K dk (upd H0 a (.frz od u)) F F' σ' H' env' st') (w : Wd K dk F' (upd H' a u) st'') : Good K dk H0 F0 F' σ' (upd H' a u) env' st'' := by
  refine ⟨w, g.ext.unlock ha nf g'.ext, g'.len, fun i s e => ?_, g'.dis⟩
  have q := g'.sl i s e
  cases s with
  | un => trivial
  | val d => exact q
  | own ds =>
    obtain ⟨p, vs, h1, h2, h3, h4, h5⟩ := q
    have np : p ≠ a := fun z => by rw [z, upd_same] at h4; cases h4
    exact ⟨p, vs, h1, h2.keep fun o e => by rw [upd_ne np]; exact e, h3, by rw [upd_ne np] at h4; exact h4, h5⟩
/-- what is locked stays -/
theorem Good.stays {a : Addr} {od : Obj} {u : HO} (g : Good K dk H0 F0 F σ H env st) (ha : H a = some (.frz od u)) (g' : Good K dk H0 F0 F' σ' H' env' st') : H' a = some (.frz od u) := by
  have n1 : a ≠ dk.1 := fun z => by rw [z, g.wd.d1] at ha; cases ha
  have n2 : a ≠ dk.2 := fun z => by rw [z, g.wd.d2] at ha; cases ha
  exact g'.ext.h _ _ (g.ext.k _ _ ha ⟨_, _, rfl⟩) n1 n2 (.inr ⟨_, _, rfl⟩)
theorem Wd.lockF {a : Addr} {od : Obj} {kvs : List (Key × V)} (w : Wd K dk F H st) (ha : F a = some (.dK kvs)) : Wd K dk F (L2.upd H a (.frz od (.dK kvs))) st := by
  have n1 : a ≠ dk.1 := fun z => by rw [z, w.f1.1] at ha; cases ha
  have n2 : a ≠ dk.2 := fun z => by rw [z, w.f2.1] at ha; cases ha
  refine ⟨fun b u e => ?_, by rw [upd_ne n1.symm]; exact w.d1, by rw [upd_ne n2.symm]; exact w.d2, w.f1, w.f2, w.ne, w.ml, w.nd, fun m b u h1 h2 => ?_⟩
  · by_cases nb : b = a
    · subst nb; rw [ha] at e; cases e; rw [upd_same]; exact .inr ⟨od, kvs, rfl, rfl⟩
    · rw [upd_ne nb]; exact w.sub b u e
  · obtain ⟨q1, q2⟩ := w.ob m b u h1 h2
    have nb : b ≠ a := fun z => by rw [z, ha] at q1; cases q1
    exact ⟨q1, q2.keep (fun _ e => by rw [upd_ne nb]; exact e) (Le.refl F)⟩
theorem Wd.unlockF {a : Addr} {kvs : List (Key × V)} (w : Wd K dk F H st) (ha : F a = some (.dK kvs)) : Wd K dk F (L2.upd H a (.dK kvs)) st := by
  have n1 : a ≠ dk.1 := fun z => by rw [z, w.f1.1] at ha; cases ha
  have n2 : a ≠ dk.2 := fun z => by rw [z, w.f2.1] at ha; cases ha
  refine ⟨fun b u e => ?_, by rw [upd_ne n1.symm]; exact w.d1, by rw [upd_ne n2.symm]; exact w.d2, w.f1, w.f2, w.ne, w.ml, w.nd, fun m b u h1 h2 => ?_⟩
  · by_cases nb : b = a
    · subst nb; rw [ha] at e; cases e; rw [upd_same]; exact .inl rfl
    · rw [upd_ne nb]; exact w.sub b u e
  · obtain ⟨q1, q2⟩ := w.ob m b u h1 h2
    have nb : b ≠ a := fun z => by rw [z, ha] at q1; cases q1
    exact ⟨q1, q2.keep (fun _ e => by rw [upd_ne nb]; exact e) (Le.refl F)⟩
/-! ### loops -/
/-- a loop over a walk that is good as long as all is good -/
theorem for_core {g : TG} {tb : TS} {t : MG} {b : MS} {is : List Nat} {ds : List D} {fl : Fl} {J : It} {E : Ends} (hg : ImG K g t is) (hb : ImS K tb b) (gd : Good K dk H0 F0 F σ H env st)
    (sd : ∀ (F2 : Fz) (σ2 : L2.St) (H2 : Hp) (env2 : Sg) (st2 : S), Le F F2 → Good K dk H0 F0 F2 σ2 H2 env2 st2 → ∀ i : Nat, (∀ d, ds[i]? = some d → J.go i H2 ∧ ∀ x H3, J.yld i H2 x H3 → ∃ F3, Px F2 H2 F3 H3 ∧ Rp K dk F3 x d) ∧ (ds.length ≤ i → J.stop i H2))
    (e : forL t b ds env st = some (fl, st')) (hd : Dn K dk H0 F0 F E st' fl) : ∀ (R : Prop), ((∃ W : Nat → Nat → L2.St → Hp → Prop, (∃ m, W 0 m σ H) ∧ ∀ i m σ H, W i m σ H → (J.stop i H ∧ E.nx σ H) ∨ (J.go i H ∧ ∃ Nx : L2.St → Hp → Prop, (∀ σ' H', Nx σ' H' → ∃ m', m' < m ∧ W (i + 1) m' σ' H') ∧ ∀ x H', J.yld i H x H' → g x σ H' fun σ2 H2 => tb ⟨Nx, E.rt, E.nx, Nx⟩ σ2 H2)) → R) → R := by
  intro R hR
  refine hR ?_
  let P : Nat → L2.St → Hp → Prop := fun i σ H => ∃ F2 env st, Le F F2 ∧ Good K dk H0 F0 F2 σ H env st ∧ forL t b (ds.drop i) env st = some (fl, st')
  refine ⟨fun i m σ H => m = ds.length - i ∧ i ≤ ds.length ∧ P i σ H, ⟨_, rfl, Nat.zero_le _, F, env, st, Le.refl F, gd, e⟩, ?_⟩
  rintro i m σ2 H2 ⟨rfl, hle, F2, env2, s2, le2, g2, e2⟩
  by_cases hlt : i < ds.length
  · have hdi : ds[i]? = some ds[i] := List.getElem?_eq_getElem hlt
    obtain ⟨hgo, hy⟩ := (sd F2 σ2 H2 env2 s2 le2 g2 i).1 _ hdi
    refine .inr ⟨hgo, P (i + 1), fun σ' H' hp => ⟨_, by omega, rfl, hlt, hp⟩, fun x H3 hx => ?_⟩
    obtain ⟨F3, px, rx⟩ := hy x H3 hx
    have g3 := g2.px px
    rw [List.drop_eq_getElem_cons hlt] at e2
    obtain ⟨env3, e3, e2⟩ := bnd e2
    obtain ⟨⟨fl3, s3⟩, e4, e2⟩ := bnd e2
    refine hg dk H0 F0 F3 σ2 H3 env2 s2 x _ env3 g3 rx e3 _ fun σ4 g4 _ => ?_
    refine hb dk H0 F0 F3 σ4 H3 env3 s2 fl3 s3 g4 e4 _ ?_
    cases fl3 with
    | nx e5 => exact fun F5 σ5 H5 l5 g5 => ⟨F5, e5, s3, (le2.trans px.f).trans l5, g5, e2⟩
    | ct e5 => exact fun F5 σ5 H5 l5 g5 => ⟨F5, e5, s3, (le2.trans px.f).trans l5, g5, e2⟩
    | bk e5 =>
      cases e2
      exact fun F5 σ5 H5 l5 g5 => hd F5 σ5 H5 ((le2.trans px.f).trans l5) g5
    | rt r =>
      cases e2
      exact hd
  · have ei : i = ds.length := by omega
    subst ei
    rw [List.drop_length] at e2
    cases e2
    exact .inl ⟨(sd F2 σ2 H2 env2 _ le2 g2 ds.length).2 (Nat.le_refl _), hd F2 σ2 H2 le2 g2⟩
end
end MD

set_option Elab.async false
set_option linter.all false
set_option maxRecDepth 100000
set_option maxHeartbeats 1000000
namespace MD
open PySem L2
variable {ww : WW}

/-- the walk goes through these data, while what stood stays -/
def StdyX [WW] (K : Fg) (dk : Dk) (F : Fz) (H : Hp) (J : It) (ds : List D) : Prop := ∀ (F1 : Fz) (H1 : Hp) (st : S), Le F F1 → Ext dk F H F1 H1 → Wd K dk F1 H1 st → ∀ i : Nat,
  (∀ d, ds[i]? = some d → J.go i H1 ∧ ∀ x H2, J.yld i H1 x H2 → ∃ F2, Px F1 H1 F2 H2 ∧ Rp K dk F2 x d) ∧ (ds.length ≤ i → J.stop i H1)
def ImIX [WW] (K : Fg) (wi : TI) (f : MI) : Prop := ∀ (dk : Dk) (H0 : Hp) (F0 F : Fz) (σ : L2.St) (H : Hp) (env : Sg) (st : S) (ds : List D) (st' : S), Good K dk H0 F0 F σ H env st → f env st = some (ds, st') →
  ∀ R : It → Hp → Prop, (∀ J F' H', Ext dk F H F' H' → Good K dk H0 F0 F' σ H' env st' → StdyX K dk F' H' J ds → R J H') → wi σ H R
section
variable {K : Fg} {dk : Dk} {F F' F0 : Fz} {H H' H0 : Hp} {σ σ' : L2.St} {env env' : Sg} {st st' st'' : S}
theorem if_compX {wi : TI} {g : TG} {tt : TT} {te : TE} {vs : List Nat} {it : MI} {t : MG} {c : MT} {f : ME} {is : List Nat} (hi : ImIX K wi it) (hg : ImG K g t is) (ht : ImT K tt c) (he : Im K te f) (hv : ∀ i ∈ is, i ∈ vs) :
    ImF K (tLc wi g tt te vs) (compM it t c f vs) := fun dk H0 F0 F σ H env st out st' gd e Q q => by
  obtain ⟨⟨ds, s1⟩, e1, e⟩ := bnd e
  replace e : (if ds.length ≤ sizeLine then compL t c f (wipeE env vs) ds s1 else none) = some (out, st') := e
  split at e
  · rename_i hz
    refine hi dk H0 F0 F σ H env st ds s1 gd e1 _ fun J F1 H1 x1 g1 sd Dn hD => ?_
    have hDH : H Dn = none := by
      cases w : H Dn with
      | none => rfl
      | some o => exact absurd hD (x1.m Dn (by rw [w]; exact fun z => nomatch z))
    have nd := g1.nedk hD
    have h0D := g1.fresh0 hD
    have noD := g1.noown hD
    have noW : ∀ (j : Nat) (es : Own), (wipeE env vs)[j]? = some (.own es) → (wipe σ vs)[j]? ≠ some (some (.ref Dn)) := fun j es e => by
      rcases wipeE_get e with z | ⟨z1, z2⟩
      · cases z
      · rw [wipe_off z2]; exact noD j es z1
    let P : Nat → Hp → Prop := fun i H => ∃ F2 st2 acc done rest, Le F1 F2 ∧ Ext dk F1 H1 F2 H ∧ Good K dk H0 F0 F2 (wipe σ vs) H (wipeE env vs) st2 ∧ H Dn = some (.lst acc) ∧ F2.out Dn ∧ acc.length ≤ i ∧ Rps K dk F2 acc done ∧
      compL t c f (wipeE env vs) (ds.drop i) st2 = some (rest, st') ∧ done ++ rest = out
    have px0 : Px F1 H1 F1 (upd H1 Dn (.lst [])) := Px.lay g1.wd.sub hD
    refine ⟨fun i m H => m = ds.length - i ∧ i ≤ ds.length ∧ P i H, ⟨_, rfl, Nat.zero_le _, F1, s1, [], [], out, Le.refl F1, px0.ext, (g1.wiped).px px0, upd_same, g1.wd.out hD, Nat.zero_le _, .nil, e, rfl⟩, ?_⟩
    rintro i m H2 ⟨rfl, hle, F2, s2, acc, done, rest, le2, x2, g2, hacc, f2, hal, racc, e2, eo⟩
    by_cases hlt : i < ds.length
    · have hdi : ds[i]? = some ds[i] := List.getElem?_eq_getElem hlt
      obtain ⟨hgo, hy⟩ := (sd F2 H2 s2 le2 x2 g2.wd i).1 _ hdi
      refine .inr ⟨hgo, P (i + 1), fun H' hp => ⟨_, by omega, rfl, hlt, hp⟩, fun x H3 hx => ?_⟩
      obtain ⟨F3, px, rx⟩ := hy x H3 hx
      have g3 := g2.px px
      rw [List.drop_eq_getElem_cons hlt] at e2
      obtain ⟨env3, e3, e2⟩ := bnd e2
      obtain ⟨⟨b, s4⟩, e4, e2⟩ := bnd e2
      refine hg dk H0 F0 F3 (wipe σ vs) H3 (wipeE env vs) s2 x _ env3 g3 rx e3 _ fun σ4 g4 tg => ?_
      have same : ∀ j : Nat, j ∉ vs → σ4[j]? = (wipe σ vs)[j]? ∧ env3[j]? = (wipeE env vs)[j]? := fun j hj => tg.same j fun z => hj (hv j z)
      have weq : wipe σ4 vs = wipe σ vs := by
        rw [wipe_eq tg.len fun j hj => (same j hj).1, wipe_wipe]
      have nD3 : H2 Dn ≠ none := by rw [hacc]; exact fun z => nomatch z
      have back : ∀ {F5 : Fz} {H5 : Hp} {st5 : S}, Good K dk H0 F0 F5 σ4 H5 env3 st5 → Good K dk H0 F0 F5 (wipe σ vs) H5 (wipeE env vs) st5 := fun {F5 H5 st5} g5 =>
        g5.reslot (by rw [wipe_length, wipeE_length]; exact gd.len) fun j s es => by
          rcases wipeE_get es with z | ⟨z1, z2⟩
          · exact .inl z
          · exact .inr ⟨(same j z2).2.trans es, (same j z2).1.symm⟩
      refine ⟨weq, ?_⟩
      refine ht dk H0 F0 F3 σ4 H3 env3 s2 b s4 g4 e4 _ fun F5 H5 x5 g5 => ?_
      have x25 : Ext dk F2 H2 F5 H5 := px.ext.trans x5
      have a5 : H5 Dn = some (.lst acc) := x25.h _ _ hacc nd.1 nd.2 (.inl f2.2)
      have f5 : F5.out Dn := x25.out f2 nD3
      cases b with
      | false =>
        exact ⟨F5, s4, acc, done, rest, le2.trans x25.f, x2.trans x25, back g5, a5, f5, by omega, racc.mono x25.f, e2, eo⟩
      | true =>
        replace e2 : ((f env3 s4).bind fun q => (compL t c f (wipeE env vs) (ds.drop (i + 1)) q.2).map fun r => (q.1 :: r.1, r.2)) = some (rest, st') := e2
        obtain ⟨⟨y, s6⟩, e6, e2⟩ := bnd e2
        obtain ⟨⟨rest', s7⟩, e7, e2⟩ := mpd e2
        cases e2
        refine he dk H0 F0 F5 σ4 H5 env3 s4 y s6 g5 e6 _ fun v F6 H6 x6 g6 r6 => ?_
        have x26 := x25.trans x6
        have a6 : H6 Dn = some (.lst acc) := x26.h _ _ hacc nd.1 nd.2 (.inl f2.2)
        have f6 : F6.out Dn := x26.out f2 nD3
        refine ⟨acc, a6, by omega, F6, s6, acc ++ [v], done ++ [y], rest', le2.trans x26.f, ?_, (back g6).mutT a6 f6 h0D nd.1 nd.2 noW, upd_same, f6, by simp; omega, (racc.mono x26.f).append (Rps.one r6), e7, by rw [← eo]; simp⟩
        exact (x2.trans x26).upd hD
    · have ei : i = ds.length := by omega
      subst ei
      rw [List.drop_length] at e2
      cases e2
      refine .inl ⟨(sd F2 H2 _ le2 x2 g2.wd ds.length).2 (Nat.le_refl _), ?_⟩
      rw [List.append_nil] at eo
      subst eo
      have g9 : Good K dk H0 F0 F2 σ H2 env st' := by
        have gx := g1.step x2 g2.wd
        exact gx
      exact q Dn acc F2 H2 (x1.trans x2) g9 hDH f2 hacc racc
  · cases e
/-! ### {k: v for ..} -/
def dcL (t : MG) (c : MT) (fk fv : ME) (env : Sg) : List D → List Key × List D → S → Option ((List Key × List D) × S)
  | [], a, st => some (a, st)
  | d :: ds, a, st => (t d env).bind fun e => (c e st).bind fun p => if p.1 then (fk e p.2).bind fun x => (keyOf x.1).bind fun k => (fv e x.2).bind fun y => dcL t c fk fv env ds (putKs a.1 k, putVs a.1 a.2 k y.1) y.2 else dcL t c fk fv env ds a p.2
def dcM (it : MI) (t : MG) (c : MT) (fk fv : ME) (vs : List Nat) : MK := fun env st => (it env st).bind fun p => if p.1.length ≤ sizeLine then dcL t c fk fv (wipeE env vs) p.1 ([], []) p.2 else none
theorem putKs_len {ks : List Key} {k : Key} : (putKs ks k).length ≤ ks.length + 1 := by
  unfold putKs
  split
  · omega
  · simp
theorem ik_dc {wi : TI} {g : TG} {tt : TT} {tk tv : TE} {vs : List Nat} {it : MI} {t : MG} {c : MT} {fk fv : ME} {is : List Nat} (hi : ImI K wi it) (hg : ImG K g t is) (ht : ImT K tt c) (hk : Im K tk fk) (he : Im K tv fv) (hv : ∀ i ∈ is, i ∈ vs) :
    ImK K (tDc wi g tt tk tv vs) (dcM it t c fk fv vs) := fun dk H0 F0 F σ H env st out st' gd e Q q => by
  obtain ⟨⟨ds, s1⟩, e1, e⟩ := bnd e
  replace e : (if ds.length ≤ sizeLine then dcL t c fk fv (wipeE env vs) ds ([], []) s1 else none) = some (out, st') := e
  split at e
  · rename_i hz
    refine hi dk H0 F0 F σ H env st ds s1 gd e1 _ fun J F1 H1 x1 g1 sd Dn hD => ?_
    have hDH : H Dn = none := x1.back hD
    have nd := g1.nedk hD
    have h0D := g1.fresh0 hD
    have noD := g1.noown hD
    have noW : ∀ (j : Nat) (es : Own), (wipeE env vs)[j]? = some (.own es) → (wipe σ vs)[j]? ≠ some (some (.ref Dn)) := fun j es e => by
      rcases wipeE_get e with z | ⟨z1, z2⟩
      · cases z
      · rw [wipe_off z2]; exact noD j es z1
    let P : Nat → Hp → Prop := fun i H => ∃ F2 st2 acc ks ks', Le F1 F2 ∧ Ext dk F1 H1 F2 H ∧ Good K dk H0 F0 F2 (wipe σ vs) H (wipeE env vs) st2 ∧ H Dn = some (.dK (ks.zip acc)) ∧ ks.length = acc.length ∧ F2.out Dn ∧ acc.length ≤ i ∧ Rps K dk F2 acc ks' ∧
      dcL t c fk fv (wipeE env vs) (ds.drop i) (ks, ks') st2 = some (out, st')
    have px0 : Px F1 H1 F1 (upd H1 Dn (.dK [])) := Px.lay g1.wd.sub hD
    refine ⟨fun i m H => m = ds.length - i ∧ i ≤ ds.length ∧ P i H, ⟨_, rfl, Nat.zero_le _, F1, s1, [], [], [], Le.refl F1, px0.ext, (g1.wiped).px px0, upd_same, rfl, g1.wd.out hD, Nat.zero_le _, .nil, e⟩, ?_⟩
    rintro i m H2 ⟨rfl, hle, F2, s2, acc, ks, ks', le2, x2, g2, hacc, hkl, f2, hal, racc, e2⟩
    by_cases hlt : i < ds.length
    · have hdi : ds[i]? = some ds[i] := List.getElem?_eq_getElem hlt
      obtain ⟨hgo, hy⟩ := (sd F2 H2 s2 le2 g2.wd i).1 _ hdi
      refine .inr ⟨hgo, P (i + 1), fun H' hp => ⟨_, by omega, rfl, hlt, hp⟩, fun x H3 hx => ?_⟩
      obtain ⟨F3, px, rx⟩ := hy x H3 hx
      have g3 := g2.px px
      rw [List.drop_eq_getElem_cons hlt] at e2
      obtain ⟨env3, e3, e2⟩ := bnd e2
      obtain ⟨⟨b, s4⟩, e4, e2⟩ := bnd e2
      refine hg dk H0 F0 F3 (wipe σ vs) H3 (wipeE env vs) s2 x _ env3 g3 rx e3 _ fun σ4 g4 tg => ?_
      have same : ∀ j : Nat, j ∉ vs → σ4[j]? = (wipe σ vs)[j]? ∧ env3[j]? = (wipeE env vs)[j]? := fun j hj => tg.same j fun z => hj (hv j z)
      have weq : wipe σ4 vs = wipe σ vs := by
        rw [wipe_eq tg.len fun j hj => (same j hj).1, wipe_wipe]
      have nD3 : H2 Dn ≠ none := nn hacc
      have back : ∀ {F5 : Fz} {H5 : Hp} {st5 : S}, Good K dk H0 F0 F5 σ4 H5 env3 st5 → Good K dk H0 F0 F5 (wipe σ vs) H5 (wipeE env vs) st5 := fun {F5 H5 st5} g5 =>
        g5.reslot (by rw [wipe_length, wipeE_length]; exact gd.len) fun j s es => by
          rcases wipeE_get es with z | ⟨z1, z2⟩
          · exact .inl z
          · exact .inr ⟨(same j z2).2.trans es, (same j z2).1.symm⟩
      refine ⟨weq, ?_⟩
      refine ht dk H0 F0 F3 σ4 H3 env3 s2 b s4 g4 e4 _ fun F5 H5 x5 g5 => ?_
      have x25 : Ext dk F2 H2 F5 H5 := px.ext.trans x5
      have a5 : H5 Dn = some (.dK (ks.zip acc)) := x25.h _ _ hacc nd.1 nd.2 (.inl f2.2)
      have f5 : F5.out Dn := x25.out f2 nD3
      cases b with
      | false =>
        exact ⟨F5, s4, acc, ks, ks', le2.trans x25.f, x2.trans x25, back g5, a5, hkl, f5, by omega, racc.mono x25.f, e2⟩
      | true =>
        replace e2 : ((fk env3 s4).bind fun x => (keyOf x.1).bind fun k => (fv env3 x.2).bind fun y => dcL t c fk fv (wipeE env vs) (ds.drop (i + 1)) (putKs ks k, putVs ks ks' k y.1) y.2) = some (out, st') := e2
        obtain ⟨⟨y, s6⟩, e6, e2⟩ := bnd e2
        obtain ⟨k, ek, e2⟩ := bnd e2
        obtain ⟨⟨z, s7⟩, e7, e2⟩ := bnd e2
        refine hk dk H0 F0 F5 σ4 H5 env3 s4 y s6 g5 e6 _ fun v F6 H6 x6 g6 r6 => ?_
        refine he dk H0 F0 F6 σ4 H6 env3 s6 z s7 g6 e7 _ fun u F7 H7 x7 g7 r7 => ?_
        have x27 := (x25.trans x6).trans x7
        have a7 : H7 Dn = some (.dK (ks.zip acc)) := x27.h _ _ hacc nd.1 nd.2 (.inl f2.2)
        have f7 : F7.out Dn := x27.out f2 nD3
        have hzl : (ks.zip acc).length = acc.length := by rw [List.length_zip, hkl, Nat.min_self]
        refine ⟨ks.zip acc, k, keyOf_rw (H := H6) (.rp r6) ek, a7, by rw [hzl]; omega, F7, s7, putVs ks acc k u, putKs ks k, putVs ks ks' k z, le2.trans x27.f, (x2.trans x27).upd hD, (back g7).mutT a7 f7 h0D nd.1 nd.2 noW, by rw [upd_same]; exact congrArg (fun z => some (HO.dK z)) (put_zip hkl), put_len hkl, f7, ?_, putVs_rps r7 (racc.mono x27.f), e2⟩
        rw [← put_len hkl]
        have := putKs_len (ks := ks) (k := k)
        omega
    · have ei : i = ds.length := by omega
      subst ei
      rw [List.drop_length] at e2
      cases e2
      refine .inl ⟨(sd F2 H2 _ le2 g2.wd ds.length).2 (Nat.le_refl _), ?_⟩
      have g9 : Good K dk H0 F0 F2 σ H2 env st' := g1.step x2 g2.wd
      exact q Dn acc F2 H2 (x1.trans x2) g9 hDH f2 hacc hkl racc
  · cases e
/-! ### walks over the keys of a dict -/
/-- an expression that only looks: a name, a field -/
def Pth [WW] (K : Fg) (te : TE) (f : ME) : Prop := ∀ (dk : Dk) (H0 : Hp) (F0 F : Fz) (σ : L2.St) (H : Hp) (env : Sg) (st : S) (d : D) (st' : S), Good K dk H0 F0 F σ H env st → f env st = some (d, st') →
  st' = st ∧ ∃ v, Rp K dk F v d ∧ (∀ Q : VK, Q v H → te σ H Q) ∧ ∀ (a : Addr) (od : Obj) (kvs : List (Key × V)), H a = some (.dK kvs) → ∀ Q : VK, Q v (upd H a (.frz od (.dK kvs))) → te σ (upd H a (.frz od (.dK kvs))) Q
theorem pth_var (i : Nat) : Pth K (tVar i) (rd i) := fun dk H0 F0 F σ H env st d st' g e => by
  unfold rd at e
  split at e
  · rename_i d' he
    cases e
    obtain ⟨v, h1, h2⟩ := g.sl i _ he
    exact ⟨rfl, v, h2, fun Q q => ⟨v, join_eq h1, q⟩, fun a od kvs _ Q q => ⟨v, join_eq h1, q⟩⟩
  · cases e
theorem itk_ok {a : Addr} {od : Obj} {ks : List Key} {vs : List V} (hl : ks.length = vs.length) (w : Wd K dk F H st) (ha : H a = some (.frz od (.dK (ks.zip vs)))) (i : Nat) :
    (∀ d, (ks.map keyD)[i]? = some d → (Itk a od (ks.zip vs)).go i H ∧ ∀ x H3, (Itk a od (ks.zip vs)).yld i H x H3 → ∃ F3, Px F H F3 H3 ∧ Rp K dk F3 x d) ∧ ((ks.map keyD).length ≤ i → (Itk a od (ks.zip vs)).stop i H) := by
  have hz : (ks.zip vs).length = ks.length := by rw [List.length_zip, hl, Nat.min_self]
  refine ⟨fun d hd => ?_, fun h => ⟨ha, by rw [hz]; simpa using h⟩⟩
  rw [List.getElem?_map] at hd
  obtain ⟨k, hk, rfl⟩ := mpd hd
  have hj : i < ks.length := by
    by_cases hl : i < ks.length
    · exact hl
    · rw [List.getElem?_eq_none (by omega)] at hk; cases hk
  refine ⟨⟨ha, by rw [hz]; exact hj⟩, fun y H2 hy => ?_⟩
  obtain ⟨e1, k', v', hkv, e2⟩ := hy
  subst e1 e2
  have : k' = k := by
    have hh := congrArg (Option.map Prod.fst) hkv
    rw [← List.getElem?_map, List.map_fst_zip (by omega), hk] at hh
    exact (Option.some.inj hh).symm
  subst this
  exact ⟨F, Px.refl w.sub, keyD_rp k'⟩
theorem for_keys {te : TE} {g : TG} {tb : TS} {t : MG} {b : MS} {is : List Nat} {a : Addr} {od : Obj} {ks : List Key} {vs : List V} {fl : Fl} {E : Ends} (hg : ImG K g t is) (hb : ImS K tb b) (gd : Good K dk H0 F0 F σ H env st)
    (ha : H a = some (.frz od (.dK (ks.zip vs)))) (hl : ks.length = vs.length) (hte : ∀ Q : VK, Q (.ref a) H → te σ H Q) (e : forL t b (ks.map keyD) env st = some (fl, st')) (hd : Dn K dk H0 F0 F E st' fl) : tFor (iKeys te) g tb E σ H := by
  refine hte _ ⟨a, od, rfl, .inl ⟨_, ha, ?_⟩⟩
  exact for_core hg hb gd (fun F2 σ2 H2 env2 st2 le g2 i => itk_ok hl g2.wd (gd.stays ha g2) i) e hd _ id
def tForK (te : TE) (g : TG) (tb : TS) : TS := fun E σ H => tLock (tFor (iKeys te) g tb) E σ H ∨ tFor (iKeys te) g tb E σ H
def unl (st : S) (n : Nat) : S := match st.ob[n]? with
  | some (.dic _ ks ds) => st.put n (.dic false ks ds)
  | _ => st
def lck (st : S) (n : Nat) : S := match st.ob[n]? with
  | some (.dic _ ks ds) => st.put n (.dic true ks ds)
  | _ => st
def forK (f : ME) (t : MG) (b : MS) : MS := fun env st => (f env st).bind fun p => match p.1 with
  | .dic ks _ => forL t b (ks.map keyD) env st
  | .ref n => match st.ob[n]? with
    | some (.dic false ks _) => (forL t b (ks.map keyD) env (lck st n)).map fun r => (r.1, unl r.2 n)
    | some (.dic true ks _) => forL t b (ks.map keyD) env st
    | _ => none
  | _ => none
theorem nfk {kvs : List (Key × V)} : ¬ Fro (.dK kvs) := by rintro ⟨_, _, z⟩; cases z
theorem Wd.lckS {n : Nat} {a : Addr} {od : Obj} {ks : List Key} {vs : List V} {ds : List D} (w : Wd K dk F H st) (hn : F.mu[n]? = some a) (ho : st.ob[n]? = some (.dic false ks ds)) (hl : ks.length = vs.length) (r : Rps K dk F vs ds) :
    Wd K dk F (L2.upd H a (.frz od (.dK (ks.zip vs)))) (lck st n) := by
  unfold lck
  rw [ho]
  exact w.put hn (.lck upd_same hl r)
theorem Wd.unlS {n : Nat} {a : Addr} {od : Obj} {kvs : List (Key × V)} (w : Wd K dk F H st) (hn : F.mu[n]? = some a) (ha : H a = some (.frz od (.dK kvs))) : Wd K dk F (L2.upd H a (.dK kvs)) (unl st n) := by
  have hlt : n < st.ob.length := by rw [← w.ml]; exact mu_lt hn
  obtain ⟨q1, q2⟩ := w.ob n a _ hn (List.getElem?_eq_getElem hlt)
  unfold unl
  rw [List.getElem?_eq_getElem hlt]
  generalize st.ob[n] = o at q2
  cases q2 with
  | lst h r => rw [ha] at h; cases h
  | dic h l r => rw [ha] at h; cases h
  | lck h l r =>
    rw [ha] at h
    cases h
    exact w.put hn (.dic upd_same l r)
  | ins c h l r => rw [ha] at h; cases h
  | nkd h _ _ _ _ _ _ => rw [ha] at h; cases h
  | nkl h _ _ _ _ _ _ => rw [ha] at h; cases h
theorem Dn.unlock {a : Addr} {od : Obj} {u : HO} {fl : Fl} {E : Ends} (g : Good K dk H0 F0 F σ H env st) (ha : H a = some u) (nf : ¬ Fro u) (hs : ∀ F' H', Wd K dk F' H' st' → Le F F' → H' a = some (.frz od u) → Wd K dk F' (L2.upd H' a u) st'')
    (n1 : a ≠ dk.1) (n2 : a ≠ dk.2) (hd : Dn K dk H0 F0 F E st'' fl) :
    Dn K dk (L2.upd H0 a (.frz od u)) F F ⟨fun σ' H' => H' a = some (.frz od u) ∧ E.nx σ' (L2.upd H' a u), fun v H' => H' a = some (.frz od u) ∧ E.rt v (L2.upd H' a u), fun σ' H' => H' a = some (.frz od u) ∧ E.bk σ' (L2.upd H' a u), fun σ' H' => H' a = some (.frz od u) ∧ E.ct σ' (L2.upd H' a u)⟩ st' fl := by
  have key : ∀ {F' : Fz} {H' : Hp}, Ext dk F (L2.upd H0 a (.frz od u)) F' H' → H' a = some (.frz od u) := fun x => x.h _ _ upd_same n1 n2 (.inr ⟨_, _, rfl⟩)
  cases fl with
  | nx env' => exact fun F' σ' H' le g' => ⟨key g'.ext, hd F' σ' _ le (g.unlock ha nf g' (hs F' H' g'.wd le (key g'.ext)))⟩
  | bk env' => exact fun F' σ' H' le g' => ⟨key g'.ext, hd F' σ' _ le (g.unlock ha nf g' (hs F' H' g'.wd le (key g'.ext)))⟩
  | ct env' => exact fun F' σ' H' le g' => ⟨key g'.ext, hd F' σ' _ le (g.unlock ha nf g' (hs F' H' g'.wd le (key g'.ext)))⟩
  | rt d => exact fun v F' H' x w r => ⟨key x, hd v F' _ (g.ext.unlock ha nf x) (hs F' H' w x.f (key x)) r⟩
theorem is_forK {te : TE} {f : ME} {g : TG} {tb : TS} {t : MG} {b : MS} {is : List Nat} (hp : Pth K te f) (hg : ImG K g t is) (hb : ImS K tb b) : ImS K (tForK te g tb) (forK f t b) := fun dk H0 F0 F σ H env st fl st' gd e E hd => by
  obtain ⟨⟨d, s1⟩, e1, e⟩ := bnd e
  obtain ⟨es, v, r, q1, q2⟩ := hp dk H0 F0 F σ H env st d s1 gd e1
  cases d with
  | dic ks ds =>
    dsimp only at e
    cases r with
    | @dic a _ vs _ ha hl r =>
      have n1 : a ≠ dk.1 := fun z => by rw [z, gd.wd.f1.1] at ha; cases ha
      have n2 : a ≠ dk.2 := fun z => by rw [z, gd.wd.f2.1] at ha; cases ha
      have no : ∀ (i : Nat) (ds : Own), env[i]? = some (.own ds) → σ[i]? ≠ some (some (.ref a)) := fun i ds hi hs => by
        obtain ⟨p, _, h1, _, h3, _⟩ := gd.sl i _ hi
        rw [hs] at h1
        cases h1
        have h31 := h3.1
        rw [ha] at h31; cases h31
      rcases gd.wd.sub a _ ha with hH | ⟨od, kvs, ek, hH⟩
      · refine .inl ⟨a, _, hH, trivial, fun od => ?_⟩
        have gl := gd.lock (od := od) no (gd.wd.lockF ha)
        refine for_keys hg hb gl upd_same hl (q2 a od _ hH) e (Dn.unlock gd hH nfk (fun F' H' w le _ => w.unlockF (le.h _ _ ha)) n1 n2 hd)
      · exact .inr (for_keys hg hb gd hH hl q1 e hd)
  | ref n =>
    cases r with
    | @ref a _ hn =>
      have hm := List.mem_of_getElem? hn
      obtain ⟨n1, n2⟩ := gd.wd.ndk hm
      have no : ∀ (i : Nat) (ds : Own), env[i]? = some (.own ds) → σ[i]? ≠ some (some (.ref a)) := fun i ds hi hs => by
        obtain ⟨p, _, h1, _, h3, _⟩ := gd.sl i _ hi
        rw [hs] at h1
        cases h1
        exact h3.2 hm
      dsimp only at e
      split at e
      · rename_i ks ds ho
        obtain ⟨⟨fl2, s2⟩, e2, e⟩ := mpd e
        cases e
        obtain ⟨_, ob⟩ := gd.wd.ob n a _ hn ho
        cases ob with
        | @dic _ vs _ hH hl r =>
          refine .inl ⟨a, _, hH, trivial, fun od => ?_⟩
          have gl := gd.lock (od := od) no (gd.wd.lckS hn ho hl r)
          refine for_keys hg hb gl upd_same hl (q2 a od _ hH) e2 (Dn.unlock gd hH nfk (fun F' H' w le hf => w.unlS (le.at hn) hf) n1 n2 hd)
      · rename_i ks ds ho
        obtain ⟨_, ob⟩ := gd.wd.ob n a _ hn ho
        cases ob with
        | lck hH hl r => exact .inr (for_keys hg hb gd hH hl q1 e hd)
      · cases e
  | _ => cases e
/-! comprehensions over the keys of a frozen dict -/
def keysI (f : ME) : MI := fun env st => (f env st).bind fun p => (isDicD p.1).map fun q => (q.1.map keyD, p.2)
def tLcK (te : TE) (g : TG) (tt : TT) (tv : TE) (vs : List Nat) : TE := fun σ H Q => tLockE (tLc (iKeys te) g tt tv vs) σ H Q ∨ tLc (iKeys te) g tt tv vs σ H Q
/-- the walk over a locked dict -/
def wK (te : TE) : TI := iKeys te
theorem if_compK {te : TE} {f : ME} {g : TG} {tt : TT} {tv : TE} {vs : List Nat} {t : MG} {c : MT} {fv : ME} {is : List Nat} (hp : Pth K te f) (hg : ImG K g t is) (ht : ImT K tt c) (he : Im K tv fv) (hv : ∀ i ∈ is, i ∈ vs) :
    ImF K (tLcK te g tt tv vs) (compM (keysI f) t c fv vs) := fun dk H0 F0 F σ H env st out st' gd e Q q => by
  obtain ⟨⟨ds, s1⟩, e1, e'⟩ := bnd e
  obtain ⟨⟨d, s2⟩, e2, e3⟩ := bnd e1
  obtain ⟨⟨ks, es⟩, e4, e5⟩ := mpd e3
  cases e5
  obtain ⟨hs, v, r, q1, q2⟩ := hp dk H0 F0 F σ H env st d _ gd e2
  have hs' : s2 = st := hs
  subst hs'
  have hd' : d = .dic ks es := isDicD_eq e4
  subst hd'
  -- the comprehension at a heap where the dict is locked
  have core : ∀ {a : Addr} {od : Obj} {us : List V} {H0' H1 : Hp} {F0' : Fz} (Q' : VK), Good K dk H0' F0' F σ H1 env s2 → H1 a = some (.frz od (.dK (ks.zip us))) → ks.length = us.length → (∀ Q : VK, Q (.ref a) H1 → te σ H1 Q) →
      (∀ p vs F' H', Ext dk F H1 F' H' → Good K dk H0' F0' F' σ H' env st' → H1 p = none → F'.out p → H' p = some (.lst vs) → Rps K dk F' vs out → Q' (.ref p) H') → tLc (iKeys te) g tt tv vs σ H1 Q' := by
    intro a od us H0' H1 F0' Q' g1 ha hl hte hq
    have n1 : a ≠ dk.1 := fun z => by rw [z, g1.wd.d1] at ha; cases ha
    have n2 : a ≠ dk.2 := fun z => by rw [z, g1.wd.d2] at ha; cases ha
    let wi : TI := fun σ' H' R => σ' = σ → H' = H1 → iKeys te σ' H' R
    have hx : tLc wi g tt tv vs σ H1 Q' := if_compX (wi := fun σ' H' R => σ' = σ → H' = H1 → iKeys te σ' H' R) (it := fun _ s => some (ks.map keyD, s)) (fun dk2 H02 F02 F2 σ2 H2 env2 st2 ds2 st2' gd2 ee2 R qq => by
        intro z1 z2
        cases ee2
        subst z1 z2
        exact hte _ ⟨a, od, rfl, .inl ⟨_, ha, qq _ F2 _ (Ext.refl _ _) gd2 fun F3 H3 st3 le x w i => by
          have n1' : a ≠ dk2.1 := fun z => by rw [z, gd2.wd.d1] at ha; cases ha
          have n2' : a ≠ dk2.2 := fun z => by rw [z, gd2.wd.d2] at ha; cases ha
          exact itk_ok hl w (x.h _ _ ha n1' n2' (.inr ⟨_, _, rfl⟩)) i⟩⟩) hg ht he hv dk H0' F0' F σ H1 env s2 out st' g1 e' Q' hq
    exact hx rfl rfl
  cases r with
  | @dic a _ us _ ha hl r =>
    rcases gd.wd.sub a _ ha with hH | ⟨od, kvs, ek, hH⟩
    · have no : ∀ (i : Nat) (ds : Own), env[i]? = some (.own ds) → σ[i]? ≠ some (some (.ref a)) := fun i ds hi hs => by
        obtain ⟨p, _, h1, _, h3, _⟩ := gd.sl i _ hi
        rw [hs] at h1
        cases h1
        have h31 := h3.1
        rw [ha] at h31; cases h31
      have n1 : a ≠ dk.1 := fun z => by rw [z, gd.wd.f1.1] at ha; cases ha
      have n2 : a ≠ dk.2 := fun z => by rw [z, gd.wd.f2.1] at ha; cases ha
      refine .inl ⟨a, _, hH, trivial, fun od => ?_⟩
      have gl := gd.lock (od := od) no (gd.wd.lockF ha)
      refine core _ gl upd_same hl (q2 a od _ hH) fun p ws F' H' x g' hp' fp' hl' r' => ?_
      have hk : H' a = some (.frz od (.dK (ks.zip us))) := x.h _ _ upd_same n1 n2 (.inr ⟨_, _, rfl⟩)
      have np : p ≠ a := fun z => by rw [z, upd_same] at hp'; cases hp'
      have hpH : H p = none := by rw [upd_ne np] at hp'; exact hp'
      refine ⟨hk, q p ws F' _ ?_ (gd.unlock hH nfk g' (g'.wd.unlockF (x.f.h _ _ ha))) hpH fp' (by rw [upd_ne np]; exact hl') r'⟩
      refine ⟨fun b o e m1 m2 m3 => ?_, x.f, fun b h1 h2 => ?_, fun b h z => ?_, fun b h => ?_, fun b o e fo => ?_⟩
      · by_cases nb : b = a
        · subst nb; rw [upd_same, ← e, hH]
        · rw [upd_ne nb]; exact x.h b o (by rw [upd_ne nb]; exact e) m1 m2 m3
      · refine x.n b h1 ?_
        by_cases nb : b = a
        · subst nb; exact nn upd_same
        · rw [upd_ne nb]; exact h2
      · by_cases nb : b = a
        · subst nb; rw [upd_same] at z; cases z
        · rw [upd_ne nb] at z; exact x.m b (by rw [upd_ne nb]; exact h) z
      · rcases x.u b h with z | z
        · exact .inl z
        · by_cases nb : b = a
          · subst nb; rw [upd_same] at z; cases z
          · rw [upd_ne nb] at z; exact .inr z
      · by_cases nb : b = a
        · subst nb; rw [upd_same] at e; cases e; exact absurd fo nfk
        · rw [upd_ne nb] at e
          have := x.k b o e fo
          rw [upd_ne nb] at this; exact this
    · exact .inr (core _ gd hH hl q1 q)
end
end MD

set_option Elab.async false
set_option linter.all false
set_option maxRecDepth 100000
set_option maxHeartbeats 4000000
namespace MD
open PySem PySem.Spec PyProof.Rows L2
variable {ww : WW}

/-! ### tuple * int, where the tuple itself or no item comes out -/
theorem tuple_mulS (l : Addr) (items : Array Value) (n : Nat) (dd : Option Addr) (sl : Array (Option Value)) (x : Int) (u : Tok) (c0 : (decide (x < -(2 ^ 63)) || decide (x ≥ 2 ^ 63)) = false) (c1 : (items.isEmpty || x == 1) = true) :
    Meets (Builtin.«tuple.__mul__» ⟨[.ref l, .int x u], []⟩) (fun _ R s => s.heap.get? l = some { cls := .type "tuple", dict := dd, data := .seq items n, slots := sl } ∧ R (.ok (.ret (Value.ref l))) s) :=
  .of_wp fun prog w A R s h => by
    obtain ⟨hp, g, d, tk, os⟩ := s
    obtain ⟨hl, h⟩ := h
    have f1 := AutoSeq1.idx_int
    wp_walk using wpAny_loadPart' hl
    repeat (first
      | (refine wpAny_ite_false (decide_eq_false (by rw [c0]; exact Bool.false_ne_true)) ?_; wp_walk using wpAny_loadPart' hl)
      | (refine wpAny_ite_true (decide_eq_true c1) ?_; wp_walk using wpAny_loadPart' hl))
    exact ⟨_, rfl, h⟩
theorem tuple_mulE (l : Addr) (items : Array Value) (n : Nat) (dd : Option Addr) (sl : Array (Option Value)) (x : Int) (u : Tok) (c0 : (decide (x < -(2 ^ 63)) || decide (x ≥ 2 ^ 63)) = false) (c1 : (items.isEmpty || x == 1) = false) (c2 : (decide (x ≤ 0) || items.isEmpty) = true) :
    Meets (Builtin.«tuple.__mul__» ⟨[.ref l, .int x u], []⟩) (fun _ R s => s.heap.get? l = some { cls := .type "tuple", dict := dd, data := .seq items n, slots := sl } ∧
      R (.ok (.ret (Value.ref s.heap.objs.size))) { s with heap := s.heap.push { cls := Value.type "tuple", data := Data.seq #[] }, toks := s.toks }) :=
  .of_wp fun prog w A R s h => by
    obtain ⟨hp, g, d, tk, os⟩ := s
    obtain ⟨hl, h⟩ := h
    have f1 := AutoSeq1.idx_int
    wp_walk using wpAny_loadPart' hl
    repeat (first
      | (refine wpAny_ite_false (decide_eq_false (by rw [c0]; exact Bool.false_ne_true)) ?_; wp_walk using wpAny_loadPart' hl)
      | (refine wpAny_ite_false (decide_eq_false (by rw [c1]; exact Bool.false_ne_true)) ?_; wp_walk using wpAny_loadPart' hl)
      | (refine wpAny_ite_true (decide_eq_true c2) ?_; wp_walk using wpAny_loadPart' hl))
    exact ⟨_, rfl, h⟩
def rRepS (K : Fg) : R2 := fun x y H Q => ∃ l k xs, x = .ref l ∧ y = .int k ∧ SqT K H l xs ∧ -1000 ≤ k ∧ k ≤ 1000 ∧ (((xs = [] ∨ k = 1) ∧ Q (.ref l) H) ∨ (xs ≠ [] ∧ k ≤ 0 ∧ ∀ p, H p = none → Q (.ref p) (upd H p (.tup []))))
theorem op_repS {X : Cx} : OpR X (binaryOp .Mult) (rRepS X.K) := by
  intro pins s σ H x y v u Q I rx ry h
  obtain ⟨l, k, xs, rfl, rfl, hT, h1, h2, q⟩ := h
  cases rx
  obtain ⟨t, rfl⟩ := ry
  obtain ⟨its, r, ⟨⟨cls, dd, data, sl⟩, ho, hc, n, hd⟩, hs⟩ := I.tuple hT
  simp only at hc hd
  subst hc hd
  have hle : its.length = xs.length := r.length.symm
  have c0 : (decide (k < -(2 ^ 63)) || decide (k ≥ 2 ^ 63)) = false := by
    rw [decide_eq_false (by omega), decide_eq_false (by omega)] <;> rfl
  rcases q with ⟨hc, q⟩ | ⟨hne, hk, q⟩
  · have c1 : (its.toArray.isEmpty || k == 1) = true := by
      rcases hc with hc | hc
      · have : its = [] := List.eq_nil_of_length_eq_zero (by rw [hle, hc]; rfl)
        subst this; rfl
      · subst hc; simp
    refine wpAny_binaryOp_repeat_ref (T := "tuple") (U := "int") (by decide) ⟨_, ho, rfl⟩ (fun s' => typeIs_int s' k t) noFill_tuple_mul F.fills_int_mul F.slot_int_rmul repeat_tuple F.slot_int_index.lookup
      (call_meets F.slot_int_rmul (typeIs_int s k t) F.entry_int_rmul (F.args_int_rmul_2 _ _) (int_rmul_tuple k t l its.toArray n dd sl)
        ⟨ho, rfl, ⟨_, ho, rfl⟩, call_meets F.slot_tuple_mul ⟨_, ho, rfl⟩ F.entry_tuple_mul (F.args_tuple_mul_2 _ _) (tuple_mulS l its.toArray n dd sl k t c0 c1) ⟨ho, ?_⟩⟩)
    exact ⟨.ref l, H, I, rfl, q⟩
  · have hn : its ≠ [] := fun e => hne (by
      rw [e] at hle
      exact List.eq_nil_of_length_eq_zero hle.symm)
    have hi : its.toArray.isEmpty = false := by
      cases its with
      | nil => exact absurd rfl hn
      | cons a b => rfl
    have c1 : (its.toArray.isEmpty || k == 1) = false := by
      rw [hi, Bool.false_or]
      exact beq_eq_false_iff_ne.mpr (by omega)
    have c2 : (decide (k ≤ 0) || its.toArray.isEmpty) = true := by rw [decide_eq_true hk]; rfl
    refine wpAny_binaryOp_repeat_ref (T := "tuple") (U := "int") (by decide) ⟨_, ho, rfl⟩ (fun s' => typeIs_int s' k t) noFill_tuple_mul F.fills_int_mul F.slot_int_rmul repeat_tuple F.slot_int_index.lookup
      (call_meets F.slot_int_rmul (typeIs_int s k t) F.entry_int_rmul (F.args_int_rmul_2 _ _) (int_rmul_tuple k t l its.toArray n dd sl)
        ⟨ho, rfl, ⟨_, ho, rfl⟩, call_meets F.slot_tuple_mul ⟨_, ho, rfl⟩ F.entry_tuple_mul (F.args_tuple_mul_2 _ _) (tuple_mulE l its.toArray n dd sl k t c0 c1 c2) ⟨ho, ?_⟩⟩)
    refine ⟨.ref s.heap.objs.size, _, I.laid (t' := s.toks) (o := .tup []) (fun b ob q => Heap.get?_push_of_some _ q) (Nat.le_refl _) ?_, rfl, q _ (I.hok.fresh (Nat.le_refl _))⟩
    exact ⟨by show 0 ≤ sizeLine; exact Nat.zero_le _, [], .nil, IsTup.new _ _⟩
section
variable {K : Fg} {dk : Dk} {F F' F0 : Fz} {H H' H0 : Hp} {σ σ' : L2.St} {env env' : Sg} {st st' st'' : S}
def rMulA (K : Fg) : R2 := fun x y H Q => rI CMul (fun i j => .int (i * j)) x y H Q ∨ rRepT K x y H Q ∨ rRepS K x y H Q ∨ rRep x y H Q
theorem op_mulA {X : Cx} : OpR X (binaryOp .Mult) (rMulA X.K) := OpR.or op_mul (OpR.or op_repT (OpR.or op_repS op_rep))
def mulA : D → D → Option D
  | .tup ds, .int k => if ds.length ≤ 1000 ∧ -1000 ≤ k ∧ k ≤ 1000 then some (.tup (List.replicate k.toNat ds).flatten) else none
  | .lst ds, .int k => if ds.length ≤ 1000 ∧ -1000 ≤ k ∧ k ≤ 1000 then some (.lst (List.replicate k.toNat ds).flatten) else none
  | d, e => mulM d e
theorem Rps.rep {vs : List V} {ds : List D} (r : Rps K dk F vs ds) : ∀ (n : Nat), Rps K dk F (List.replicate n vs).flatten (List.replicate n ds).flatten
  | 0 => .nil
  | n + 1 => by
    rw [List.replicate_succ, List.replicate_succ, List.flatten_cons, List.flatten_cons]
    exact r.append (Rps.rep r n)
theorem flat_nil {α : Type} (n : Nat) : (List.replicate n ([] : List α)).flatten = [] := by
  induction n with
  | zero => rfl
  | succ n ih => rw [List.replicate_succ, List.flatten_cons, ih]; rfl
theorem ro_mulA : RO K (rMulA K) mulA := by
  intro dk F H st x y d e z w rx ry hz Q q
  unfold mulA at hz
  split at hz
  · rename_i ds k
    split at hz
    · rename_i hc
      cases hz
      obtain ⟨p, vs, rfl, hp, r⟩ := rx.tup w.sub
      cases ry.int
      by_cases h1 : ds = [] ∨ k = 1
      · refine .inr (.inr (.inl ⟨p, k, vs, rfl, rfl, hp, hc.2.1, hc.2.2, .inl ⟨?_, ?_⟩⟩))
        · rcases h1 with h1 | h1
          · subst h1; cases r; exact .inl rfl
          · exact .inr h1
        · have e : (List.replicate k.toNat ds).flatten = ds := by
            rcases h1 with h1 | h1
            · subst h1; exact flat_nil _
            · subst h1; simp
          rw [e] at q
          exact q _ F H (Px.refl w.sub) rx.tp
      · have hn : vs ≠ [] := fun z => h1 (.inl (by subst z; cases r; rfl))
        by_cases h2 : k ≤ 0
        · refine .inr (.inr (.inl ⟨p, k, vs, rfl, rfl, hp, hc.2.1, hc.2.2, .inr ⟨hn, h2, fun a ha => ?_⟩⟩))
          have px : Px F H (F.up a (.tup [])) (upd H a (.tup [])) := Px.new w.sub ha
          have e : k.toNat = 0 := by omega
          rw [e] at q
          exact q _ _ _ px (.tup (SqT.of Fz.up_same) .nil)
        · have h3 : k ≠ 1 := fun z => h1 (.inr z)
          refine .inr (.inl ⟨p, k, vs, rfl, rfl, hp, hn, by omega, hc.2.2, by rw [r.length]; exact hc.1, fun a ha => ?_⟩)
          have px : Px F H (F.up a (.tup (List.replicate k.toNat vs).flatten)) (upd H a (.tup (List.replicate k.toNat vs).flatten)) := Px.new w.sub ha
          exact q _ _ _ px (.tup (SqT.of Fz.up_same) ((r.rep k.toNat).mono px.f))
    · cases hz
  · rename_i ds k
    split at hz
    · rename_i hc
      cases hz
      obtain ⟨p, vs, rfl, hp, r⟩ := rx.l w.sub
      cases ry.int
      refine .inr (.inr (.inr ⟨p, k, vs, rfl, rfl, hp, by omega, by omega, ?_, fun a ha => ?_⟩))
      · rw [r.length, sizeLine_eq]
        have a1 : ds.length * k.toNat ≤ 1000 * 1000 := Nat.mul_le_mul hc.1 (by omega)
        omega
      · have px : Px F H (F.up a (.lst (List.replicate k.toNat vs).flatten)) (upd H a (.lst (List.replicate k.toNat vs).flatten)) := Px.new w.sub ha
        exact q _ _ _ px (.lst Fz.up_same ((r.rep k.toNat).mono px.f))
    · cases hz
  · exact .inl (ro_mul dk F H st x y _ _ z w rx ry hz Q q)
/-! ### list(..) -/
def rListA (K : Fg) : List V → Hp → VK → Prop := fun xs H Q => (∃ p ys, xs = [.ref p] ∧ (SqL K H p ys ∨ SqT K H p ys) ∧ ∀ l, H l = none → Q (.ref l) (upd H l (.lst ys))) ∨
  ∃ (a : Addr) (kvs : List (Key × V)), xs = [.ref a] ∧ Rd H a (.dK kvs) ∧ ∀ p, H p = none → Q (.ref p) (upd H p (.lst (kvs.map fun kv => kV kv.1)))
theorem call_listA {X : Cx} (hc : X.calm = true) : CallR X (.type "list") (rListA X.K) := CallR.or call_list_of (call_listD hc)
def listD : List D → Option (List D)
  | [.lst ds] => some ds
  | [.tup ds] => some ds
  | [.dic ks _] => some (ks.map keyD)
  | _ => none
def listM (a : MA) : MA := fun env st => (a env st).bind fun p => (listD (p.1.map (dr p.2))).map fun z => (z, p.2)
theorem keys_rps : ∀ {ks : List Key} {vs : List V}, ks.length = vs.length → Rps K dk F ((ks.zip vs).map fun kv => kV kv.1) (ks.map keyD)
  | [], [], _ => .nil
  | k :: ks, v :: vs, h => .cons (keyD_rp k) (keys_rps (by simpa using h))
theorem if_list {ta : TA} {a : MA} (ha : ImAW K ta a) : ImF K (tCB (rListA K) ta) (listM a) := fun dk H0 F0 F σ H env st d st' g e Q q => by
  obtain ⟨⟨xs, s1⟩, h1, e⟩ := bnd e
  obtain ⟨z, h2, e⟩ := mpd e
  cases e
  refine ha dk H0 F0 F σ H env st xs s1 g h1 _ fun vs F1 H1 x1 g1 r1 => ?_
  have r2 := r1.dr g1.wd
  have fin : ∀ (us : List V) (p : Addr), H1 p = none → Rps K dk F1 us d → Q (.ref p) (upd H1 p (.lst us)) := fun us p hp r => by
    have px : Px F1 H1 F1 (upd H1 p (.lst us)) := Px.lay g1.wd.sub hp
    exact q p us F1 _ (x1.trans px.ext) (g1.px px) (x1.back hp) (g1.wd.out hp) upd_same r
  replace h2 : listD (xs.map (dr s1)) = some d := h2
  generalize xs.map (dr s1) = ys at h2 r2
  unfold listD at h2
  split at h2
  · cases h2
    obtain ⟨v, rfl, r⟩ := r2.one
    obtain ⟨p, us, rfl, hl, r⟩ := r.l g1.wd.sub
    exact .inl ⟨p, us, rfl, .inl (SqL.of hl), fun l hl => fin us l hl r⟩
  · cases h2
    obtain ⟨v, rfl, r⟩ := r2.one
    obtain ⟨p, us, rfl, hl, r⟩ := r.tup g1.wd.sub
    exact .inl ⟨p, us, rfl, .inr hl, fun l hl => fin us l hl r⟩
  · cases h2
    obtain ⟨v, rfl, r⟩ := r2.one
    obtain ⟨p, us, rfl, hr, hl, r⟩ := r.d g1.wd.sub
    exact .inr ⟨p, _, rfl, hr, fun l h => fin _ l h (keys_rps hl)⟩
  · cases h2
/-! ### isinstance(e, T), T a built-in class -/
def tTy (T : String) : TE := fun _ H Q => Q (.ty T) H
theorem pe_tyName {X : Cx} {x : Str} {T : String} {pos : Pos} (hg : Gl X x) (hm : X.mg x = none) (hv : bootBuiltins x = some (.type T)) (hn : x ≠ "__name__" := by decide) (hdb : (x == ("__debug__" : Str)) = false := by decide) : PE X (.Name x pos) (tTy T) :=
  ⟨fun pins s σ H Q I h => ld_blt I hg hm hv ⟨.ty T, H, I, rfl, h⟩ hn hdb⟩
def tyD : D → Option String
  | .non => some "NoneType"
  | .bl _ => some "bool"
  | .int _ => some "int"
  | .str _ => some "str"
  | .lst _ => some "list"
  | .tup _ => some "tuple"
  | .dic _ _ => some "dict"
  | _ => none
def isiM (T : String) (f : ME) : ME := fun env st => (f env st).bind fun p => (tyD (dr p.2 p.1)).bind fun t => (kitB t T).map fun b => (.bl b, p.2)
theorem sqT_ty {a : Addr} {vs : List V} (h : SqT K H a vs) : TyX K H (.ref a) (.type "tuple") := by
  rcases h with h | h
  · rcases h with h | ⟨o, h⟩
    · exact .base (.tup h)
    · exact .fTuple h
  · obtain ⟨o, its, n, h1, h2, _⟩ := h
    exact .kTuple h1 h2
theorem tyX_of {v : V} {d : D} {t : String} (s : Sb F H) (r : Rw K dk F H v d) (h : tyD d = some t) : TyX K H v (.type t) := by
  cases d with
  | non => cases h; rw [r.non]; exact .base .non
  | bl b => cases h; rw [r.bl]; exact .base (.bl b)
  | int i => cases h; rw [r.int]; exact .base (.int i)
  | str x => cases h; rw [r.str]; exact .base (.str x)
  | lst ds =>
    cases h
    obtain ⟨p, vs, rfl, h1, _⟩ := r.l s
    exact .base (.lst h1)
  | tup ds =>
    cases h
    obtain ⟨p, vs, rfl, h1, _⟩ := r.tup s
    exact sqT_ty h1
  | dic ks ds =>
    cases h
    obtain ⟨p, vs, rfl, h1, _⟩ := r.d s
    rcases h1 with h1 | ⟨o, h1⟩
    · exact .base (.dK h1)
    · exact .fDict h1
  | _ => cases h
theorem im_isi {te : TE} {f : ME} (T : String) (h : ImW K te f) : Im K (tCB (rIsi K) (tCons te (tCons (tTy T) tNil))) (isiM T f) := fun dk H0 F0 F σ H env st d st' g e Q q => by
  obtain ⟨⟨x, s1⟩, e1, e⟩ := bnd e
  obtain ⟨t, e2, e⟩ := bnd e
  obtain ⟨b, e3, e⟩ := mpd e
  cases e
  refine h dk H0 F0 F σ H env st x _ g e1 _ fun v F1 H1 x1 g1 r1 => ?_
  exact ⟨v, .ty T, .type t, .type T, b, rfl, .ty T, tyX_of g1.wd.sub (r1.dr g1.wd) e2, kit_ty e3, q (.bl b) F1 H1 x1 g1 (.bl b)⟩
/-! ### x = xs.pop(), x = xs.pop(i), of a name's own list: as an expression it changes the name -/
def popL (i : Nat) (t : MG) : MS := fun env st => match env[i]? with
  | some (.own (.lst, ds)) => (ds[ds.length - 1]?).bind fun d => (t d (env.set i (.own (.lst, ds.dropLast)))).map fun e => (.nx e, st)
  | _ => none
theorem Rps.dropLast {vs : List V} {ds : List D} (r : Rps K dk F vs ds) : Rps K dk F vs.dropLast ds.dropLast := by
  rw [List.dropLast_eq_take, List.dropLast_eq_take, r.length]
  exact r.take _
theorem is_popL {g : TG} {t : MG} {is : List Nat} (i : Nat) (hg : ImG K g t is) : ImS K (tAsg (tBM0 K "list" rPop (tVar i)) g) (popL i t) := fun dk H0 F0 F σ H env st fl st' gd e E hd => by
  unfold popL at e
  split at e
  · rename_i ds he
    obtain ⟨d, e1, e⟩ := bnd e
    obtain ⟨en, e2, e⟩ := mpd e
    cases e
    obtain ⟨p, vs, h1, h2, h3, h4, h5, h6, h7⟩ := gd.sl i _ he
    obtain ⟨v, k1, k2⟩ := h7.get e1
    refine ⟨.ref p, join_eq h1, .inl ⟨rfl, vs, SqL.of h2⟩, p, vs, v, rfl, rfl, h2, by rw [h7.length]; exact k1, ?_⟩
    have g2 : Good K dk H0 F0 F σ (upd H p (.lst vs.dropLast)) (env.set i (.own (.lst, ds.dropLast))) st := gd.mut (ds' := (.lst, ds.dropLast)) he (join_eq h1) upd_same h7.dropLast
    exact hg dk H0 F0 F σ _ _ st v d en g2 k2 e2 _ fun σ' g3 _ => hd F σ' _ (Le.refl F) g3
  · cases e
/-! e.pop(), e.pop(i), of a list of the store -/
def spopM (fo : ME) : ME := fun env st => (fo env st).bind fun o => (refOf o.1).bind fun n => (lstAt o.2 n).bind fun ds => (ds[ds.length - 1]?).map fun d => (d, o.2.put n (.lst ds.dropLast))
theorem im_spop {to : TE} {fo : ME} (ho : Im K to fo) : Im K (tBM0 K "list" rPop to) (spopM fo) := fun dk H0 F0 F σ H env st d st' g e Q q => by
  obtain ⟨⟨x, s1⟩, h1, e⟩ := bnd e
  obtain ⟨n, h2, e⟩ := bnd e
  obtain ⟨ds, h3, e⟩ := bnd e
  obtain ⟨d', h4, e⟩ := mpd e
  cases e
  refine ho dk H0 F0 F σ H env st x s1 g h1 _ fun v F1 H1 x1 g1 r1 => ?_
  have hx : x = .ref n := refOf_eq h2
  subst hx
  obtain ⟨a, rfl, ha⟩ := r1.refn
  obtain ⟨vs, hv, rv⟩ := g1.wd.lstAt ha h3
  obtain ⟨u, k1, k2⟩ := rv.get h4
  refine ⟨.inl ⟨rfl, vs, SqL.of hv⟩, a, vs, u, rfl, rfl, hv, by rw [rv.length]; exact k1, ?_⟩
  have nf : ¬ Fro (.lst vs) := by rintro ⟨_, _, z⟩; cases z
  have nf' : ¬ Fro (.lst vs.dropLast) := by rintro ⟨_, _, z⟩; cases z
  exact q u F1 _ (x1.put ha hv nf nf') (g1.put ha hv nf (.lst upd_same rv.dropLast) nf') k2
theorem Rps.erase : ∀ {vs : List V} {ds : List D} (n : Nat), Rps K dk F vs ds → Rps K dk F (vs.eraseIdx n) (ds.eraseIdx n)
  | _, _, _, .nil => .nil
  | _, _, 0, .cons _ r => r
  | _, _, n + 1, .cons a r => .cons a (Rps.erase n r)
def spopAt (fo fi : ME) : ME := fun env st => (fo env st).bind fun o => (refOf o.1).bind fun n => (lstAt o.2 n).bind fun _ => (fi env o.2).bind fun p => (intOf p.1).bind fun i => (lstAt p.2 n).bind fun ds => if 0 ≤ i ∧ i < ds.length ∧ ds.length ≤ sizeLine then (ds[i.toNat]?).map fun d => (d, p.2.put n (.lst (ds.eraseIdx i.toNat))) else none
theorem im_spopAt {to ti : TE} {fo fi : ME} (ho : Im K to fo) (hi : ImW K ti fi) : Im K (tBM K "list" rPopAt to (tCons ti tNil)) (spopAt fo fi) := fun dk H0 F0 F σ H env st d st' g e Q q => by
  obtain ⟨⟨x, s1⟩, h1, e⟩ := bnd e
  obtain ⟨n, h2, e⟩ := bnd e
  obtain ⟨_, h0, e⟩ := bnd e
  obtain ⟨⟨y, s2⟩, h3, e⟩ := bnd e
  obtain ⟨i, h4, e⟩ := bnd e
  obtain ⟨ds, h5, e⟩ := bnd e
  split at e
  · rename_i hz
    obtain ⟨d', h6, e⟩ := mpd e
    cases e
    refine ho dk H0 F0 F σ H env st x s1 g h1 _ fun v F1 H1 x1 g1 r1 => ?_
    have hx : x = .ref n := refOf_eq h2
    subst hx
    obtain ⟨a, rfl, ha⟩ := r1.refn
    obtain ⟨vs0, hv0, _⟩ := g1.wd.lstAt ha h0
    refine ⟨.inl ⟨rfl, vs0, SqL.of hv0⟩, ?_⟩
    refine hi dk H0 F0 F1 σ H1 env s1 y s2 g1 h3 _ fun u F2 H2 x2 g2 r2 => ?_
    have hy : y = .int i := by
      cases y <;> first | (cases h4; rfl) | cases h4
    subst hy
    have ha2 := x2.f.at ha
    obtain ⟨vs, hv, rv⟩ := g2.wd.lstAt ha2 h5
    obtain ⟨w, k1, k2⟩ := rv.get h6
    have hl := rv.length
    have hs : ds.length ≤ 16777216 := Nat.le_trans hz.2.2 (by rw [sizeLine_eq]; omega)
    refine ⟨a, vs, i, i.toNat, w, rfl, by rw [r2.w.int], hv, by omega, by omega, ?_, k1, ?_⟩
    · unfold seqIndex?
      rw [hl]
      have e1 : ¬ i < 0 := by omega
      have e2 : (decide (0 ≤ i) && decide (i < (ds.length : Int))) = true := by simp [hz.1, hz.2.1]
      simp [e1, hz.1, hz.2.1]
    · have nf : ¬ Fro (.lst vs) := by rintro ⟨_, _, z⟩; cases z
      have nf' : ¬ Fro (.lst (vs.eraseIdx i.toNat)) := by rintro ⟨_, _, z⟩; cases z
      exact q w F2 _ ((x1.trans x2).put ha2 hv nf nf') (g2.put ha2 hv nf (.lst upd_same (rv.erase i.toNat)) nf') k2
  · cases e
end
end MD

set_option Elab.async false
set_option linter.all false
set_option maxRecDepth 100000
set_option maxHeartbeats 1000000
namespace MD
open PySem L2
variable {ww : WW}
/-- where a thing is so -/
noncomputable def cif {α : Type} (p : Prop) (o : Option α) : Option α := @ite _ p (Classical.propDecidable p) o none
theorem cif_eq {α : Type} (p : Prop) [d : Decidable p] (o : Option α) : (if p then o else none) = cif p o := by
  unfold cif
  by_cases h : p
  · rw [if_pos h, if_pos h]
  · rw [if_neg h, if_neg h]
theorem cif_of {α : Type} {p : Prop} {o : Option α} (h : p) : cif p o = o := if_pos h
theorem of_cif {α : Type} {p : Prop} {o : Option α} {a : α} (h : cif p o = some a) : p ∧ o = some a := by
  unfold cif at h
  by_cases hp : p
  · rw [if_pos hp] at h; exact ⟨hp, h⟩
  · rw [if_neg hp] at h; cases h
section
variable {K : Fg} {dk : Dk} {F F' F0 : Fz} {H H' H0 : Hp} {σ σ' : L2.St} {env env' : Sg} {st st' st'' : S}
/-! ### for x in e, e a list of the store that stays meanwhile -/
noncomputable def forLc (n : Nat) (ds0 : List D) (t : MG) (b : MS) : List D → MS
  | [], env, st => cif (lstAt st n = some ds0) (some (.nx env, st))
  | d :: ds, env, st => cif (lstAt st n = some ds0) ((t d env).bind fun env1 => (b env1 st).bind fun p => match p.1 with
    | .nx e => forLc n ds0 t b ds e p.2
    | .ct e => forLc n ds0 t b ds e p.2
    | .bk e => some (.nx e, p.2)
    | .rt r => some (.rt r, p.2))
noncomputable def forR (f : ME) (t : MG) (b : MS) : MS := fun env st => (f env st).bind fun p => match p.1 with
  | .ref n => (lstAt p.2 n).bind fun ds => forLc n ds t b ds env p.2
  | d => (seqOf d).bind fun ds => forL t b ds env p.2
theorem is_forR {te : TE} {f : ME} {g : TG} {tb : TS} {t : MG} {b : MS} {is : List Nat} (h : Im K te f) (hg : ImG K g t is) (hb : ImS K tb b) : ImS K (tFor (iSeq K te) g tb) (forR f t b) := fun dk H0 F0 F σ H env st fl st' gd e E hd => by
  obtain ⟨⟨d, s1⟩, e1, e⟩ := bnd e
  by_cases hr : ∃ n, d = .ref n
  · obtain ⟨n, rfl⟩ := hr
    obtain ⟨ds, e2, e⟩ := bnd (show ((lstAt s1 n).bind fun ds => forLc n ds t b ds env s1) = some (fl, st') from e)
    refine h dk H0 F0 F σ H env st _ s1 gd e1 _ fun v F1 H1 x1 g1 r1 => ?_
    obtain ⟨a, rfl, ha⟩ := r1.refn
    obtain ⟨vs, hv, rv⟩ := g1.wd.lstAt ha e2
    refine .inl ⟨a, rfl, ⟨vs, SqL.of hv⟩, ?_⟩
    have hd1 := hd.mono x1.f
    let P : Nat → L2.St → Hp → Prop := fun i σ H => ∃ F2 env st, Le F1 F2 ∧ Good K dk H0 F0 F2 σ H env st ∧ forLc n ds t b (ds.drop i) env st = some (fl, st')
    refine ⟨fun i m σ H => m = ds.length - i ∧ i ≤ ds.length ∧ P i σ H, ⟨_, rfl, Nat.zero_le _, F1, env, s1, Le.refl F1, g1, e⟩, ?_⟩
    rintro i m σ2 H2 ⟨rfl, hle, F2, env2, s2, le2, g2, e3⟩
    by_cases hlt : i < ds.length
    · have hdi : ds[i]? = some ds[i] := List.getElem?_eq_getElem hlt
      rw [List.drop_eq_getElem_cons hlt] at e3
      obtain ⟨ck, e3⟩ := of_cif e3
      obtain ⟨us, hu, ru⟩ := g2.wd.lstAt (le2.at ha) ck
      obtain ⟨w, k1, k2⟩ := ru.get hdi
      refine .inr ⟨⟨us, w, SqL.of hu, k1⟩, P (i + 1), fun σ' H' hp => ⟨_, by omega, rfl, hlt, hp⟩, fun x H3 hx => ?_⟩
      obtain ⟨ee, e4⟩ := hx
      subst ee
      have ev := e4 us (SqL.of hu)
      rw [k1] at ev
      cases ev
      obtain ⟨env3, e5, e3⟩ := bnd e3
      obtain ⟨⟨fl3, s3⟩, e6, e3⟩ := bnd e3
      refine hg dk H0 F0 F2 σ2 _ env2 s2 w _ env3 g2 k2 e5 _ fun σ4 g4 _ => ?_
      refine hb dk H0 F0 F2 σ4 _ env3 s2 fl3 s3 g4 e6 _ ?_
      cases fl3 with
      | nx e7 => exact fun F5 σ5 H5 l5 g5 => ⟨F5, e7, s3, le2.trans l5, g5, e3⟩
      | ct e7 => exact fun F5 σ5 H5 l5 g5 => ⟨F5, e7, s3, le2.trans l5, g5, e3⟩
      | bk e7 =>
        cases e3
        exact fun F5 σ5 H5 l5 g5 => hd1 F5 σ5 H5 (le2.trans l5) g5
      | rt r =>
        cases e3
        exact hd1
    · have ei : i = ds.length := by omega
      subst ei
      rw [List.drop_length] at e3
      obtain ⟨ck, e3⟩ := of_cif e3
      cases e3
      obtain ⟨us, hu, ru⟩ := g2.wd.lstAt (le2.at ha) ck
      exact .inl ⟨⟨us, SqL.of hu, by rw [ru.length]; exact Nat.le_refl _⟩, hd1 F2 σ2 H2 le2 g2⟩
  · refine is_for (ii_seq h) hg hb dk H0 F0 F σ H env st fl st' gd ?_ E hd
    have ee : ((seqOf d).bind fun ds => forL t b ds env s1) = some (fl, st') := by
      cases d with
      | ref n => exact absurd ⟨n, rfl⟩ hr
      | _ => exact e
    obtain ⟨ds, e2, e3⟩ := bnd ee
    show ((seqI f env st).bind fun p => forL t b p.1 env p.2) = _
    have : seqI f env st = some (ds, s1) := by
      unfold seqI
      rw [e1]
      show (seqOf d).map _ = _
      rw [e2]; rfl
    rw [this]
    exact e3
end
end MD

set_option Elab.async false
set_option linter.all false
set_option maxRecDepth 100000
set_option maxHeartbeats 1000000
namespace MD
open PySem L2
variable {ww : WW}
/-! ### an expression whose value goes to a name: data, or a new thing of its own -/
abbrev MX := Sg → S → Option (Sl × S)
/-- what an argument gives, as it stands at F, H -/
def XOk (K : Fg) (dk : Dk) (F : Fz) (H H0 : Hp) (v : V) : Sl → Prop
  | .un => False
  | .val d => Rp K dk F v d
  | .own w => ∃ p vs, v = .ref p ∧ w.1.At H p vs ∧ F.out p ∧ H0 p = none ∧ p ≠ dk.1 ∧ p ≠ dk.2 ∧ Rps K dk F vs w.2
def ImX [WW] (K : Fg) (te : TE) (f : MX) : Prop := ∀ (dk : Dk) (H0 : Hp) (F0 F : Fz) (σ : L2.St) (H : Hp) (env : Sg) (st : S) (s : Sl) (st' : S), Good K dk H0 F0 F σ H env st → f env st = some (s, st') →
  ∀ Q : VK, (∀ v F' H', Ext dk F H F' H' → Good K dk H0 F0 F' σ H' env st' → XOk K dk F' H' H v s → Q v H') → te σ H Q
def xV (f : ME) : MX := fun env st => (f env st).map fun p => (.val p.1, p.2)
def xL (f : MA) : MX := fun env st => (f env st).map fun p => (.own (.lst, p.1), p.2)
def xK (f : MK) : MX := fun env st => (f env st).map fun p => (.own (.dic p.1.1, p.1.2), p.2)
section
variable {K : Fg} {dk : Dk} {F F' F0 : Fz} {H H' H0 : Hp} {σ σ' : L2.St} {env env' : Sg} {st st' st'' : S}
theorem Im.x {te : TE} {f : ME} (h : Im K te f) : ImX K te (xV f) := fun dk H0 F0 F σ H env st s st' g e Q q => by
  obtain ⟨⟨d, s1⟩, e1, e⟩ := mpd e
  cases e
  exact h dk H0 F0 F σ H env st d s1 g e1 Q fun v F1 H1 x1 g1 r1 => q v F1 H1 x1 g1 r1
theorem ImF.x {te : TE} {f : MA} (h : ImF K te f) : ImX K te (xL f) := fun dk H0 F0 F σ H env st s st' g e Q q => by
  obtain ⟨⟨ds, s1⟩, e1, e⟩ := mpd e
  cases e
  refine h dk H0 F0 F σ H env st ds s1 g e1 Q fun p vs F1 H1 x1 g1 hp fp hl r => ?_
  have nd := g.nedk hp
  exact q _ F1 H1 x1 g1 ⟨p, vs, rfl, hl, fp, hp, nd.1, nd.2, r⟩
theorem ImK.x {te : TE} {f : MK} (h : ImK K te f) : ImX K te (xK f) := fun dk H0 F0 F σ H env st s st' g e Q q => by
  obtain ⟨⟨⟨ks, ds⟩, s1⟩, e1, e⟩ := mpd e
  cases e
  refine h dk H0 F0 F σ H env st _ s1 g e1 Q fun p vs F1 H1 x1 g1 hp fp hl hl2 r => ?_
  have nd := g.nedk hp
  exact q _ F1 H1 x1 g1 ⟨p, vs, rfl, ⟨hl, hl2⟩, fp, hp, nd.1, nd.2, r⟩
theorem XOk.ext {v : V} {s : Sl} (h : XOk K dk F H H0 v s) (x : Ext dk F H F' H') : XOk K dk F' H' H0 v s := by
  cases s with
  | un => exact h
  | val d => exact Rp.mono x.f h
  | own w =>
    obtain ⟨p, vs, h1, h2, h3, h4, h5, h6, h7⟩ := h
    exact ⟨p, vs, h1, h2.keep fun o e => x.h _ _ e h5 h6 (.inl h3.2), x.out h3 (by obtain ⟨o, ho⟩ := h2.some; exact nn ho), h4, h5, h6, h7.mono x.f⟩
/-- a slot gets it -/
theorem Good.setX {i : Nat} {v : V} {s : Sl} {Hb : Hp} (g : Good K dk H0 F0 F σ H env st) (h : XOk K dk F H Hb v s) (hb : ∀ p, Hb p = none → H0 p = none) (no : ∀ p, Hb p = none → ∀ (j : Nat) (es : Own), env[j]? = some (.own es) → σ[j]? ≠ some (some (.ref p))) :
    Good K dk H0 F0 F (σ.set i (some v)) H (env.set i s) st := by
  cases s with
  | un => exact h.elim
  | val d => exact g.set h
  | own w =>
    obtain ⟨p, vs, rfl, h2, h3, h4, h5, h6, h7⟩ := h
    exact g.setO h2 h3 (hb p h4) h5 h6 (no p h4) h7
def par2 (i j : Nat) (fa fb : MX) : MS := fun env st => (fa env st).bind fun p => (fb env p.2).map fun q => (.nx ((env.set i p.1).set j q.1), q.2)
theorem is_par2 {ta tb : TE} {fa fb : MX} (i j : Nat) (ha : ImX K ta fa) (hb : ImX K tb fb) : ImS K (tPar i j (tCons ta (tCons tb tNil))) (par2 i j fa fb) := fun dk H0 F0 F σ H env st fl st' g e E hd => by
  obtain ⟨⟨s1, t1⟩, e1, e⟩ := bnd e
  obtain ⟨⟨s2, t2⟩, e2, e⟩ := mpd e
  cases e
  refine ha dk H0 F0 F σ H env st s1 t1 g e1 _ fun v F1 H1 x1 g1 k1 => ?_
  refine hb dk H0 F0 F1 σ H1 env t1 s2 t2 g1 e2 _ fun u F2 H2 x2 g2 k2 => ?_
  refine ⟨v, u, rfl, hd F2 _ H2 (x1.f.trans x2.f) ?_⟩
  have g3 : Good K dk H0 F0 F2 (σ.set i (some v)) H2 (env.set i s1) t2 := g2.setX (k1.ext x2) (fun p hp => g.fresh0 hp) fun p hp => g.noown hp
  refine g3.setX k2 (fun p hp => g1.fresh0 hp) fun p hp jj es hj z => ?_
  by_cases hi : i = jj
  · subst hi
    have hl : i < env.length := by
      by_cases hl : i < env.length
      · exact hl
      · rw [List.getElem?_eq_none (by rw [List.length_set]; omega)] at hj; cases hj
    rw [List.getElem?_set_self hl] at hj
    rw [List.getElem?_set_self (by rw [g.len]; exact hl)] at z
    cases hj
    cases z
    obtain ⟨p', vs, ep, h2, _⟩ := k1
    cases ep
    obtain ⟨o, ho⟩ := h2.some
    rw [hp] at ho; cases ho
  · rw [List.getElem?_set_ne hi] at hj z
    exact g1.noown hp jj es hj z
end
end MD

set_option Elab.async false
set_option linter.all false
set_option maxRecDepth 100000
set_option maxHeartbeats 1000000
namespace MD
open PySem PyProof.Rows L2
variable {ww : WW}
theorem units1 {n : Nat} (h : n + 64 < cLine) : n + 1 < cLine := by omega
theorem ps_or2 {X : Cx} {st : Stmt} {t : TE} {i : Nat} (h : PS X st (tLock (tAsg t (gName i)))) (h' : PS X st (tAsg t (gName i))) : PS X st (tAsg (fun σ H Q => tLockE t σ H Q ∨ t σ H Q) (gName i)) := ps_or h h'
/-- a def that is not yet known to keep anything -/
theorem fn0 {P : Program} {w : World} {K : Fg} {mg : Str → Option Value} {base : Heap} {k n : Nat} {f : Addr} {fd : FuncData} {ps : List Str} (h : n = ps.length) : FnG P w K mg base k f fd ps (spD K n fun _ _ => none) :=
  ⟨fun vs H Q E q => q.1.trans h, fun A outer s H args us vs Q E _ _ _ _ _ q => by
    obtain ⟨_, _, _, _, _, _, _, _, _, z, _⟩ := q
    cases z⟩
section
variable {K : Fg} {dk : Dk} {F F' F0 : Fz} {H H' H0 : Hp} {σ σ' : L2.St} {env env' : Sg} {st st' st'' : S}
def min2M : List D → Option D
  | [.int m, .int n] => some (.int (if n < m then n else m))
  | _ => none
def max2M : List D → Option D
  | [.int m, .int n] => some (.int (if n > m then n else m))
  | _ => none
theorem rc_min2 : RC K (fun xs H Q => ∃ m n, xs = [V.int m, V.int n] ∧ Q (.int (if n < m then n else m)) H) min2M := by
  intro dk F H st vs ds z w rx hz Q q
  unfold min2M at hz
  split at hz
  · cases hz
    obtain ⟨v, u, rfl, r1, r2⟩ := rx.two
    cases r1.int
    cases r2.int
    exact ⟨_, _, rfl, q _ F H (Px.refl w.sub) (.int _)⟩
  · cases hz
theorem rc_max2 : RC K (fun xs H Q => ∃ m n, xs = [V.int m, V.int n] ∧ Q (.int (if n > m then n else m)) H) max2M := by
  intro dk F H st vs ds z w rx hz Q q
  unfold max2M at hz
  split at hz
  · cases hz
    obtain ⟨v, u, rfl, r1, r2⟩ := rx.two
    cases r1.int
    cases r2.int
    exact ⟨_, _, rfl, q _ F H (Px.refl w.sub) (.int _)⟩
  · cases hz
/-! a new list by * -/
def lstMul : D → D → Option (List D)
  | .lst ds, .int k => if ds.length ≤ 1000 ∧ -1000 ≤ k ∧ k ≤ 1000 then some (List.replicate k.toNat ds).flatten else none
  | _, _ => none
theorem rof_mul : ROF K rRep lstMul := by
  intro dk F H st x y d e z w rx ry hz Q q
  unfold lstMul at hz
  split at hz
  · rename_i ds k
    split at hz
    · rename_i hc
      cases hz
      obtain ⟨p, vs, rfl, hp, r⟩ := rx.l w.sub
      cases ry.int
      refine ⟨p, k, vs, rfl, rfl, hp, by omega, by omega, ?_, fun a ha => q a _ ha (r.rep k.toNat)⟩
      rw [r.length, sizeLine_eq]
      have a1 : ds.length * k.toNat ≤ 1000 * 1000 := Nat.mul_le_mul hc.1 (by omega)
      omega
    · cases hz
  · cases hz
@[simp] theorem v_opF {g : D → D → Option (List D)} {fa fb : ME} {env : Sg} {st : S} : opF g fa fb env st = (fa env st).bind fun p => (fb env p.2).bind fun q => (g (dr q.2 p.1) (dr q.2 q.1)).map fun z => (z, q.2) := (rfl)
/-! xs[i] = e, of a name's own list -/
def lsetM (i : Nat) (fk fv : ME) : MS := fun env st => match env[i]? with
  | some (.own (.lst, ds)) => (fv env st).bind fun p => (fk env p.2).bind fun q => (intOf q.1).bind fun k => (ixN ds.length k).map fun j => (.nx (env.set i (.own (.lst, ds.set j p.1))), q.2)
  | _ => none
@[simp] theorem v_lsetM {i : Nat} {fk fv : ME} {env : Sg} {st : S} : lsetM i fk fv env st = (match env[i]? with
  | some (.own (.lst, ds)) => (fv env st).bind fun p => (fk env p.2).bind fun q => (intOf q.1).bind fun k => (ixN ds.length k).map fun j => (.nx (env.set i (.own (.lst, ds.set j p.1))), q.2)
  | _ => none) := (rfl)
theorem is_lset {ty tv : TE} {fk fv : ME} (i : Nat) (hk : ImW K ty fk) (hv : Im K tv fv) : ImS K (tAsg tv (gSub (tVar i) ty rSetL)) (lsetM i fk fv) := fun dk H0 F0 F σ H env st fl st' g e E hd => by
  unfold lsetM at e
  split at e
  · rename_i ds he
    obtain ⟨⟨d, s1⟩, e1, e⟩ := bnd e
    obtain ⟨⟨y, s2⟩, e2, e⟩ := bnd e
    obtain ⟨k, e3, e⟩ := bnd e
    obtain ⟨j, e4, e⟩ := mpd e
    cases e
    obtain ⟨p, vs, h1, h2, h3, h4, h5, h6, h7⟩ := g.sl i _ he
    refine hv dk H0 F0 F σ H env st d s1 g e1 _ fun v F1 H1 x1 g1 r1 => ?_
    refine ⟨.ref p, join_eq h1, hk dk H0 F0 F1 σ H1 env s1 y s2 g1 e2 _ fun u F2 H2 x2 g2 r2 => ?_⟩
    have x12 := x1.trans x2
    have hy : y = .int k := by
      cases y <;> first | (cases e3; rfl) | cases e3
    subst hy
    refine ⟨p, vs, k, j, rfl, r2.w.int, x12.h _ _ h2 h5 h6 (.inl h3.2), by rw [h7.length]; exact e4, ?_⟩
    exact hd F2 σ _ x12.f (g2.mut (ds' := (.lst, ds.set j d)) he (join_eq h1) upd_same (Rps.set (r1.mono x2.f) j (h7.mono x12.f)))
  · cases e
@[simp] theorem v_par2 {i j : Nat} {fa fb : MX} {env : Sg} {st : S} : par2 i j fa fb env st = (fa env st).bind fun p => (fb env p.2).map fun q => (.nx ((env.set i p.1).set j q.1), q.2) := (rfl)
@[simp] theorem v_xV {f : ME} {env : Sg} {st : S} : xV f env st = (f env st).map fun p => (Sl.val p.1, p.2) := (rfl)
@[simp] theorem v_xL {f : MA} {env : Sg} {st : S} : xL f env st = (f env st).map fun p => (Sl.own (.lst, p.1), p.2) := (rfl)
@[simp] theorem v_xK {f : MK} {env : Sg} {st : S} : xK f env st = (f env st).map fun p => (Sl.own (.dic p.1.1, p.1.2), p.2) := (rfl)
/-! dict(list of pairs) -/
def prsD : List D → Option (List (Key × D))
  | [] => some []
  | .tup [k, d] :: r => (keyOf k).bind fun k => (prsD r).map ((k, d) :: ·)
  | _ => none
def prsK (f : ME) : MK := fun env st => (f env st).bind fun p => match p.1 with
  | .lst ds => (prsD ds).map fun l => (mrgL [] [] l, p.2)
  | _ => none
theorem prs_ok (s : Sb F H) : ∀ {vs : List V} {ds : List D} {l : List (Key × D)}, Rps K dk F vs ds → prsD ds = some l → ∃ (ps : List Addr) (kvs : List (Key × V)), vs = ps.map V.ref ∧ Paired (fun p kv => SqT K H p [kV kv.1, kv.2]) ps kvs ∧ Rpk K dk F kvs l
  | _, [], l, .nil, h => by cases h; exact ⟨[], [], rfl, .nil, .nil⟩
  | v :: vs, d :: ds, l, .cons a b, h => by
    unfold prsD at h
    split at h
    · rename_i hh; cases hh
    · rename_i k e r hh
      cases hh
      obtain ⟨k', h1, h⟩ := bnd h
      obtain ⟨l', h2, h⟩ := mpd h
      subst h
      cases a with
      | tup hq rr =>
        cases rr with
        | cons q1 q2 => cases q2 with
          | cons q2 q3 =>
            cases q3
            obtain ⟨ps, kvs, e1, e2, e3⟩ := prs_ok s b h2
            refine ⟨_ :: ps, (k', _) :: kvs, by rw [e1]; rfl, .cons ?_ e2, .cons q2 e3⟩
            have := keyOf_rw (H := H) (.rp q1) h1
            rw [← this]
            exact s.sqT hq
    · cases h
theorem ik_prs {te : TE} {f : ME} (h : Im K te f) : ImK K (tCB (fun xs H Q => ∃ (a : Addr) (ps : List Addr) (kvs : List (Key × V)), xs = [.ref a] ∧ SqL K H a (ps.map V.ref) ∧ Paired (fun p kv => SqT K H p [kV kv.1, kv.2]) ps kvs ∧
    ∀ p, H p = none → Q (.ref p) (upd H p (.dK (mergeK [] kvs)))) (tCons te tNil)) (prsK f) := fun dk H0 F0 F σ H env st kd st' g e Q q => by
  obtain ⟨⟨x, s1⟩, h1, e⟩ := bnd e
  refine h dk H0 F0 F σ H env st x s1 g h1 _ fun v F1 H1 x1 g1 r1 => ?_
  cases x with
  | lst ds =>
    obtain ⟨l, h2, e⟩ := mpd (show (prsD ds).map (fun l => (mrgL [] [] l, s1)) = some (kd, st') from e)
    cases e
    cases r1 with
    | lst ha r =>
      obtain ⟨ps, kvs, e1, e2, e3⟩ := prs_ok g1.wd.sub r h2
      subst e1
      refine ⟨_, ps, kvs, rfl, SqL.of (g1.wd.sub.lst ha), e2, fun p hp => ?_⟩
      have px : Px F1 H1 F1 (upd H1 p (.dK (mergeK [] kvs))) := Px.lay g1.wd.sub hp
      obtain ⟨z1, z2⟩ := mrg_zip kvs [] [] rfl
      obtain ⟨y1, y2⟩ := mrg_rps (K := K) (dk := dk) (F := F1) [] e3 Rps.nil
      exact q p (mrgL [] [] kvs).2 F1 _ (x1.trans px.ext) (g1.px px) (x1.back hp) (g1.wd.out hp) (by rw [upd_same, ← y1]; exact congrArg (fun z => some (HO.dK z)) z1) (by rw [← y1]; exact z2) y2
  | _ => cases e
end
end MD

set_option Elab.async false
set_option linter.all false
set_option maxRecDepth 100000
set_option maxHeartbeats 1000000
namespace MD
open PySem L2
variable {ww : WW}
/-! ### a < b of data -/
def rLtD (K : Fg) : R2 := fun x y H Q => ∃ d e, Dp K H x d ∧ Dp K H y e ∧ PySem.W.alike d e = true ∧ d ≠ .none ∧ d.depth ≤ 60 ∧ Q (.bl (PySem.W.dataLt d e)) H
theorem op_ltD {X : Cx} (hu : X.A.units + 64 < cLine) : OpR X (compareOp .Lt) (rLtD X.K) := by
  intro pins s σ H x y v u Q I rx ry h
  obtain ⟨d, e, hd, he, hal, hn, hdp, q⟩ := h
  obtain ⟨as, r1⟩ := Dp.reads I _ _ _ hd rx
  obtain ⟨bs, r2⟩ := Dp.reads I _ _ _ he ry
  exact PySem.W.rcLt_alike d e X.A s v u as bs r1 r2 hal hn (by omega) X.prog X.w _ _ ⟨.bl _, H, I, rfl, q⟩
def rLtA (K : Fg) : R2 := fun x y H Q => rI0 (fun i j => .bl (decide (i < j))) x y H Q ∨ rLtD K x y H Q
theorem op_ltA {X : Cx} (hu : X.A.units + 64 < cLine) : OpR X (compareOp .Lt) (rLtA X.K) := OpR.or op_lt (op_ltD hu)
def ltA : D → D → Option D
  | .int i, .int j => some (.bl (decide (i < j)))
  | .tup a, .tup b => if (D.tup a).pl && (D.tup b).pl && PySem.W.alike (D.tup a).py (D.tup b).py && decide ((D.tup a).py.depth ≤ 60) then some (.bl (PySem.W.dataLt (D.tup a).py (D.tup b).py)) else none
  | _, _ => none
section
variable {K : Fg} {dk : Dk} {F F' F0 : Fz} {H H' H0 : Hp}
theorem ro_ltA : RO K (rLtA K) ltA := by
  intro dk F H st x y d e z w rx ry hz Q q
  unfold ltA at hz
  split at hz
  · exact .inl (ro_lt dk F H st x y _ _ z w rx ry hz Q q)
  · split at hz
    · rename_i ho
      cases hz
      simp only [Bool.and_eq_true, decide_eq_true_eq] at ho
      refine .inr ⟨_, _, rx.dp w.sub ho.1.1.1, ry.dp w.sub ho.1.1.2, ho.1.2, ?_, ho.2, q _ F H (Px.refl w.sub) (.bl _)⟩
      intro z
      rw [D.py] at z
      cases z
    · cases hz
  · cases hz
end
/-! (number, text) < (number, text) -/
@[simp] theorem v_ltI {i j : Int} : ltA (.int i) (.int j) = some (.bl (decide (i < j))) := (rfl)
theorem lt_pair (i j : Int) (x y : Str) : ltA (.tup [.int i, .str x]) (.tup [.int j, .str y]) = some (.bl (decide (i < j ∨ (i = j ∧ x.cps.toList < y.cps.toList)))) := by
  have e : PySem.W.dataLt (D.tup [.int i, .str x]).py (D.tup [.int j, .str y]).py = decide (i < j ∨ (i = j ∧ x.cps.toList < y.cps.toList)) := by
    show PyProof.Rows.lexLt PyProof.Rows.itemOrd [.inl 1, .inl i, .inl 1, .inr x.cps.toList, .inl 0] [.inl 1, .inl j, .inl 1, .inr y.cps.toList, .inl 0] = _
    rw [PyProof.Rows.lex_self]
    by_cases hij : i = j
    · subst hij
      rw [PyProof.Rows.lex_self, PyProof.Rows.lex_self]
      by_cases hxy : x.cps.toList = y.cps.toList
      · rw [hxy, PyProof.Rows.lex_self, PyProof.Rows.lex_irrefl]
        have h1 : ¬ y.cps.toList < y.cps.toList := List.lt_irrefl _
        simp [h1]
      · rw [PyProof.Rows.lex_diff (fun z => hxy (Sum.inr.inj z))]
        show decide (x.cps.toList < y.cps.toList) = _
        simp
    · rw [PyProof.Rows.lex_diff (fun z => hij (Sum.inl.inj z))]
      show decide (i < j) = _
      simp [hij]
  show (if (D.tup [.int i, .str x]).pl && (D.tup [.int j, .str y]).pl && PySem.W.alike (D.tup [.int i, .str x]).py (D.tup [.int j, .str y]).py && decide ((D.tup [.int i, .str x]).py.depth ≤ 60) then some (D.bl (PySem.W.dataLt (D.tup [.int i, .str x]).py (D.tup [.int j, .str y]).py)) else none) = _
  rw [e, if_pos]
  have h2 : (D.tup [.int i, .str x]).py.depth ≤ 60 := by simp [D.py, pyAll, PyData.depth, PyData.depthAll]
  rw [decide_eq_true h2]
  simp [D.pl, plAll, D.py, pyAll, PySem.W.alike, PySem.W.alikeAll]
end MD

set_option Elab.async false
set_option linter.all false
namespace MD
open PySem PySem.Spec PyProof.Rows L2
variable {ww : WW}
variable {K : Fg} {dk : Dk} {F : Fz}
/-! ### list(range(..)) -/
theorem rps_rg (a b : Int) : Rps K dk F (rgV a b) (rngD a (b - a).toNat) := by
  unfold rgV rngD
  generalize List.range (b - a).toNat = xs
  induction xs with
  | nil => exact .nil
  | cons x xs ih => exact .cons (.int _) ih
theorem fin_rg {H0 : Hp} {F0 : Fz} {σ : L2.St} {H : Hp} {env : Sg} {st : S} {a b : Int} (g : Good K dk H0 F0 F σ H env st) {Q : VK}
    (q : ∀ p vs F' H', Ext dk F H F' H' → Good K dk H0 F0 F' σ H' env st → H p = none → F'.out p → H' p = some (.lst vs) → Rps K dk F' vs (rngD a (b - a).toNat) → Q (.ref p) H') :
    ∀ p, H p = none → Q (.ref p) (upd H p (.lst (rgV a b))) := fun p hp => by
  have px : Px F H F (upd H p (.lst (rgV a b))) := Px.lay g.wd.sub hp
  exact q p _ F _ px.ext (g.px px) hp (g.wd.out hp) upd_same (rps_rg a b)
def lrg1M (a : ME) : MA := fun env st => (a env st).bind fun p => match p.1 with
  | .int j => if 0 ≤ j ∧ j ≤ 1000000 then some (rngD 0 (j - 0).toNat, p.2) else none
  | _ => none
def lrg2M (a b : ME) : MA := fun env st => (a env st).bind fun p => (b env p.2).bind fun r => match p.1, r.1 with
  | .int i, .int j => if 0 ≤ i ∧ i ≤ 1000000 ∧ 0 ≤ j ∧ j ≤ 1000000 then some (rngD i (j - i).toNat, r.2) else none
  | _, _ => none
theorem if_lrg1 {ta : TE} {a : ME} (ha : Im K ta a) : ImF K (tLstRg (tRg1 ta)) (lrg1M a) := fun dk H0 F0 F σ H env st d st' g e Q q => by
  obtain ⟨⟨x, s1⟩, h1, e⟩ := bnd e
  refine ha dk H0 F0 F σ H env st x s1 g h1 _ fun v F1 H1 x1 g1 r1 => ?_
  dsimp only at e
  split at e
  · split at e
    · rename_i j hj
      cases e
      cases r1
      exact ⟨j, rfl, RgOk.of_le (by omega) (by omega) (by omega) (by omega), fin_rg g1 fun p vs F' H' x2 g2 hp => q p vs F' H' (x1.trans x2) g2 (x1.back hp)⟩
    · cases e
  · cases e
theorem if_lrg2 {ta tb : TE} {a b : ME} (ha : Im K ta a) (hb : Im K tb b) : ImF K (tLstRg (tRg2 ta tb)) (lrg2M a b) := fun dk H0 F0 F σ H env st d st' g e Q q => by
  obtain ⟨⟨x, s1⟩, h1, e⟩ := bnd e
  obtain ⟨⟨y, s2⟩, h2, e'⟩ := bnd e
  clear e
  refine ha dk H0 F0 F σ H env st x s1 g h1 _ fun v F1 H1 x1 g1 r1 => ?_
  refine hb dk H0 F0 F1 σ H1 env s1 y s2 g1 h2 _ fun u F2 H2 x2 g2 r2 => ?_
  dsimp only at e'
  split at e'
  · split at e'
    · rename_i i j hj
      cases e'
      cases r1
      cases r2
      exact ⟨i, j, rfl, rfl, RgOk.of_le (by omega) (by omega) (by omega) (by omega), fin_rg g2 fun p vs F' H' x3 g3 hp => q p vs F' H' ((x1.trans x2).trans x3) g3 ((x1.trans x2).back hp)⟩
    · cases e'
  · cases e'
end MD

set_option Elab.async false
set_option linter.all false
namespace MD
open PySem PySem.Spec PyProof.Rows L2
variable {ww : WW}
/-! ### tests of k in d, k not in d -/
theorem pt_or {X : Cx} {e : Expr} {t t' : TE} (h : PT X e (tTest t)) (h' : PT X e (tTest t')) : PT X e (tTest fun σ H Q => t σ H Q ∨ t' σ H Q) :=
  ⟨fun pins s σ H Q I q => q.elim (h.run pins s σ H Q I) (h'.run pins s σ H Q I)⟩
theorem pt_in {X : Cx} {a b : Expr} {pos : Pos} {ta tb : TE} (hu : X.A.units + 1 < cLine) (ha : PE X a ta) (hb : PE X b tb) (hm : behindInMarks .In b = false := by rfl) : PT X (.Compare a [.In] [b] pos) (tTest (tIn X.K ta tb)) :=
  pt_or (pt_cmp (pc_din hu ha hb) hm) (pt_cmpR op_inA ha hb hm)
theorem pt_notIn {X : Cx} {a b : Expr} {pos : Pos} {ta tb : TE} (hu : X.A.units + 1 < cLine) (ha : PE X a ta) (hb : PE X b tb) (hm : behindInMarks .NotIn b = false := by rfl) : PT X (.Compare a [.NotIn] [b] pos) (tTest (tNotIn X.K ta tb)) :=
  pt_or (pt_cmp (pc_dnotin hu ha hb) hm) (pt_cmpR op_notInA ha hb hm)
/-! ### name = {..}, a comprehension, the name a local -/
section
variable {X : Cx}
theorem sw_trueD {kx vx : Expr} {gs : List Comprehension} {scope : Scope} {pos py : Pos} {y : Str} {l : Nat} {env : Env} (hk : env.scope.kind = .function) (hy : env.scope.names.lookup y = some .local) (hl : (py.line == pos.line) = true)
    (ha : (scope.names.any fun (n, k) => n == y && (k == .local || k == .cell)) = false) : swapsWith (.DictComp kx vx gs scope pos) (some (.Name y py)) l env = pure true := by
  have ky : env.kindOf y = some .local := hy
  have hb : env.blockKind = .function := by unfold Env.blockKind; rw [hk]; rfl
  unfold swapsWith
  simp only [hb, ky, ha, Expr.pos, hl]
  rfl
theorem ps_setDc {i : Nat} {y : Str} {py : Pos} {kx vx tg iter : Expr} {ifs : List Expr} {scope : Scope} {own : List (Str × Nat)} {pos spos : Pos} {wi : TI} {g : TG} {tt : TT} {tk tv : TE} (hc : X.calm = true) (hN : X.N.Nodup) (hy : X.N[i]? = some y) (hyl : X.env.scope.names.lookup y = some .local)
    (hsw : swapsWith (.DictComp kx vx [⟨tg, iter, ifs, 0⟩] scope pos) (some (.Name y py)) spos.line X.env = pure true) (hi : PI X tg iter wi) (ok : BlkOk X.N X.env.scope scope own)
    (hg : ∀ (s : Shared) (H : Hp) (C : Addr) (cl : List (Str × Addr)) (fp : List Addr), PG (X.blk s H scope (compEnvC scope cl C X.env) fp) tg g) (ht : ∀ (s : Shared) (H : Hp) (C : Addr) (cl : List (Str × Addr)) (fp : List Addr), PTs (X.blk s H scope (compEnvC scope cl C X.env) fp) ifs tt)
    (hk : ∀ (s : Shared) (H : Hp) (C : Addr) (cl : List (Str × Addr)) (fp : List Addr), PE (X.blk s H scope (compEnvC scope cl C X.env) fp) kx tk)
    (he : ∀ (s : Shared) (H : Hp) (C : Addr) (cl : List (Str × Addr)) (fp : List Addr), PE (X.blk s H scope (compEnvC scope cl C X.env) fp) vx tv) (hs : ∀ x, foldedSetIterable iter X.env x = pure x := by intro _; rfl) :
    PS X (.Assign [.Name y py] (.DictComp kx vx [⟨tg, iter, ifs, 0⟩] scope pos) spos) (tAsg (tDc wi g tt tk tv (own.map (·.2))) (gName i)) := by
  refine ⟨fun pins s σ H D I h => ?_⟩
  rw [exec_Assign_Name_used _ _ _ _ hsw]
  refine wpAny_bind (wpAny_standAt (wpAny_bind ?_))
  show wpAny _ X.A (do let _ ← comprehension (.DictComp kx vx [⟨tg, iter, ifs, 0⟩] scope pos) scope X.env (firstIterPos [⟨tg, iter, ifs, 0⟩] pos) newDict false (eval iter X.env) (some (assign (.Name y py) X.env))) _ _ s
  have h : tDc wi g tt tk tv (own.map (·.2)) σ H (fun x H1 => gName i x σ H1 D.nx) := h
  refine wpAny_bind (thn (dc_core (Qf := fun _ s' => SP X pins D .next s') hc hN I hi ok hg ht hk he hs h fun L C s' m H' I' q hn f => ?_) fun _ s' hq => wpAny_pure (wpAny_pure hq))
  show wpAny _ _ (assign (.Name y py) X.env (.ref L)) _ _ _
  refine wpAny_assign_Name (store_ok2 (v := V.ref L) I' hN hy (.inl hyl) rfl (fun s2 I2 ⟨a, sb, ha⟩ => ?_) (.inr hyl))
  obtain ⟨f0, f1, f2, f3, f4, f5⟩ := f
  have haC : C ≠ a := by
    rcases ha with z | z
    · rw [z]; exact f1
    · exact fun e => f4 y a z e.symm
  refine ⟨m, hn.sameBut sb haC, fun h3 sb3 => ?_⟩
  exact ⟨_, H', I2.turned (t' := s2.toks) (fun b o hb e => (sb3.2 b hb).trans e) f0 f1 f3 f4 f5, q⟩
end
end MD

set_option Elab.async false
set_option linter.all false
set_option maxRecDepth 100000
set_option maxHeartbeats 1000000
namespace MD
open PySem PySem.Spec PyProof.Rows L2
variable {ww : WW}

/-! ### == with an empty list or tuple, whatever the other holds -/
def emE : D → D → Option Bool
  | .lst ds, .lst [] => some ds.isEmpty
  | .tup ds, .tup [] => some ds.isEmpty
  | _, _ => none
def eqN (d e : D) : Option D := (eqM d e).orElse fun _ => (emE d e).map D.bl
def neN (d e : D) : Option D := (neM d e).orElse fun _ => (emE d e).map fun b => D.bl (!b)
def Emp (K : Fg) (x y : V) (H : Hp) (b : Bool) : Prop :=
  ∃ a c xs, x = .ref a ∧ y = .ref c ∧ b = List.isEmpty xs ∧ ((SqL K H a xs ∧ SqL K H c []) ∨ (SqT K H a xs ∧ SqT K H c []))
def rEqE (K : Fg) : R2 := fun x y H Q => ∃ b, Emp K x y H b ∧ Q (.bl b) H
def rNeE (K : Fg) : R2 := fun x y H Q => ∃ b, Emp K x y H b ∧ Q (.bl (!b)) H
theorem vals_nil {its : List Value} (r : Vals [] its) : its = [] := by cases r; rfl
theorem emp_at {X : Cx} {pins : List (Addr × Obj)} {σ : List (Option V)} {H : Hp} {s : Shared} (I : Inv X pins σ H s) (hu : X.A.units + 64 < cLine) {x y : V} {v u : Value} {b : Bool} (h : Emp X.K x y H b) (rx : RelV x v) (ry : RelV y u) :
    SeqAt.RcAt X.A s v u b ∧ SeqAt.RcNeAt X.A s v u (!b) := by
  obtain ⟨a, c, xs, rfl, rfl, rfl, hh⟩ := h
  cases rx
  cases ry
  have hu1 : X.A.units < cLine := by omega
  rcases hh with ⟨h1, h2⟩ | ⟨h1, h2⟩
  · obtain ⟨its, r1, ⟨o, n, ho, hc, _, hd⟩, _⟩ := I.list h1
    obtain ⟨its2, r2, ⟨o2, n2, ho2, hc2, _, hd2⟩, _⟩ := I.list h2
    cases vals_nil r2
    have l1 : s.heap.IsList a its.toArray := ⟨o, ho, hc, n, hd⟩
    have l2 : s.heap.IsList c #[] := ⟨o2, ho2, hc2, n2, hd2⟩
    have hl := r1.length
    cases xs with
    | nil =>
      cases vals_nil r1
      exact ⟨SeqAt.RcAt.lists (e := fun _ => true) l1 l2 rfl hu1 (fun j h1 _ => absurd h1 (by simp)), SeqAt.RcNeAt.lists (e := fun _ => true) l1 l2 rfl hu1 (fun j h1 _ => absurd h1 (by simp))⟩
    | cons x xs =>
      have hz : (its.toArray.size != (#[] : Array Value).size) = true := by
        simp at hl ⊢
        intro z
        rw [z] at hl
        simp at hl
      exact ⟨SeqAt.RcAt.lists_lengths l1 l2 hz hu1, SeqAt.RcNeAt.lists_lengths l1 l2 hz hu1⟩
  · obtain ⟨its, r1, ⟨o, ho, hc, n, hd⟩, _⟩ := I.tuple h1
    obtain ⟨its2, r2, ⟨o2, ho2, hc2, n2, hd2⟩, _⟩ := I.tuple h2
    cases vals_nil r2
    have l1 : s.heap.IsTuple a its.toArray := ⟨o, ho, hc, n, hd⟩
    have l2 : s.heap.IsTuple c #[] := ⟨o2, ho2, hc2, n2, hd2⟩
    have hl := r1.length
    have q1 := SeqAt.RcAt.tuples (e := fun _ => true) l1 l2 hu1 (fun j _ h2 => absurd h2 (by simp))
    have q2 := SeqAt.RcNeAt.tuples (e := fun _ => true) l1 l2 hu1 (fun j _ h2 => absurd h2 (by simp))
    have hb : ((List.range (min its.toArray.size (#[] : Array Value).size)).all (fun _ => true) && its.toArray.size == (#[] : Array Value).size) = xs.isEmpty := by
      cases xs with
      | nil => cases vals_nil r1; rfl
      | cons x xs =>
        have : its ≠ [] := fun z => by rw [z] at hl; simp at hl
        cases its with
        | nil => exact absurd rfl this
        | cons _ _ => simp
    rw [hb] at q1 q2
    exact ⟨q1, q2⟩
theorem op_eqE {X : Cx} (hu : X.A.units + 64 < cLine) : OpR X (compareOp .Eq) (rEqE X.K) := by
  intro pins s σ H x y v u Q I rx ry h
  obtain ⟨b, hb, q⟩ := h
  exact (emp_at I hu hb rx ry).1 X.prog X.w _ _ ⟨.bl b, H, I, rfl, q⟩
theorem op_neE {X : Cx} (hu : X.A.units + 64 < cLine) : OpR X (compareOp .NotEq) (rNeE X.K) := by
  intro pins s σ H x y v u Q I rx ry h
  obtain ⟨b, hb, q⟩ := h
  exact (emp_at I hu hb rx ry).2 X.prog X.w _ _ ⟨.bl (!b), H, I, rfl, q⟩
section
variable {K : Fg}
theorem emE_ok {dk : Dk} {F : Fz} {H : Hp} (s : Sb F H) {x y : V} {d e : D} {b : Bool} (rx : Rw K dk F H x d) (ry : Rw K dk F H y e) (h : emE d e = some b) : Emp K x y H b := by
  unfold emE at h
  split at h
  · cases h
    obtain ⟨p, vs, rfl, h1, r1⟩ := rx.l s
    obtain ⟨q, us, rfl, h2, r2⟩ := ry.l s
    cases r2
    refine ⟨p, q, vs, rfl, rfl, ?_, .inl ⟨SqL.of h1, SqL.of h2⟩⟩
    cases r1 <;> rfl
  · cases h
    obtain ⟨p, vs, rfl, h1, r1⟩ := rx.tup s
    obtain ⟨q, us, rfl, h2, r2⟩ := ry.tup s
    cases r2
    refine ⟨p, q, vs, rfl, rfl, ?_, .inr ⟨h1, h2⟩⟩
    cases r1 <;> rfl
  · cases h
theorem ro_eqE : RO K (rEqE K) (fun d e => (emE d e).map D.bl) := by
  intro dk F H st x y d e z w rx ry hz Q q
  obtain ⟨b, hb, rfl⟩ := mpd hz
  exact ⟨b, emE_ok w.sub rx ry hb, q (.bl b) F H (Px.refl w.sub) (.bl b)⟩
theorem ro_neE : RO K (rNeE K) (fun d e => (emE d e).map fun b => D.bl (!b)) := by
  intro dk F H st x y d e z w rx ry hz Q q
  obtain ⟨b, hb, rfl⟩ := mpd hz
  exact ⟨b, emE_ok w.sub rx ry hb, q (.bl (!b)) F H (Px.refl w.sub) (.bl (!b))⟩
def rEqN (K : Fg) : R2 := fun x y H Q => rEqA K x y H Q ∨ rEqE K x y H Q
def rNeN (K : Fg) : R2 := fun x y H Q => rNeA K x y H Q ∨ rNeE K x y H Q
theorem ro_eqN : RO K (rEqN K) eqN := ro_eq.or ro_eqE
theorem ro_neN : RO K (rNeN K) neN := ro_ne.or ro_neE
end
theorem op_eqN {X : Cx} (hu : X.A.units + 64 < cLine) : OpR X (compareOp .Eq) (rEqN X.K) := OpR.or (op_eqA hu) (op_eqE hu)
theorem op_neN {X : Cx} (hu : X.A.units + 64 < cLine) : OpR X (compareOp .NotEq) (rNeN X.K) := OpR.or (op_neA hu) (op_neE hu)

/-! ### repr of data in which empty dicts lie -/
mutual
inductive Rds (h : Heap) : Value → PyData → Prop
  | none : Rds h .none .none
  | bool (b : Bool) : Rds h (.bool b) (.bool b)
  | int (i : Int) (t : Tok) : Rds h (.int i t) (.int i)
  | str (x : Str) (t : Tok) : Rds h (.str x t) (.str x)
  | list {a : Addr} {o : Obj} {vs : List Value} {n : Nat} {xs : List PyData} : h.get? a = some o → o.cls = .type "list" → o.data = .seq vs.toArray n → RdsAll h vs xs → Rds h (.ref a) (.list xs)
  | tuple {a : Addr} {o : Obj} {vs : List Value} {n : Nat} {xs : List PyData} : h.get? a = some o → o.cls = .type "tuple" → o.data = .seq vs.toArray n → RdsAll h vs xs → Rds h (.ref a) (.tuple xs)
  | dict0 {a : Addr} {o : Obj} {n : Nat} : h.get? a = some o → o.cls = .type "dict" → o.data = .dict #[] n → (a == sysModules) = false → Rds h (.ref a) (.dict [])
inductive RdsAll (h : Heap) : List Value → List PyData → Prop
  | nil : RdsAll h [] []
  | cons {v : Value} {vs : List Value} {d : PyData} {ds : List PyData} : Rds h v d → RdsAll h vs ds → RdsAll h (v :: vs) (d :: ds)
end
mutual
theorem Rds.reads {h : Heap} : ∀ {v : Value} {d : PyData}, Rds h v d → ∃ as, Reads h v d as
  | _, _, .none => ⟨_, .none⟩
  | _, _, .bool b => ⟨_, .bool b⟩
  | _, _, .int i t => ⟨_, .int i t⟩
  | _, _, .str x t => ⟨_, .str x t⟩
  | _, _, .list h1 h2 h3 h4 => by
    obtain ⟨as, r⟩ := h4.reads
    exact ⟨_, .list h1 h2 h3 (by simpa using r)⟩
  | _, _, .tuple h1 h2 h3 h4 => by
    obtain ⟨as, r⟩ := h4.reads
    exact ⟨_, .tuple h1 h2 h3 (by simpa using r)⟩
  | _, _, .dict0 h1 h2 h3 _ => ⟨_, .dict (kvs := []) h1 h2 h3 .nil .nil⟩
theorem RdsAll.reads {h : Heap} : ∀ {vs : List Value} {ds : List PyData}, RdsAll h vs ds → ∃ as, ReadsAll h vs ds as
  | _, _, .nil => ⟨_, .nil⟩
  | _, _, .cons r rs => by
    obtain ⟨as, q⟩ := r.reads
    obtain ⟨bs, qs⟩ := rs.reads
    exact ⟨_, .cons q qs⟩
end
section
variable {prog : Program} {w : World} {h₀ : Heap}
mutual
theorem reprK_of {h₀ : Heap} : ∀ {v : Value} {d : PyData}, Rds h₀ v d → d.showable = true → d.shown.length ≤ sizeLine → ∃ bs, ReadAtMost h₀ d.depth bs ∧ ReprK prog w bs h₀ d.depth v d.shown
  | _, _, .none, _, _ => ⟨[], (fun _ h => nomatch h), by simp only [PyData.shown]; exact .of_is ReprIs.none _ _ _⟩
  | _, _, .bool b, _, _ => ⟨[], (fun _ h => nomatch h), by simp only [PyData.shown]; exact .of_is (ReprIs.bool b) _ _ _⟩
  | _, _, .int i t, hs, _ => ⟨[], (fun _ h => nomatch h), by simp only [PyData.shown]; exact .of_is (ReprIs.int t (by simpa [PyData.showable] using hs)) _ _ _⟩
  | _, _, .str x t, _, hz => ⟨[], (fun _ h => nomatch h), by simp only [PyData.shown]; exact .of_is (ReprIs.str x t (by simpa only [PyData.shown] using hz)) _ _ _⟩
  | _, _, .list (a := a) (vs := vs) (xs := xs) h1 h2 h3 h4, hs, hz => by
    have hz' : (listText (PyData.shownAll xs)).length ≤ sizeLine := by simpa only [PyData.shown] using hz
    obtain ⟨bs, hb, hk⟩ := reprAllK_of h4 (by simpa [PyData.showable] using hs) (fun t ht => Nat.le_trans (listText_mem_le ht) hz')
    obtain ⟨as, r⟩ := (Rds.list h1 h2 h3 h4).reads
    have hna : a ∉ bs := not_mem_of_deeper r (by simp only [PyData.depth]; omega) hb
    refine ⟨a :: bs, ReadAtMost.cons r (by simp only [PyData.depth]; omega) hb, ?_⟩
    simp only [PyData.depth, PyData.shown]
    cases h4 with
    | nil =>
      simp only [PyData.shownAll, listText_nil]
      exact ReprK.listEmpty h1 h2 h3
    | cons q qs => exact ReprK.list h1 h2 h3 hna (by simpa using hk.length_eq) (fun i y e => hk.item i y (by simpa using e))
  | _, _, .tuple (a := a) (xs := xs) h1 h2 h3 h4, hs, hz => by
    have hz' : (tupleText (PyData.shownAll xs)).length ≤ sizeLine := by simpa only [PyData.shown] using hz
    obtain ⟨bs, hb, hk⟩ := reprAllK_of h4 (by simpa [PyData.showable] using hs) (fun t ht => Nat.le_trans (tupleText_mem_le ht) hz')
    obtain ⟨as, r⟩ := (Rds.tuple h1 h2 h3 h4).reads
    have hna : a ∉ bs := not_mem_of_deeper r (by simp only [PyData.depth]; omega) hb
    refine ⟨a :: bs, ReadAtMost.cons r (by simp only [PyData.depth]; omega) hb, ?_⟩
    simp only [PyData.depth, PyData.shown]
    exact ReprK.tuple h1 h2 h3 hna (by simpa using hk)
  | _, _, .dict0 (a := a) h1 h2 h3 hsys, _, _ => by
    obtain ⟨as, r⟩ := (Rds.dict0 h1 h2 h3 hsys).reads
    refine ⟨a :: [], ReadAtMost.cons (n := 0) r (Nat.zero_le _) (fun _ h => nomatch h), ?_⟩
    have := ReprK.dict (prog := prog) (w := w) (as := []) (d := 0) (ps := []) h1 h2 h3 hsys (fun h => nomatch h) .nil
    simpa [PyData.depth, PyData.depthKv, PyData.shown, PyData.shownKv] using this
theorem reprAllK_of {h₀ : Heap} : ∀ {vs : List Value} {ds : List PyData}, RdsAll h₀ vs ds → PyData.showableAll ds = true → (∀ t ∈ PyData.shownAll ds, t.length ≤ sizeLine) →
    ∃ bs, ReadAtMost h₀ (PyData.depthAll ds) bs ∧ ReprAllK prog w bs h₀ (PyData.depthAll ds) vs (PyData.shownAll ds)
  | _, _, .nil, _, _ => ⟨[], (fun _ h => nomatch h), by simp only [PyData.shownAll]; exact .nil⟩
  | _, _, .cons (d := d) (ds := ds) r rs, hs, hz => by
    have hs' : d.showable = true ∧ PyData.showableAll ds = true := by simpa [PyData.showableAll] using hs
    obtain ⟨b1, hb1, k1⟩ := reprK_of r hs'.1 (hz _ (by simp only [PyData.shownAll]; exact List.mem_cons_self ..))
    obtain ⟨b2, hb2, k2⟩ := reprAllK_of rs hs'.2 (fun t ht => hz t (by simp only [PyData.shownAll]; exact List.mem_cons_of_mem _ ht))
    refine ⟨b1 ++ b2, ?_, ?_⟩
    · simp only [PyData.depthAll]
      exact (hb1.mono (Nat.le_max_left _ _)).append (hb2.mono (Nat.le_max_right _ _))
    · simp only [PyData.depthAll, PyData.shownAll]
      exact .cons ((k1.more fun b hb => List.mem_append_left _ hb).level_le (Nat.le_max_left _ _)) (k2.more_le (fun b hb => List.mem_append_right _ hb) (Nat.le_max_right _ _))
end
theorem showsBy_of {a : Addr} {d : PyData} (r : Rds h₀ (.ref a) d) (hs : d.showable = true) (hz : d.shown.length ≤ sizeLine) : ∃ T idr, ShowsBy prog w h₀ a d T idr := by
  cases r with
  | @list _ o vs n xs h1 h2 h3 h4 =>
    have hz' : (listText (PyData.shownAll xs)).length ≤ sizeLine := by simpa only [PyData.shown] using hz
    obtain ⟨bs, hb, hk⟩ := reprAllK_of (prog := prog) (w := w) h4 (by simpa [PyData.showable] using hs) (fun t ht => Nat.le_trans (listText_mem_le ht) hz')
    obtain ⟨as, r⟩ := (Rds.list h1 h2 h3 h4).reads
    have hna : a ∉ bs := not_mem_of_deeper r (by simp only [PyData.depth]; omega) hb
    refine ⟨"list", "list.__repr__", F.slot_list_repr.toG, F.slot_list_str, F.slot_list_format, fun s hk0 => ⟨o, hk0 _ _ h1, h2⟩, fun A E s Q hg hu hk0 hQ => ?_⟩
    simp only [PyData.depth] at hu
    simp only [PyData.shown] at hQ
    cases h4 with
    | nil =>
      simp only [PyData.shownAll, listText_nil] at hQ
      exact call_list_repr_empty ⟨o, hk0 _ _ h1, h2⟩ (hk0 _ _ h1) h3 (hQ s.heap _ _ fun _ _ e => e)
    | cons q qs => exact call_list_reprK h1 h2 h3 hna (by simpa using hk.length_eq) (fun i y e => hk.item i y (by simpa using e)) hg (fun b _ => Clear.nil b) hu hk0 hQ hz'
  | @tuple _ o vs n xs h1 h2 h3 h4 =>
    have hz' : (tupleText (PyData.shownAll xs)).length ≤ sizeLine := by simpa only [PyData.shown] using hz
    obtain ⟨bs, hb, hk⟩ := reprAllK_of (prog := prog) (w := w) h4 (by simpa [PyData.showable] using hs) (fun t ht => Nat.le_trans (tupleText_mem_le ht) hz')
    obtain ⟨as, r⟩ := (Rds.tuple h1 h2 h3 h4).reads
    have hna : a ∉ bs := not_mem_of_deeper r (by simp only [PyData.depth]; omega) hb
    refine ⟨"tuple", "tuple.__repr__", F.slot_tuple_repr, F.slot_tuple_str, F.slot_tuple_format, fun s hk0 => ⟨o, hk0 _ _ h1, h2⟩, fun A E s Q hg hu hk0 hQ => ?_⟩
    simp only [PyData.depth] at hu
    simp only [PyData.shown] at hQ
    exact call_tuple_reprK h1 h2 h3 hna (by simpa using hk) hg (fun b _ => Clear.nil b) hu hk0 hQ hz'
  | @dict0 _ o n h1 h2 h3 hsys =>
    refine ⟨"dict", "dict.__repr__", F.slot_dict_repr, F.slot_dict_str, F.slot_dict_format, fun s hk0 => ⟨o, hk0 _ _ h1, h2⟩, fun A E s Q hg hu hk0 hQ => ?_⟩
    simp only [PyData.depth, PyData.depthKv] at hu
    simp only [PyData.shown, PyData.shownKv] at hQ
    have hz' : (dictText []).length ≤ sizeLine := by simpa only [PyData.shown, PyData.shownKv] using hz
    exact call_dict_reprK (as := []) (d := 0) (ps := []) h1 h2 h3 hsys (fun h => nomatch h) .nil hg (fun b _ => Clear.nil b) hu hk0 hQ hz'
theorem repr_of_rds {a : Addr} {d : PyData} {A : Around} {E : Value → Shared → Prop} {s : Shared} {Q : Value → Shared → Prop} (r : Rds s.heap (.ref a) d) (hs : d.showable = true) (hg : A.guards = some []) (hu : A.units + (d.depth + 1) < cLine)
    (hQ : ∀ h' u tk, (∀ b o, s.heap.get? b = some o → h'.get? b = some o) → Q (.str d.shown u) { s with heap := h', toks := tk })
    (hz : d.shown.length ≤ sizeLine) : wpAny (model prog w) A (call (.builtin "repr") [.ref a]) Q E s := by
  obtain ⟨T, idr, S⟩ := showsBy_of (prog := prog) (w := w) r hs hz
  exact call_repr_slot (by omega) (S.typeIs s fun _ _ e => e) S.slotRepr (S.call A.in1 E s _ hg (by show A.units + 1 + d.depth < cLine; omega) (fun _ _ e => e) fun h' u tk hk => ⟨_, _, rfl, hQ h' u tk hk⟩)
end
/-! data of values, empty dicts among them -/
mutual
inductive Dq (K : Fg) (H : Hp) : V → PyData → Prop
  | non : Dq K H .non .none
  | bl (b : Bool) : Dq K H (.bl b) (.bool b)
  | int (i : Int) : Dq K H (.int i) (.int i)
  | str (x : Str) : Dq K H (.str x) (.str x)
  | lst {a : Addr} {xs : List V} {ds : List PyData} : SqL K H a xs → DqAll K H xs ds → Dq K H (.ref a) (.list ds)
  | tup {a : Addr} {xs : List V} {ds : List PyData} : SqT K H a xs → DqAll K H xs ds → Dq K H (.ref a) (.tuple ds)
  | dic {a : Addr} : Rd H a (.dK []) → Dq K H (.ref a) (.dict [])
inductive DqAll (K : Fg) (H : Hp) : List V → List PyData → Prop
  | nil : DqAll K H [] []
  | cons {v : V} {vs : List V} {d : PyData} {ds : List PyData} : Dq K H v d → DqAll K H vs ds → DqAll K H (v :: vs) (d :: ds)
end
section
variable {X : Cx} {pins : List (Addr × Obj)} {σ : List (Option V)} {H : Hp} {s : Shared}
mutual
theorem Dq.rds (I : Inv X pins σ H s) : ∀ {v : V} {d : PyData} {u : Value}, Dq X.K H v d → RelV v u → Rds s.heap u d
  | _, _, _, .non, r => by cases r; exact .none
  | _, _, _, .bl b, r => by cases r; exact .bool b
  | _, _, _, .int i, r => by obtain ⟨t, rfl⟩ := r; exact .int i t
  | _, _, _, .str x, r => by obtain ⟨t, rfl⟩ := r; exact .str x t
  | _, _, _, .lst h1 h2, r => by
    cases r
    obtain ⟨its, rv, ⟨o, n, ho, hc, _, hd⟩, _⟩ := I.list h1
    exact .list ho hc hd (DqAll.rds I h2 rv)
  | _, _, _, .tup h1 h2, r => by
    cases r
    obtain ⟨its, rv, ⟨o, ho, hc, n, hd⟩, _⟩ := I.tuple h1
    exact .tuple ho hc hd (DqAll.rds I h2 rv)
  | _, _, _, .dic h, r => by
    cases r
    obtain ⟨_, hs, vs, kv, o, es, ep, ho, hx, hd, _, hp, _⟩ := dk_rd I.hok h
    cases kv
    have he : es = #[] := by
      have := hp.length
      apply Array.eq_empty_of_size_eq_zero
      simpa using this
    subst he
    exact .dict0 ho hx.1 hd hs
theorem DqAll.rds (I : Inv X pins σ H s) : ∀ {vs : List V} {ds : List PyData} {us : List Value}, DqAll X.K H vs ds → Vals vs us → RdsAll s.heap us ds
  | _, _, _, .nil, r => by cases r; exact .nil
  | _, _, _, .cons h1 h2, r => by
    cases r with
    | cons r1 r2 => exact .cons (Dq.rds I h1 r1) (DqAll.rds I h2 r2)
end
end
def rReprQ (K : Fg) : List V → Hp → VK → Prop := fun xs H Q => ∃ x d, xs = [x] ∧ Dq K H x d ∧ d.showable = true ∧ d.depth ≤ 60 ∧ d.shown.length ≤ sizeLine ∧ Q (.str d.shown) H
theorem call_reprQ {X : Cx} (hg : X.A.guards = some []) (hu : X.A.units + 64 < cLine) : CallR X (.builtin "repr") (rReprQ X.K) := by
  intro pins s σ H xs us Q I rs h
  obtain ⟨x, d, rfl, hd, hs, hdp, hz, q⟩ := h
  obtain ⟨u, rfl, rx⟩ := vals1 rs
  have hr := Dq.rds I hd rx
  cases id hd with
  | non => cases rx; exact PySem.P.repr_of_none ⟨.str _, H, I.tok _, ⟨_, rfl⟩, q⟩
  | bl b => cases rx; exact PySem.P.repr_of_bool ⟨.str _, H, I.tok _, ⟨_, rfl⟩, q⟩
  | int i =>
    obtain ⟨t, rfl⟩ := rx
    exact PySem.P.repr_of_int (by simpa [PyData.showable] using hs) ⟨.str _, H, I.tok _, ⟨_, rfl⟩, q⟩
  | str y =>
    obtain ⟨t, rfl⟩ := rx
    exact PySem.P.repr_of_str ⟨.str _, H, I.tok _, ⟨_, rfl⟩, q⟩ hz
  | lst h1 h2 =>
    cases rx
    exact repr_of_rds hr hs hg (by omega) (fun h' u tk hk => ⟨.str _, H, I.kept hk, ⟨_, rfl⟩, q⟩) hz
  | tup h1 h2 =>
    cases rx
    exact repr_of_rds hr hs hg (by omega) (fun h' u tk hk => ⟨.str _, H, I.kept hk, ⟨_, rfl⟩, q⟩) hz
  | dic h1 =>
    cases rx
    exact repr_of_rds hr hs hg (by omega) (fun h' u tk hk => ⟨.str _, H, I.kept hk, ⟨_, rfl⟩, q⟩) hz
mutual
def D.qy : D → PyData
  | .non => .none
  | .bl b => .bool b
  | .int i => .int i
  | .str s => .str s
  | .lst xs => .list (qyAll xs)
  | .tup xs => .tuple (qyAll xs)
  | .deck => .none
  | .dic _ _ => .dict []
  | .ref _ => .none
def qyAll : List D → List PyData
  | [] => []
  | x :: xs => D.qy x :: qyAll xs
end
mutual
def D.ql : D → Bool
  | .lst xs => qlAll xs
  | .tup xs => qlAll xs
  | .deck => false
  | .dic ks ds => ks.isEmpty && ds.isEmpty
  | .ref _ => false
  | .non => true
  | .bl _ => true
  | .int _ => true
  | .str _ => true
def qlAll : List D → Bool
  | [] => true
  | x :: xs => D.ql x && qlAll xs
end
section
variable {K : Fg} {dk : Dk} {F : Fz} {H : Hp}
mutual
theorem Rp.dq (le : Sb F H) : ∀ {v : V} {d : D}, Rp K dk F v d → d.ql = true → Dq K H v d.qy
  | _, _, .non, _ => .non
  | _, _, .bl b, _ => .bl b
  | _, _, .int i, _ => .int i
  | _, _, .str x, _ => .str x
  | _, _, .lst h r, p => .lst (SqL.of (le.lst h)) (Rps.dq le r (by simpa [D.ql] using p))
  | _, _, .tup h r, p => .tup (le.sqT h) (Rps.dq le r (by simpa [D.ql] using p))
  | _, _, .deck, p => by simp [D.ql] at p
  | _, _, .dic (ks := ks) h hl r, p => by
    have p' : ks = [] := by
      simp [D.ql] at p
      exact p.1
    subst p'
    exact .dic (le.dK h)
  | _, _, .ref _, p => by simp [D.ql] at p
theorem Rps.dq (le : Sb F H) : ∀ {vs : List V} {ds : List D}, Rps K dk F vs ds → qlAll ds = true → DqAll K H vs (qyAll ds)
  | _, _, .nil, _ => .nil
  | _, _, .cons a b, p => by
    simp only [qlAll, Bool.and_eq_true] at p
    exact .cons (Rp.dq le a p.1) (Rps.dq le b p.2)
end
theorem Rw.dq (le : Sb F H) {v : V} {d : D} (r : Rw K dk F H v d) (p : d.ql = true) : Dq K H v d.qy := by
  cases r with
  | rp r => exact r.dq le p
  | lst h r => exact .lst (SqL.of h) (r.dq le (by simpa [D.ql] using p))
  | dic h hl r =>
    rename_i ks _ _
    have p' : ks = [] := by
      simp [D.ql] at p
      exact p.1
    subst p'
    exact .dic h
end
def reprQ : List D → Option D
  | [d] => if d.ql && d.qy.showable && decide (d.qy.depth ≤ 60) && decide (d.qy.shown.length ≤ sizeLine) then some (.str d.qy.shown) else none
  | _ => none
theorem rc_reprQ {K : Fg} : RC K (rReprQ K) reprQ := by
  intro dk F H st vs ds z w rx hz Q q
  unfold reprQ at hz
  split at hz
  · split at hz
    · rename_i ho
      cases hz
      simp only [Bool.and_eq_true, decide_eq_true_eq] at ho
      obtain ⟨v, rfl, r⟩ := rx.one
      exact ⟨v, _, rfl, r.dq w.sub ho.1.1.1, ho.1.1.2, ho.1.2, ho.2, q _ F H (Px.refl w.sub) (.str _)⟩
    · cases hz
  · cases hz
end MD

set_option Elab.async false
set_option linter.all false
set_option maxRecDepth 100000
set_option maxHeartbeats 1000000
namespace MD
open PySem PySem.Spec PyProof.Rows L2
variable {ww : WW}

/-! ### dicts whose keys are nested tuples of numbers, bools and None -/
mutual
inductive Nk (K : Fg) (H : Hp) : NestedKey → V → Prop
  | non : Nk K H .none .non
  | bl (b : Bool) : Nk K H (.num (if b = true then 1 else 0)) (.bl b)
  | int (i : Int) : Nk K H (.num i) (.int i)
  | str (x : Str) : Nk K H (.text x) (.str x)
  | tup {a : Addr} {vs : List V} {ks : List NestedKey} : SqT K H a vs → Nks K H ks vs → Nk K H (.tup ks) (.ref a)
inductive Nks (K : Fg) (H : Hp) : List NestedKey → List V → Prop
  | nil : Nks K H [] []
  | cons {k : NestedKey} {v : V} {ks : List NestedKey} {vs : List V} : Nk K H k v → Nks K H ks vs → Nks K H (k :: ks) (v :: vs)
end
section
variable {X : Cx} {pins : List (Addr × Obj)} {σ : List (Option V)} {H : Hp} {s : Shared}
mutual
theorem Nk.is (I : Inv X pins σ H s) : ∀ {k : NestedKey} {v : V} {u : Value}, Nk X.K H k v → RelV v u → NestedIs s.heap k u
  | _, _, _, .non, r => by cases r; exact .none
  | _, _, _, .bl b, r => by cases r; exact .bool rfl
  | _, _, _, .int i, r => by obtain ⟨t, rfl⟩ := r; exact .int i t
  | _, _, _, .str x, r => by obtain ⟨t, rfl⟩ := r; exact .text x t
  | _, _, _, .tup h1 h2, r => by
    cases r
    obtain ⟨its, rv, ⟨o, ho, hc, n, hd⟩, _⟩ := I.tuple h1
    exact .tup ho hc hd (by simpa using Nks.are I h2 rv)
theorem Nks.are (I : Inv X pins σ H s) : ∀ {ks : List NestedKey} {vs : List V} {us : List Value}, Nks X.K H ks vs → Vals vs us → NestedAll s.heap ks us
  | _, _, _, .nil, r => by cases r; exact .nil
  | _, _, _, .cons h1 h2, r => by
    cases r with
    | cons r1 r2 => exact .cons (Nk.is I h1 r1) (Nks.are I h2 r2)
end
end
section
variable {K : Fg} {H : Hp}
variable {dk : Dk} {F : Fz}
mutual
theorem Rp.nk (le : Sb F H) : ∀ {v : V} {d : D} {k : NestedKey}, Rp K dk F v d → nkOf d = some k → Nk K H k v
  | _, _, _, .non, e => by cases e; exact .non
  | _, _, _, .bl b, e => by cases e; exact .bl b
  | _, _, _, .int i, e => by cases e; exact .int i
  | _, _, _, .str x, e => by cases e; exact .str x
  | _, _, _, .lst _ _, e => by cases e
  | _, _, _, .tup h r, e => by
    obtain ⟨ks, e1, e2⟩ := mpd (show (nksOf _).map NestedKey.tup = some _ from e)
    cases e2
    exact .tup (le.sqT h) (Rps.nks le r e1)
  | _, _, _, .deck, e => by cases e
  | _, _, _, .dic _ _ _, e => by cases e
  | _, _, _, .ref _, e => by cases e
theorem Rps.nks (le : Sb F H) : ∀ {vs : List V} {ds : List D} {ks : List NestedKey}, Rps K dk F vs ds → nksOf ds = some ks → Nks K H ks vs
  | _, _, _, .nil, e => by cases e; exact .nil
  | _, _, _, .cons a b, e => by
    obtain ⟨k, e1, e⟩ := bnd (show ((nkOf _).bind fun k => (nksOf _).map (k :: ·)) = some _ from e)
    obtain ⟨ks, e2, e3⟩ := mpd e
    cases e3
    exact .cons (Rp.nk le a e1) (Rps.nks le b e2)
end
end
abbrev Zs := List (NestedKey × Addr × Value)
structure NkD [WW] (K : Fg) (H : Hp) (c : Addr) (zs : Zs) : Prop where
  h : H c = some (.ext (NkAt c zs))
  k : ∀ z ∈ zs, Nk K H z.1 (.ref z.2.1) ∧ z.1.depth ≤ 8
  n : (zs.map fun z => z.1).Nodup
section
variable {X : Cx} {pins : List (Addr × Obj)} {σ : List (Option V)} {H : Hp} {s : Shared}
theorem NkD.dict {c : Addr} {zs : Zs} (hw : X.w = WW.w) (d : NkD X.K H c zs) (I : Inv X pins σ H s) : s.heap.DictOfH (nestedKind X.prog X.w) c zs ∧ (c == sysModules) = false ∧ zs.length ≤ sizeLine := by
  obtain ⟨⟨h1, h2, o, es, ep, ho, hx, hd, he⟩, _, _⟩ := I.hok c _ d.h
  exact ⟨⟨o, es, ep, ho, hx, hd, by rw [hw]; exact he, fun z hz => ⟨Nk.is I (d.k z hz).1 rfl, (d.k z hz).2⟩, d.n⟩, h1, h2⟩
theorem nk_ok {P : Program} {w : World} {H' : Hp} {h' : Heap} {c : Addr} {zs : Zs} (hc : (c == sysModules) = false) (hl : zs.length ≤ sizeLine) (hw : w = WW.w) (hd : h'.DictOfH (nestedKind P w) c zs) :
    ObjOk P w H' h' c (.ext (NkAt c zs)) := by
  obtain ⟨o, es, ep, ho, hx, hd, he, _, _⟩ := hd
  have hN : NkAt c zs h' := ⟨hc, hl, o, es, ep, ho, hx, hd, by
    rw [he, hw]
    rfl⟩
  refine ⟨hN, ⟨o, ho⟩, fun h1 h2 q e => ?_⟩
  obtain ⟨q1, q2, o', es', ep', q3, q4, q5, q6⟩ := q
  exact ⟨q1, q2, o', es', ep', e _ q3, q4, q5, q6⟩
end
/-! ### k in d, k not in d -/
def rNkIn [WW] (K : Fg) (neg : Bool) : R2 := fun x y H Q => ∃ b c k zs, x = .ref b ∧ y = .ref c ∧ Nk K H k (.ref b) ∧ k.depth ≤ 8 ∧ NkD K H c zs ∧ Q (.bl (if neg = true then !(atKey zs k).isSome else (atKey zs k).isSome)) H
theorem room_nk {X : Cx} (hu : X.A.units + 64 < cLine) : (nestedKind X.prog X.w).room X.A.in1 := by
  show X.A.units + 1 + 8 < cLine
  omega
theorem op_nkIn {X : Cx} (hu : X.A.units + 64 < cLine) (hw : X.w = WW.w) : OpR X (compareOp .In) (rNkIn X.K false) := by
  intro pins s σ H x y v u Q I rx ry h
  obtain ⟨b, c, k, zs, rfl, rfl, hk, hd, dd, q⟩ := h
  cases rx
  cases ry
  obtain ⟨d1, d2, d3⟩ := dd.dict hw I
  exact wpAny_in_heap (room_nk hu) ⟨Nk.is I hk rfl, hd⟩ d2 d1 ⟨.bl _, H, I.tok _, rfl, q⟩
theorem op_nkNotIn {X : Cx} (hu : X.A.units + 64 < cLine) (hw : X.w = WW.w) : OpR X (compareOp .NotIn) (rNkIn X.K true) := by
  intro pins s σ H x y v u Q I rx ry h
  obtain ⟨b, c, k, zs, rfl, rfl, hk, hd, dd, q⟩ := h
  cases rx
  cases ry
  obtain ⟨d1, d2, d3⟩ := dd.dict hw I
  refine notIn_keyed (knd := nestedKind X.prog X.w) (kvs := pairsH zs) (room_nk hu) ⟨Nk.is I hk rfl, hd⟩ d2 ⟨zs, d1, rfl⟩ ?_
  rw [valueAt_pairsH, Option.isSome_map]
  exact ⟨.bl _, H, I.tok _, rfl, q⟩
/-! ### d[k] -/
def rNkGet [WW] (K : Fg) : R2 := fun x y H Q => ∃ b c k zs p, x = .ref c ∧ y = .ref b ∧ Nk K H k (.ref b) ∧ k.depth ≤ 8 ∧ NkD K H c zs ∧ atKey zs k = some p ∧ ∀ v, RelV v p.2 → Q v H
/-! ### d[k] = v -/
def sNPut [WW] (K : Fg) (td ty tv : TE) : TS := fun D σ H => tv σ H fun v H1 => td σ H1 fun x H2 => ty σ H2 fun y H3 =>
  ∃ b c k zs, x = .ref c ∧ y = .ref b ∧ Nk K H3 k (.ref b) ∧ k.depth ≤ 8 ∧ NkD K H3 c zs ∧ zs.length < sizeLine ∧ ∀ u, RelV v u → D.nx σ (upd H3 c (.ext (NkAt c (storedH zs k b u))))
theorem stored_len (zs : Zs) (k : NestedKey) (b : Addr) (u : Value) : (storedH zs k b u).length ≤ zs.length + 1 := by
  unfold storedH
  split <;> simp
theorem stored_mem {zs : Zs} {k : NestedKey} {b : Addr} {u : Value} {z : NestedKey × Addr × Value} (h : z ∈ storedH zs k b u) : (∃ y ∈ zs, z.1 = y.1 ∧ z.2.1 = y.2.1) ∨ (z.1 = k ∧ z.2.1 = b) := by
  unfold storedH at h
  split at h
  · obtain ⟨y, hy, rfl⟩ := List.mem_map.mp h
    refine .inl ⟨y, hy, ?_⟩
    unfold putAt
    split <;> exact ⟨rfl, rfl⟩
  · rcases List.mem_append.mp h with h | h
    · exact .inl ⟨z, h, rfl, rfl⟩
    · rw [List.mem_singleton.mp h]; exact .inr ⟨rfl, rfl⟩
theorem stored_nodup {zs : Zs} (h : (zs.map fun z => z.1).Nodup) (k : NestedKey) (b : Addr) (u : Value) : ((storedH zs k b u).map fun z => z.1).Nodup := by
  unfold storedH
  split
  · rw [keys_map_putAt]; exact h
  · rename_i hn
    rw [List.map_append, List.nodup_append]
    refine ⟨h, by simp, fun a ha c hc e => hn ?_⟩
    have hc' : c = k := by simpa using hc
    obtain ⟨y, hy, hy1⟩ := List.mem_map.mp ha
    unfold atKey
    rw [Option.isSome_map, List.find?_isSome]
    exact ⟨y, hy, decide_eq_true (by rw [hy1, e, hc'])⟩
section
variable {X : Cx} {o i e value : Expr} {pos pos' tpos : Pos} {td ty tv : TE}
theorem ps_nput (hu : X.A.units + 64 < cLine) (hw : X.w = WW.w) (ho : PE X o td) (hi : PE X i ty) (hv : PE X value tv) (hs : swapsWith value (some (.Subscript o i pos')) pos.line X.env = pure false) :
    PS X (.Assign [.Subscript o i pos'] value pos) (sNPut X.K td ty tv) := by
  refine ⟨fun pins s σ H D I h => ?_⟩
  refine wpAny_Assign_Subscript (thn (hv.run pins s σ H _ I h) fun r s1 ⟨v, H1, I1, rv, q1⟩ => thn (ho.run pins s1 σ H1 _ I1 q1) fun u s2 ⟨x, H2, I2, rx, q2⟩ => thn (hi.run pins s2 σ H2 _ I2 q2) fun iv s3 ⟨y, H3, I3, ry, b, c, k, zs, ex, ey, hk, hd, dd, hl, q3⟩ => ?_) hs
  subst ex ey
  obtain rfl : u = Value.ref c := rx
  obtain rfl : iv = Value.ref b := ry
  obtain ⟨d1, d2, d3⟩ := dd.dict hw I3
  refine wpAny_setItem_heap (hsz := d3) (room_nk hu) ⟨Nk.is I3 hk rfl, hd⟩ d1 fun h' dd' hsb => ⟨σ, _, ?_, q3 _ rv⟩
  have he : ∃ q, h'.get? c = some q := let ⟨q, _, _, hq, _⟩ := dd'; ⟨q, hq⟩
  refine d_write I3 (by rw [dd.h]; exact True.intro) hsb he (nk_ok d2 (by have := stored_len zs k b r; omega) hw dd')
/-! ### {k: v} -/
def tDispN [WW] (K : Fg) (tk tv : TE) : TE := fun σ H Q => ∀ p, H p = none → tk σ (upd H p (.ext (NkAt p []))) fun x H1 => tv σ H1 fun y H2 =>
  H2 p = some (.ext (NkAt p [])) ∧ ∃ b k, x = .ref b ∧ Nk K H2 k (.ref b) ∧ k.depth ≤ 8 ∧ ∀ u, RelV y u → Q (.ref p) (upd H2 p (.ext (NkAt p [(k, b, u)])))
theorem pe_dispN {ke ve : Expr} {tk tv : TE} (hu : X.A.units + 64 < cLine) (hw : X.w = WW.w) (hk : PE X ke tk) (hv : PE X ve tv) : PE X (.Dict [some ke] [ve] pos) (tDispN X.K tk tv) := by
  refine ⟨fun pins s σ H Q I q => ?_⟩
  have hn := I.hok.fresh (Nat.le_refl s.heap.objs.size)
  have hb := I.big
  have hsys : (s.heap.objs.size == sysModules) = false := (dk_empty (P := X.prog) (w := X.w) (H := H) s.heap I.big).2.1
  have I1 := I.laid (a := s.heap.objs.size) (o := .ext (NkAt s.heap.objs.size [])) (h' := s.heap.push { cls := .type "dict", data := .dict #[] }) (t' := s.toks) (fun _ _ q => Heap.get?_push_of_some _ q) (Nat.le_refl _)
    (nk_ok hsys (Nat.zero_le _) hw (Heap.DictOfH.new (knd := nestedKind X.prog X.w) s.heap))
  refine wpAny_Dict_any rfl rfl (by simp) (by simp) (thn ((pps_cons hk hv pps_nil).run pins _ σ _ (fun ps H2 => match ps with
    | [(x, y)] => H2 s.heap.objs.size = some (.ext (NkAt s.heap.objs.size [])) ∧ ∃ b k, x = .ref b ∧ Nk X.K H2 k (.ref b) ∧ k.depth ≤ 8 ∧ ∀ u, RelV y u → Q (.ref s.heap.objs.size) (upd H2 s.heap.objs.size (.ext (NkAt s.heap.objs.size [(k, b, u)])))
    | _ => False) I1 (q _ hn)) fun ws s2 ⟨ps, H2, I2, rel, q2⟩ => ?_)
  match ps, ws, rel, q2 with
  | [], _, _, q2 => exact q2.elim
  | _ :: _ :: _, _, _, q2 => exact q2.elim
  | [(x, y)], _, .cons (b := (u, r)) ⟨rx, ry⟩ .nil, q2 =>
    obtain ⟨e, b, k, ex, nk, kd, q3⟩ := q2
    subst ex
    obtain rfl : u = Value.ref b := rx
    have dd : NkD X.K H2 s.heap.objs.size [] := ⟨e, (fun _ h => nomatch h), List.nodup_nil⟩
    obtain ⟨d1, d2, d3⟩ := dd.dict hw I2
    show wpAny _ _ (forIn [(Value.ref b, r)] PUnit.unit _) _ _ _
    rw [List.forIn_cons]
    have hr : (nestedKind X.prog X.w).room X.A := by show X.A.units + 8 < cLine; omega
    refine wpAny_bind (wpAny_bind (wpAny_dictSet_heap (hsz := d3) hr ⟨Nk.is I2 nk rfl, kd⟩ d1 fun h' dd' hsb => wpAny_pure ?_))
    refine wpAny_pure ⟨.ref s.heap.objs.size, _, ?_, rfl, q3 r ry⟩
    have he : ∃ q, h'.get? s.heap.objs.size = some q := let ⟨q, _, _, hq, _⟩ := dd'; ⟨q, hq⟩
    refine d_write I2 (by rw [e]; exact True.intro) hsb he (nk_ok (w := X.w) d2 (by rw [sizeLine_eq]; simp) hw dd')
end
/-! ### the mirrors -/
def hasN (ks : List D) (k : NestedKey) : Bool := ks.any fun d => decide (nkOf d = some k)
def nkdAt (st : S) (n : Nat) : Option (List D × List D) := match st.ob[n]? with
  | some (.nkd ks ds) => some (ks, ds)
  | _ => none
def nkT : D → Option NestedKey
  | .tup ds => nkOf (.tup ds)
  | _ => none
theorem nkT_of {d : D} {k : NestedKey} (h : nkT d = some k) : nkOf d = some k := by
  cases d with
  | tup ds => exact h
  | _ => cases h
section
variable {K : Fg} {dk : Dk} {F : Fz} {H : Hp} {st : S}
theorem nkdAt_eq {n : Nat} {q : List D × List D} (h : nkdAt st n = some q) : st.ob[n]? = some (.nkd q.1 q.2) := by
  unfold nkdAt at h
  split at h
  · rename_i e; cases h; exact e
  · cases h
theorem Rp.nkT {v : V} {d : D} {k : NestedKey} (r : Rp K dk F v d) (le : Sb F H) (h : MD.nkT d = some k) : ∃ b, v = .ref b ∧ Nk K H k (.ref b) := by
  unfold MD.nkT at h
  split at h
  · have := Rp.nk le r h
    cases r with
    | tup _ _ => exact ⟨_, rfl, this⟩
  · cases h
theorem nk_keys (le : Sb F H) : ∀ {zs : Zs} {ks : List D}, Rps K dk F (zs.map fun z => V.ref z.2.1) ks → ks.map nkOf = zs.map (fun z => some z.1) → ∀ z ∈ zs, Nk K H z.1 (.ref z.2.1)
  | [], _, _, _, z, hz => nomatch hz
  | y :: zs, _, .cons a b, e, z, hz => by
    rw [List.map_cons, List.map_cons] at e
    injection e with e1 e2
    rcases List.mem_cons.mp hz with q | q
    · rw [q]; exact Rp.nk le a e1
    · exact nk_keys le b e2 z q
theorem Wd.nkdAt {n : Nat} {a : Addr} {q : List D × List D} (w : Wd K dk F H st) (hn : F.mu[n]? = some a) (h : MD.nkdAt st n = some q) :
    ∃ (zs : Zs) (vs : List V), NkD K H a zs ∧ Rps K dk F (zs.map fun z => V.ref z.2.1) q.1 ∧ q.1.map nkOf = zs.map (fun z => some z.1) ∧ Vals vs (zs.map fun z => z.2.2) ∧ Rps K dk F vs q.2 := by
  obtain ⟨_, o⟩ := w.ob n a _ hn (nkdAt_eq h)
  cases o with
  | nkd h1 h2 h3 h4 h5 h6 h7 => exact ⟨_, _, ⟨h1, fun z hz => ⟨nk_keys w.sub h2 h3 z hz, h7 z hz⟩, h6⟩, h2, h3, h4, h5⟩
theorem has_atKey : ∀ {zs : Zs} {ks : List D} (k : NestedKey), ks.map nkOf = zs.map (fun z => some z.1) → (atKey zs k).isSome = hasN ks k
  | [], [], k, _ => rfl
  | [], _ :: _, k, e => by cases e
  | _ :: _, [], k, e => by cases e
  | z :: zs, d :: ks, k, e => by
    rw [List.map_cons, List.map_cons] at e
    injection e with e1 e2
    have ih := has_atKey k e2
    unfold atKey hasN at *
    rw [List.find?_cons, List.any_cons, e1]
    by_cases h : z.1 = k
    · simp [h]
    · have h' : ¬ (some z.1 = some k) := fun q => h (Option.some.inj q)
      simp only [h, h', decide_false, Bool.false_or]
      exact ih
end
section
variable {K : Fg}
def ninM (neg : Bool) (fa fd : ME) : ME := fun env st => (fa env st).bind fun p => (fd env p.2).bind fun q => (refOf q.1).bind fun n => (nkdAt q.2 n).bind fun z => (nkT p.1).bind fun k => if k.depth ≤ 8 then some (.bl (if neg = true then !hasN z.1 k else hasN z.1 k), q.2) else none
theorem im_nin {neg : Bool} {ta td : TE} {fa fd : ME} (ha : Im K ta fa) (hd : Im K td fd) : Im K (tOp (rNkIn K neg) ta td) (ninM neg fa fd) := fun dk H0 F0 F σ H env st d st' g e Q q => by
  obtain ⟨⟨x, s1⟩, e1, e⟩ := bnd e
  obtain ⟨⟨y, s2⟩, e2, e⟩ := bnd e
  obtain ⟨n, e3, e⟩ := bnd e
  obtain ⟨z, e4, e⟩ := bnd e
  obtain ⟨k, e5, e⟩ := bnd e
  split at e
  · rename_i hk
    cases e
    refine ha dk H0 F0 F σ H env st x s1 g e1 _ fun v F1 H1 x1 g1 r1 => ?_
    refine hd dk H0 F0 F1 σ H1 env s1 y s2 g1 e2 _ fun u F2 H2 x2 g2 r2 => ?_
    have hy : y = .ref n := refOf_eq e3
    subst hy
    obtain ⟨a, rfl, han⟩ := r2.refn
    obtain ⟨zs, vs, dd, h2, h3, h4, h5⟩ := g2.wd.nkdAt han e4
    obtain ⟨b, rfl, nk⟩ := (r1.mono x2.f).nkT g2.wd.sub e5
    refine ⟨b, a, k, zs, rfl, rfl, nk, hk, dd, ?_⟩
    rw [has_atKey k h3]
    exact q (.bl _) F2 H2 (x1.trans x2) g2 (.bl _)
  · cases e
/-! d[k] = v -/
def putNK (ks : List D) (d : D) (k : NestedKey) : List D := if hasN ks k = true then ks else ks ++ [d]
def putNV (ks ds : List D) (k : NestedKey) (d : D) : List D := if hasN ks k = true then List.zipWith (fun x y => if nkOf x = some k then d else y) ks ds else ds ++ [d]
variable {dk : Dk} {F : Fz} {H : Hp}
theorem put_vals {k : NestedKey} {u : Value} {v : V} {d : D} (rv : RelV v u) (rd : Rp K dk F v d) : ∀ {zs : Zs} {ks ds : List D} {vs : List V}, ks.map nkOf = zs.map (fun z => some z.1) → Vals vs (zs.map fun z => z.2.2) → Rps K dk F vs ds →
    ∃ vs', Vals vs' ((zs.map (putAt k u)).map fun z => z.2.2) ∧ Rps K dk F vs' (List.zipWith (fun x y => if nkOf x = some k then d else y) ks ds)
  | [], [], _, _, _, r, rr => by
    cases r
    cases rr
    exact ⟨[], .nil, .nil⟩
  | [], _ :: _, _, _, e, _, _ => by cases e
  | _ :: _, [], _, _, e, _, _ => by cases e
  | z :: zs, x :: ks, _, v0 :: _, e, .cons a b, .cons c f => by
    rw [List.map_cons, List.map_cons] at e
    injection e with e1 e2
    obtain ⟨vs', h1, h2⟩ := put_vals rv rd e2 b f
    rw [List.map_cons, List.map_cons, List.zipWith_cons_cons]
    by_cases h : z.1 = k
    · refine ⟨v :: vs', .cons ?_ h1, .cons ?_ h2⟩
      · unfold putAt; rw [if_pos h]; exact rv
      · rw [e1, if_pos (by rw [h])]; exact rd
    · refine ⟨v0 :: vs', .cons ?_ h1, .cons ?_ h2⟩
      · unfold putAt; rw [if_neg h]; exact a
      · rw [e1, if_neg (fun q => h (Option.some.inj q))]; exact c
theorem put_refs (zs : Zs) (k : NestedKey) (u : Value) : ((zs.map (putAt k u)).map fun z => V.ref z.2.1) = zs.map fun z => V.ref z.2.1 := by
  rw [List.map_map]
  refine List.map_congr_left fun z _ => ?_
  show V.ref (putAt k u z).2.1 = _
  unfold putAt
  split <;> rfl
theorem put_obAt {a : Addr} {zs : Zs} {vs : List V} {ks ds : List D} {k : NestedKey} {b : Addr} {u : Value} {v : V} {d kd : D} (dd : NkD K H a zs) (h2 : Rps K dk F (zs.map fun z => V.ref z.2.1) ks) (h3 : ks.map nkOf = zs.map (fun z => some z.1)) (h4 : Vals vs (zs.map fun z => z.2.2)) (h5 : Rps K dk F vs ds)
    (hk : k.depth ≤ 8) (rk : Rp K dk F (.ref b) kd) (ek : nkOf kd = some k) (rv : RelV v u) (rd : Rp K dk F v d) :
    ObAt K dk F (upd H a (.ext (NkAt a (storedH zs k b u)))) a (.nkd (putNK ks kd k) (putNV ks ds k d)) := by
  have hh := has_atKey k h3
  have hn := stored_nodup dd.n k b u
  have hdp : ∀ z ∈ storedH zs k b u, z.1.depth ≤ 8 := fun z hz => by
    rcases stored_mem hz with ⟨y, hy, e1, _⟩ | ⟨e1, _⟩
    · rw [e1]; exact (dd.k y hy).2
    · rw [e1]; exact hk
  unfold putNK putNV
  cases hs : hasN ks k with
  | true =>
    have e : storedH zs k b u = zs.map (putAt k u) := by
      unfold storedH
      rw [if_pos (by rw [hh, hs])]
    rw [e] at hn hdp ⊢
    rw [if_pos rfl, if_pos rfl]
    obtain ⟨vs', h6, h7⟩ := put_vals (k := k) rv rd h3 h4 h5
    refine .nkd upd_same (by rw [put_refs]; exact h2) ?_ h6 h7 hn hdp
    rw [h3, List.map_map]
    refine List.map_congr_left fun z _ => ?_
    show some z.1 = some (putAt k u z).1
    unfold putAt
    split <;> rfl
  | false =>
    have e : storedH zs k b u = zs ++ [(k, b, u)] := by
      unfold storedH
      rw [if_neg (by rw [hh, hs]; simp)]
    rw [e] at hn hdp ⊢
    rw [if_neg (by simp), if_neg (by simp)]
    refine .nkd upd_same (by rw [List.map_append]; exact h2.append (Rps.one rk)) (by rw [List.map_append, List.map_append, h3]; simp [ek]) (by rw [List.map_append]; exact h4.append (.cons rv .nil)) (h5.append (Rps.one rd)) hn hdp
def nputM (fo fk fv : ME) : MS := fun env st => (fv env st).bind fun p => (fo env p.2).bind fun o => (refOf o.1).bind fun n => (fk env o.2).bind fun q => (nkT q.1).bind fun k => (nkdAt q.2 n).bind fun z =>
  if k.depth ≤ 8 ∧ z.1.length < sizeLine then some (.nx env, q.2.put n (.nkd (putNK z.1 q.1 k) (putNV z.1 z.2 k p.1))) else none
theorem is_nput {to ty tv : TE} {fo fk fv : ME} (ho : Im K to fo) (hk : Im K ty fk) (hv : Im K tv fv) : ImS K (sNPut K to ty tv) (nputM fo fk fv) := fun dk H0 F0 F σ H env st fl st' g e E hd => by
  obtain ⟨⟨d, s1⟩, h1, e⟩ := bnd e
  obtain ⟨⟨x, s2⟩, h2, e⟩ := bnd e
  obtain ⟨n, h3, e⟩ := bnd e
  obtain ⟨⟨y, s3⟩, h4, e⟩ := bnd e
  obtain ⟨k, h5, e⟩ := bnd e
  obtain ⟨⟨ks, ds⟩, h6, e⟩ := bnd e
  split at e
  · rename_i hz
    cases e
    refine hv dk H0 F0 F σ H env st d s1 g h1 _ fun v F1 H1 x1 g1 r1 => ?_
    refine ho dk H0 F0 F1 σ H1 env s1 x s2 g1 h2 _ fun u F2 H2 x2 g2 r2 => ?_
    have hx : x = .ref n := refOf_eq h3
    subst hx
    obtain ⟨a, rfl, ha⟩ := r2.refn
    refine hk dk H0 F0 F2 σ H2 env s2 y s3 g2 h4 _ fun w F3 H3 x3 g3 r3 => ?_
    have ha3 := x3.f.at ha
    obtain ⟨zs, vs, dd, k2, k3, k4, k5⟩ := g3.wd.nkdAt ha3 h6
    obtain ⟨b, rfl, nk⟩ := r3.nkT g3.wd.sub h5
    have ek : nkOf y = some k := nkT_of h5
    have hl : zs.length = ks.length := by
      have := congrArg List.length k3
      simpa using this.symm
    refine ⟨b, a, k, zs, rfl, rfl, nk, hz.1, dd, by rw [hl]; exact hz.2, fun u ru => ?_⟩
    exact hd F3 σ _ (x1.f.trans (x2.f.trans x3.f)) (g3.put ha3 dd.h (by rintro ⟨_, _, z⟩; cases z) (put_obAt dd k2 k3 k4 k5 hz.1 r3 ek ru (r1.mono (x2.f.trans x3.f))))
  · cases e
/-! {k: v}, for the store -/
def stoN (fk fv : ME) : ME := fun env st => (fk env st).bind fun p => (fv env p.2).bind fun q => (nkT p.1).bind fun k => if k.depth ≤ 8 then some (.ref q.2.ob.length, q.2.ad (.nkd [p.1] [q.1])) else none
theorem im_stoN {tk tv : TE} {fk fv : ME} (hk : Im K tk fk) (hv : Im K tv fv) : Im K (tDispN K tk tv) (stoN fk fv) := fun dk H0 F0 F σ H env st d st' g e Q q => by
  obtain ⟨⟨x, s1⟩, e1, e⟩ := bnd e
  obtain ⟨⟨y, s2⟩, e2, e⟩ := bnd e
  obtain ⟨k, e3, e⟩ := bnd e
  split at e
  · rename_i hz
    cases e
    intro p hp
    have nd := g.nedk hp
    have px : Px F H F (upd H p (.ext (NkAt p []))) := Px.lay g.wd.sub hp
    have fp := g.wd.out hp
    refine hk dk H0 F0 F σ _ env st x s1 (g.px px) e1 _ fun v F1 H1 x1 g1 r1 => ?_
    refine hv dk H0 F0 F1 σ H1 env s1 y s2 g1 e2 _ fun u F2 H2 x2 g2 r2 => ?_
    have h2 : H2 p = some (.ext (NkAt p [])) := (x1.trans x2).h _ _ upd_same nd.1 nd.2 (.inl fp.2)
    have f2 : F2.out p := (x1.trans x2).out fp (nn upd_same)
    have no := g.noown hp
    obtain ⟨b, rfl, nk⟩ := (r1.mono x2.f).nkT g2.wd.sub e3
    have ek : nkOf x = some k := nkT_of e3
    refine ⟨h2, b, k, rfl, nk, hz, fun w rw' => ?_⟩
    have g3 : Good K dk H0 F0 F2 σ (upd H2 p (.ext (NkAt p [(k, b, w)]))) env s2 := g2.mutT h2 f2 (g.fresh0 hp) nd.1 nd.2 no
    refine q (.ref p) _ _ (((px.ext.trans (x1.trans x2)).upd hp).ad hp) (g3.ad upd_same f2 (g.fresh0 hp) nd.1 nd.2 no ?_) (.ref (ad_at g3.wd p))
    refine .nkd (zs := [(k, b, w)]) (vs := [u]) upd_same (.cons ((r1.mono x2.f).mono Le.ad) .nil) (by simp [ek]) (.cons rw' .nil) (.cons (r2.mono Le.ad) .nil) (by simp) fun z hz' => by rw [List.mem_singleton.mp hz']; exact hz
  · cases e
end
end MD

set_option Elab.async false
set_option linter.all false
set_option maxRecDepth 100000
set_option maxHeartbeats 1000000
namespace MD
open PySem PySem.Spec PyProof.Rows L2
variable {ww : WW}
section
variable {K : Fg}
/-! a, b, c = x, y, z -/
def three (i j l : Nat) (env : Sg) : List D → Option Sg
  | [a, b, c] => some (((env.set i (.val a)).set j (.val b)).set l (.val c))
  | _ => none
def par3M (i j l : Nat) (fa : MA) : MS := fun env st => (fa env st).bind fun p => (three i j l env p.1).map fun e => (.nx e, p.2)
theorem is_par3 {ta : TA} {fa : MA} (i j l : Nat) (h : ImA K ta fa) : ImS K (tPar3 i j l ta) (par3M i j l fa) := fun dk H0 F0 F σ H env st fl st' g e E hd => by
  obtain ⟨⟨ds, s1⟩, e1, e⟩ := bnd e
  obtain ⟨en, e2, e⟩ := mpd e
  cases e
  refine h dk H0 F0 F σ H env st ds s1 g e1 _ fun vs F1 H1 x1 g1 r1 => ?_
  replace e2 : three i j l env ds = some en := e2
  unfold three at e2
  split at e2
  · cases e2
    cases r1 with
    | cons a b => cases b with
      | cons b c => cases c with
        | cons c d =>
          cases d
          exact ⟨_, _, _, rfl, hd F1 _ H1 x1.f (((g1.set a).set b).set c)⟩
  · cases e2
/-! a global tuple of constants -/
def GTup (K : Fg) (mg : Str → Option Value) (x : Str) (ds : List D) : Prop := ∃ a : Addr, mg x = some (.ref a) ∧ ∃ vs, (∀ H : Hp, SqT K H a vs) ∧ ∀ (dk : Dk) (F : Fz), Rps K dk F vs ds
theorem im_gtup {mg : Str → Option Value} {x : Str} {ds : List D} (h : GTup K mg x ds) : Im K (tC (.ref h.choose)) (cst (.tup ds)) := fun dk H0 F0 F σ H env st d st' g e Q q => by
  cases e
  obtain ⟨_, vs, h1, h2⟩ := h.choose_spec
  exact q _ F H (Ext.refl F H) g (.tup (h1 _) (h2 _ _))
def conV : Value → Option (V × D)
  | .int i _ => some (.int i, .int i)
  | .bool b => some (.bl b, .bl b)
  | .str s _ => some (.str s, .str s)
  | .none => some (.non, .non)
  | _ => none
theorem conV_ok {u : Value} {v : V} {d : D} (h : conV u = some (v, d)) : RelV v u ∧ ∀ (dk : Dk) (F : Fz), Rp K dk F v d := by
  cases u <;> first | (cases h; exact ⟨⟨_, rfl⟩, fun _ _ => .int _⟩) | (cases h; exact ⟨rfl, fun _ _ => .bl _⟩) | (cases h; exact ⟨⟨_, rfl⟩, fun _ _ => .str _⟩) | (cases h; exact ⟨rfl, fun _ _ => .non⟩) | cases h
theorem gtup_of {mg : Str → Option Value} {x : Str} {a : Addr} {o : Obj} {us : List Value} {n : Nat} {ds : List D} (h : mg x = some (.ref a)) (hk : K.lookup a = some o) (hc : o.cls = .type "tuple") (hd : o.data = .seq us.toArray n) (hl : us.length ≤ 1000)
    (hv : ∃ vs : List V, us.map conV = (vs.zip ds).map some ∧ vs.length = us.length ∧ ds.length = us.length) : GTup K mg x ds := by
  obtain ⟨vs, e1, e2, e3⟩ := hv
  have key : ∀ (us : List Value) (vs : List V) (ds : List D), us.map conV = (vs.zip ds).map some → vs.length = us.length → ds.length = us.length → Vals vs us ∧ ∀ (dk : Dk) (F : Fz), Rps K dk F vs ds := by
    intro us
    induction us with
    | nil =>
      intro vs ds _ h1 h2
      cases vs with
      | nil => cases ds with
        | nil => exact ⟨.nil, fun _ _ => .nil⟩
        | cons _ _ => simp at h2
      | cons _ _ => simp at h1
    | cons u us ih =>
      intro vs ds h h1 h2
      cases vs with
      | nil => simp at h1
      | cons v vs => cases ds with
        | nil => simp at h2
        | cons d ds =>
          rw [List.zip_cons_cons, List.map_cons, List.map_cons] at h
          injection h with h3 h4
          obtain ⟨i1, i2⟩ := ih vs ds h4 (by simpa using h1) (by simpa using h2)
          obtain ⟨c1, c2⟩ := conV_ok (K := K) h3
          exact ⟨.cons c1 i1, fun dk F => .cons (c2 dk F) (i2 dk F)⟩
  obtain ⟨i1, i2⟩ := key us vs ds e1 e2 e3
  exact ⟨a, h, vs, fun H => .inr ⟨o, us.toArray, n, hk, hc, hd, by rw [sizeLine_eq]; simp; omega, by simpa using i1⟩, i2⟩
end
theorem pe_gtup {X : Cx} {x : Str} {ds : List D} {pos : Pos} (hg : Gl X x) (h : GTup X.K X.mg x ds) (hd : (x == ("__debug__" : Str)) = false := by decide) : PE X (.Name x pos) (tC (.ref h.choose)) := pe_glob hg h.choose_spec.1 rfl hd
end MD

set_option Elab.async false
set_option linter.all false
set_option maxRecDepth 100000
set_option maxHeartbeats 1000000
namespace MD
open PySem PySem.Spec PyProof.Rows L2
variable {ww : WW}

/-! ### instances: fields -/
def lookF : List Str → List D → Str → Option D
  | f :: fs, d :: ds, g => if f = g then some d else lookF fs ds g
  | _, _, _ => none
def putFN : List Str → Str → List Str
  | [], g => [g]
  | f :: fs, g => if f = g then f :: fs else f :: putFN fs g
def putFV {α : Type} : List Str → List α → Str → α → List α
  | [], _, _, v => [v]
  | f :: fs, x :: xs, g, v => if f = g then v :: xs else x :: putFV fs xs g v
  | _ :: _, [], _, v => [v]
theorem putF_zip : ∀ (fs : List Str) (vs : List V) (g : Str) (v : V), fs.length = vs.length → putF g v (fs.zip vs) = (putFN fs g).zip (putFV fs vs g v) ∧ (putFN fs g).length = (putFV fs vs g v).length
  | [], [], g, v, _ => ⟨rfl, rfl⟩
  | [], _ :: _, _, _, h => by cases h
  | _ :: _, [], _, _, h => by cases h
  | f :: fs, x :: vs, g, v, h => by
    obtain ⟨i1, i2⟩ := putF_zip fs vs g v (by simpa using h)
    rw [List.zip_cons_cons]
    show (if f = g then (f, v) :: fs.zip vs else (f, x) :: putF g v (fs.zip vs)) = _ ∧ _
    unfold putFN putFV
    by_cases e : f = g
    · rw [if_pos e, if_pos e, if_pos e]
      exact ⟨rfl, by simpa using h⟩
    · rw [if_neg e, if_neg e, if_neg e, i1]
      exact ⟨rfl, by simpa using i2⟩
section
variable {K : Fg} {dk : Dk} {F : Fz} {H : Hp}
theorem putFV_rps {v : V} {d : D} (r : Rp K dk F v d) (g : Str) : ∀ {fs : List Str} {vs : List V} {ds : List D}, fs.length = vs.length → Rps K dk F vs ds → Rps K dk F (putFV fs vs g v) (putFV fs ds g d)
  | [], _, _, _, _ => .cons r .nil
  | f :: fs, _, _, h, .nil => by cases h
  | f :: fs, _, _, h, .cons a b => by
    unfold putFV
    by_cases e : f = g
    · rw [if_pos e, if_pos e]; exact .cons r b
    · rw [if_neg e, if_neg e]; exact .cons a (putFV_rps r g (by simpa using h) b)
theorem lookF_rp {g : Str} {d : D} : ∀ {fs : List Str} {vs : List V} {ds : List D}, fs.length = vs.length → Rps K dk F vs ds → lookF fs ds g = some d → ∃ v, (fs.zip vs).lookup g = some v ∧ Rp K dk F v d
  | [], _, _, _, _, e => by cases e
  | f :: fs, _, _, h, .nil, e => by cases h
  | f :: fs, v :: vs, _, h, .cons a b, e => by
    unfold lookF at e
    rw [List.zip_cons_cons]
    by_cases q : f = g
    · rw [if_pos q] at e
      cases e
      have : (g == f) = true := beq_iff_eq.mpr q.symm
      exact ⟨v, by simp [List.lookup, this], a⟩
    · rw [if_neg q] at e
      obtain ⟨u, h1, h2⟩ := lookF_rp (by simpa using h) b e
      have : (g == f) = false := beq_eq_false_iff_ne.mpr fun z => q z.symm
      exact ⟨u, by simp [List.lookup, this, h1], h2⟩
theorem look_none {g : Str} : ∀ {fs : List Str} {vs : List V}, g ∉ fs → (fs.zip vs).lookup g = none
  | [], vs, _ => by simp
  | f :: fs, [], _ => by simp
  | f :: fs, v :: vs, h => by
    rw [List.mem_cons, not_or] at h
    rw [List.zip_cons_cons]
    have : (g == f) = false := beq_eq_false_iff_ne.mpr h.1
    simp [List.lookup, this, look_none h.2]
end
/-- what must be known of a class: its names, and that no class of it has a name of the fields -/
structure ClsOk (K : Fg) (c : Str) (fl : List Str) : Prop where
  cl : ∀ C, clsOf K c = some C → Cls K C
  no : ∀ C, clsOf K c = some C → ∀ f ∈ fl, NoAttr K C f
theorem cs1 {K : Fg} {c : Str} {fl : List Str} (h : ClsOk K c fl) : ∀ c' ∈ [c], ClsOk K c' fl := fun c' hc => by rw [List.mem_singleton.mp hc]; exact h
def insAt (cs : List Str) (st : S) (n : Nat) : Option (Str × List Str × List D) := match st.ob[n]? with
  | some (.ins c fs xs) => if c ∈ cs then some (c, fs, xs) else none
  | _ => none
theorem insAt_eq {cs : List Str} {st : S} {n : Nat} {q : Str × List Str × List D} (h : insAt cs st n = some q) : st.ob[n]? = some (.ins q.1 q.2.1 q.2.2) ∧ q.1 ∈ cs := by
  unfold insAt at h
  split at h
  · split at h
    · rename_i e hc
      cases h
      exact ⟨e, hc⟩
    · cases h
  · cases h
section
variable {K : Fg}
theorem Wd.insAt {dk : Dk} {F : Fz} {H : Hp} {st : S} {cs : List Str} {n : Nat} {a : Addr} {q : Str × List Str × List D} (w : Wd K dk F H st) (hn : F.mu[n]? = some a) (h : MD.insAt cs st n = some q) :
    ∃ C dx vs, clsOf K q.1 = some C ∧ H a = some (.ins C dx (q.2.1.zip vs)) ∧ q.2.1.length = vs.length ∧ Rps K dk F vs q.2.2 := by
  obtain ⟨e, _⟩ := insAt_eq h
  obtain ⟨_, o⟩ := w.ob n a _ hn e
  cases o with
  | ins h1 h2 h3 h4 => exact ⟨_, _, _, h1, h2, h3, h4⟩
/-! e.f -/
def fldM (cs : List Str) (f : Str) (fo : ME) : ME := fun env st => (fo env st).bind fun p => (refOf p.1).bind fun n => (insAt cs p.2 n).bind fun z => (lookF z.2.1 z.2.2 f).map fun d => (d, p.2)
theorem im_fld {cs fl : List Str} {f : Str} {to : TE} {fo : ME} (hc : ∀ c ∈ cs, ClsOk K c fl) (hf : f ∈ fl) (ho : Im K to fo) : Im K (tFld K to f) (fldM cs f fo) := fun dk H0 F0 F σ H env st d st' g e Q q => by
  obtain ⟨⟨x, s1⟩, e1, e⟩ := bnd e
  obtain ⟨n, e2, e⟩ := bnd e
  obtain ⟨z, e3, e⟩ := bnd e
  obtain ⟨d', e4, e⟩ := mpd e
  cases e
  refine ho dk H0 F0 F σ H env st x s1 g e1 _ fun v F1 H1 x1 g1 r1 => ?_
  have hx : x = .ref n := refOf_eq e2
  subst hx
  obtain ⟨a, rfl, ha⟩ := r1.refn
  obtain ⟨C, dx, vs, h1, h2, h3, h4⟩ := g1.wd.insAt ha e3
  obtain ⟨v, h5, h6⟩ := lookF_rp h3 h4 e4
  have ok := hc _ (insAt_eq e3).2
  exact ⟨a, C, dx, _, v, rfl, h2, ok.cl C h1, ok.no C h1 f hf, h5, q v F1 H1 x1 g1 h6⟩
/-! e.f = v -/
def setM (cs : List Str) (f : Str) (fo fv : ME) : MS := fun env st => (fv env st).bind fun p => (fo env p.2).bind fun o => (refOf o.1).bind fun n => (insAt cs o.2 n).bind fun z => if z.2.1.length < 1000 then some (.nx env, o.2.put n (.ins z.1 (putFN z.2.1 f) (putFV z.2.1 z.2.2 f p.1))) else none
theorem is_setf {cs fl : List Str} {f : Str} {to tv : TE} {fo fv : ME} (hc : ∀ c ∈ cs, ClsOk K c fl) (hf : f ∈ fl) (ho : Im K to fo) (hv : Im K tv fv) : ImS K (sFld K to tv f) (setM cs f fo fv) := fun dk H0 F0 F σ H env st fl' st' g e E hd => by
  obtain ⟨⟨d, s1⟩, h1, e⟩ := bnd e
  obtain ⟨⟨x, s2⟩, h2, e⟩ := bnd e
  obtain ⟨n, h3, e⟩ := bnd e
  obtain ⟨z, h4, e⟩ := bnd e
  split at e
  · rename_i hz
    cases e
    refine hv dk H0 F0 F σ H env st d s1 g h1 _ fun v F1 H1 x1 g1 r1 => ?_
    refine ho dk H0 F0 F1 σ H1 env s1 x s2 g1 h2 _ fun u F2 H2 x2 g2 r2 => ?_
    have hx : x = .ref n := refOf_eq h3
    subst hx
    obtain ⟨a, rfl, ha⟩ := r2.refn
    obtain ⟨C, dx, vs, k1, k2, k3, k4⟩ := g2.wd.insAt ha h4
    have ok := hc _ (insAt_eq h4).2
    obtain ⟨p1, p2⟩ := putF_zip z.2.1 vs f v k3
    refine ⟨a, C, dx, _, rfl, k2, ok.cl C k1, ok.no C k1 f hf, ?_, ?_⟩
    · rw [List.length_zip, ← k3, Nat.min_self]; exact hz
    · refine hd F2 σ _ (x1.f.trans x2.f) (g2.put ha k2 (by rintro ⟨_, _, z⟩; cases z) ?_)
      exact .ins (dx := dx) k1 (by rw [upd_same, p1]) p2 (putFV_rps (r1.mono x2.f) f k3 k4)
  · cases e
/-! methods -/
def methM (c m : Str) (mf : MF) (fo : ME) (a : MA) : ME := fun env st => (fo env st).bind fun p => (refOf p.1).bind fun n => (insAt [c] p.2 n).bind fun z => if m ∉ z.2.1 then (a env p.2).bind fun q => mf (p.1 :: q.1) q.2 else none
theorem im_meth {c m : Str} {C : Addr} {n : Nat} {mf : MF} {to : TE} {ta : TA} {fo : ME} {a : MA} {E : XK} (hC : clsOf K c = some C) (ho : Im K to fo) (ha : ImA K ta a) (hn : ∀ env st p, a env st = some p → p.1.length = n) : Im K (tMeth C m (spD K (n + 1) mf) [] E to ta) (methM c m mf fo a) := fun dk H0 F0 F σ H env st d st' g e Q q => by
  obtain ⟨⟨x, s1⟩, e1, e⟩ := bnd e
  obtain ⟨j, e2, e⟩ := bnd e
  obtain ⟨z, e3, e⟩ := bnd e
  split at e
  · rename_i hm
    obtain ⟨⟨ds, s2⟩, e4, e⟩ := bnd e
    refine ho dk H0 F0 F σ H env st x s1 g e1 _ fun v F1 H1 x1 g1 r1 => ?_
    have hx : x = .ref j := refOf_eq e2
    subst hx
    obtain ⟨b, rfl, hb⟩ := r1.refn
    obtain ⟨C', dx, vs, h1, h2, h3, h4⟩ := g1.wd.insAt hb e3
    have hz : z.1 = c := List.mem_singleton.mp (insAt_eq e3).2
    rw [hz, hC] at h1
    cases h1
    refine ⟨b, dx, _, rfl, h2, look_none hm, ?_⟩
    refine ha dk H0 F0 F1 σ H1 env s1 ds s2 g1 e4 _ fun us F2 H2 x2 g2 r2 => ?_
    rw [List.append_nil]
    exact ⟨by simpa using r2.length.trans (hn _ _ _ e4), dk, F2, .ref j :: ds, s2, d, st', g2.wd, .cons (r1.mono x2.f) r2, e, fun v F' H' x w r => q v F' H' ((x1.trans x2).trans x) (g2.step x w) r⟩
  · cases e
/-! making -/
def makeM (c : Str) (mf : MF) (a : MA) : ME := fun env st => (a env st).bind fun p => (mf (.ref p.2.ob.length :: p.1) (p.2.ad (.ins c [] []))).bind fun q => match q.1 with
  | .non => some (.ref p.2.ob.length, q.2)
  | _ => none
theorem im_make {c : Str} {C : Addr} {n : Nat} {mf : MF} {ta : TA} {a : MA} {E : XK} (hC : clsOf K c = some C) (ha : ImA K ta a) (hn : ∀ env st p, a env st = some p → p.1.length = n) : Im K (tMake C (spD K (n + 1) mf) [] E ta) (makeM c mf a) := fun dk H0 F0 F σ H env st d st' g e Q q => by
  obtain ⟨⟨ds, s1⟩, e1, e⟩ := bnd e
  obtain ⟨⟨y, s2⟩, e2, e⟩ := bnd e
  refine ha dk H0 F0 F σ H env st ds s1 g e1 _ fun vs F1 H1 x1 g1 r1 => ?_
  intro x dx hx hdx hne
  have px1 : Px F1 H1 F1 (upd H1 dx (.own x)) := Px.lay g1.wd.sub hdx
  have hx1 : upd H1 dx (.own x) x = none := by rw [upd_ne hne.symm]; exact hx
  have g2 := g1.px px1
  have px2 : Px F1 (upd H1 dx (.own x)) F1 (upd (upd H1 dx (.own x)) x (.ins C dx [])) := Px.lay g2.wd.sub hx1
  have nd := g1.nedk hx
  have fx := g1.wd.out hx
  have g3 := (g2.px px2).ad (p := x) (ob := .ins c [] []) upd_same fx (g1.fresh0 hx) nd.1 nd.2 (g1.noown hx) (.ins (dx := dx) (vs := []) hC upd_same rfl .nil)
  have hat := ad_at (g2.px px2).wd x
  rw [List.append_nil]
  have hl : (V.ref x :: vs).length = n + 1 := by simpa using r1.length.trans (hn _ _ _ e1)
  have xx : Ext dk F1 H1 (F1.ad x) (upd (upd H1 dx (.own x)) x (.ins C dx [])) := ((px1.ext.trans px2.ext)).ad hx
  refine ⟨hl, dk, F1.ad x, .ref s1.ob.length :: ds, s1.ad (.ins c [] []), y, s2, g3.wd, .cons (.ref hat) (r1.mono Le.ad), e2, fun v F' H' x2 w r => ?_⟩
  cases y with
  | non =>
    cases e
    cases r
    exact ⟨rfl, q (.ref x) F' H' (x1.trans (xx.trans x2)) (g3.step x2 w) (.ref (x2.f.at hat))⟩
  | _ => cases e
end
/-! ### the rules of the text -/
theorem guards_make {A : Around} (C : Addr) (us : List Value) (h : A.guards = some []) : (A.under (.builtin "type.__call__" ⟨.ref C :: us, []⟩)).guards = some [] := by
  have h1 : (A.under (.builtin "type.__call__" ⟨.ref C :: us, []⟩)).guards = pushGuards (Code.guards (.builtin "type.__call__" ⟨.ref C :: us, []⟩)) A.guards := rfl
  have h2 : Code.guards (.builtin "type.__call__" ⟨.ref C :: us, []⟩) = [] := by
    unfold Code.guards
    rw [if_neg]
    have : Code.isGuard (.builtin "type.__call__" ⟨.ref C :: us, []⟩) = false := by
      first | rfl | decide +kernel | simp [Code.isGuard, guardIds]
    rw [this]
    exact Bool.false_ne_true
  rw [h1, h2, h]
  rfl
section
variable {X : Cx} {k : Nat} {f C : Addr} {fd : FuncData} {ps : List Str} {sp : Sp} {x m : Str} {p pos apos : Pos} {e o : Expr} {es : List Expr} {ta : TE} {t : TA}
theorem pe_methG {pl : Sem Bool} (he : PE X o ta) (c : Cls X.K C) (hm : Meth X.K C m f) (F : FnG X.prog X.w X.K X.mg X.base k f fd ps sp) (hr : Room k X.A) (gd : X.A.guards = some []) (hb : Binds X.K fd ps []) (ha : PA X (e :: es) t)
    (hst : starEach (e :: es) X.env = (false, eval e X.env) :: starEach es X.env := by rfl) (hpl : (backTo pos (starEach es X.env)).any (·.1) = false := by rfl)
    (ht : eval (.Call (.Attribute o m apos) (e :: es) [] pos) X.env = (do
      let ov ← eval o X.env
      standAt apos.atName
      let (f, first) ← holding [ov] (getMethod ov m pl)
      callWith pos f first (backTo pos (starEach (e :: es) X.env)) (backToKw pos (keywordEach [] X.env))) := by rfl) :
    PE X (.Call (.Attribute o m apos) (e :: es) [] pos) (tMeth C m sp [] E0 ta t) := by
  refine ⟨fun pins s σ H Q I h => ?_⟩
  refine PySem.W.methodCall_KW (pl := pl) (thn (he.run pins s σ H _ I h) fun u s1 ⟨x, H1, I1, rx, a, dx, fs, ex, ea, l, q⟩ => ?_) ht
  subst ex
  obtain rfl : u = Value.ref a := rx
  refine getmeth_ok I1 ea c hm l ?_
  refine PySem.W.callWith_K (first := [.ref a]) (h₀ := X.base) I.ok.mod.kin hm.kp (thn (ha.run pos pins s1 σ H1 _ I1 q) fun us s2 ⟨vs, H2, I2, r, q2⟩ => ⟨I2.kIn, ?_⟩) hst hpl
  replace q2 : sp (V.ref a :: (vs ++ [])) H2 Q E0 := q2
  rw [List.append_nil] at q2
  exact runG (us := .ref a :: us) (vs := .ref a :: vs) F hr gd hb I2 (.cons rfl r) q2
theorem pe_methG0 {pl : Sem Bool} (he : PE X o ta) (c : Cls X.K C) (hm : Meth X.K C m f) (F : FnG X.prog X.w X.K X.mg X.base k f fd ps sp) (hr : Room k X.A) (gd : X.A.guards = some []) (hb : Binds X.K fd ps [])
    (ht : eval (.Call (.Attribute o m apos) [] [] pos) X.env = (do
      let ov ← eval o X.env
      standAt apos.atName
      let (f, first) ← holding [ov] (getMethod ov m pl)
      callWith pos f first (backTo pos (starEach [] X.env)) (backToKw pos (keywordEach [] X.env))) := by rfl) :
    PE X (.Call (.Attribute o m apos) [] [] pos) (tMeth C m sp [] E0 ta tNil) := by
  refine ⟨fun pins s σ H Q I h => ?_⟩
  refine PySem.W.methodCall_KW (pl := pl) (thn (he.run pins s σ H _ I h) fun u s1 ⟨x, H1, I1, rx, a, dx, fs, ex, ea, l, q⟩ => ?_) ht
  subst ex
  obtain rfl : u = Value.ref a := rx
  refine getmeth_ok I1 ea c hm l ?_
  exact PySem.W.callWith_K0 (first := [.ref a]) I1.kIn hm.kp (runG (us := [.ref a]) (vs := [.ref a]) F hr gd hb I1 (.cons rfl .nil) q)
theorem run_makeG {pins : List (Addr × Obj)} {σ : L2.St} {H : Hp} {s : Shared} {Q : VK} {us : List Value} {vs : List V} (M : Mk X.K C f) (F : FnG X.prog X.w X.K X.mg X.base k f fd ps sp) (hr : Room (k + 1) X.A) (gd : X.A.guards = some []) (hb : Binds X.K fd ps [])
    (I : L2.Inv X pins σ H s) (r : Vals vs us)
    (h : ∀ x dx, H x = none → H dx = none → dx ≠ x → sp (.ref x :: vs) (upd (upd H dx (.own x)) x (.ins C dx [])) (fun v H2 => v = .non ∧ Q (.ref x) H2) E0) :
    wpAny (model X.prog X.w) X.A (call (.ref C) us) (EP X pins σ Q) X.xe s := by
  have hq := h (s.heap.objs.size + 1) s.heap.objs.size (I.hok.fresh (Nat.le_succ _)) (I.hok.fresh (Nat.le_refl _)) (Nat.ne_of_lt (Nat.lt_succ_self _))
  have I2 := Inv.made (C := C) I
  have r2 : Vals (V.ref (s.heap.objs.size + 1) :: vs) (Value.ref (s.heap.objs.size + 1) :: us) := .cons rfl r
  have hl : (Value.ref (s.heap.objs.size + 1) :: us).length = ps.length := by
    have e := r2.length
    rw [F.len _ _ _ _ hq] at e
    exact e.symm
  have bb := hb _ (Value.ref (s.heap.objs.size + 1) :: us) I2.kIn (by rw [List.append_nil]; exact hl)
  rw [List.append_nil] at bb
  refine wpAny_call (make_map (f := f) I.kIn M.makes M.init (beq_iff_eq.mp M.fn) (codeAny_mono (F.run _ X.stack _ _ ⟨Value.ref (s.heap.objs.size + 1) :: us, []⟩ (Value.ref (s.heap.objs.size + 1) :: us) _ _ E0 (hr.make C us []) (guards_make C us gd)
    (I2.env0.make C us []) bb r2 hq) fun r s' hq' => ?_))
  cases r with
  | error e => exact False.elim hq'
  | ok fl =>
    cases fl with
    | ret u =>
      obtain ⟨v, H', I3, rv, ev, q3⟩ := I2.after hq'
      subst ev
      exact ⟨rv, ⟨V.ref (s.heap.objs.size + 1), H', I3, rfl, q3⟩⟩
    | next => exact False.elim hq'
    | brk => exact False.elim hq'
    | cont => exact False.elim hq'
theorem pe_makeG (M : Mk X.K C f) (F : FnG X.prog X.w X.K X.mg X.base k f fd ps sp) (hr : Room (k + 1) X.A) (gd : X.A.guards = some []) (hg : Gl X x) (hm : X.mg x = some (.ref C)) (hb : Binds X.K fd ps [])
    (ha : PA X (e :: es) t) (hdb : (x == ("__debug__" : Str)) = false := by decide) (he : starEach (e :: es) X.env = (false, eval e X.env) :: starEach es X.env := by rfl) (hpl : (backTo pos (starEach es X.env)).any (·.1) = false := by rfl) :
    PE X (.Call (.Name x p) (e :: es) [] pos) (tMake C sp [] E0 t) := by
  refine ⟨fun pins s σ H Q I h => ?_⟩
  refine wpAny_Call_Name_kw (ld_glob I hg hm ?_ hdb)
  refine PySem.W.callWith_K (h₀ := X.base) I.ok.mod.kin M.kp (thn (ha.run pos pins s σ H _ I h) fun us s1 ⟨vs, H1, I1, r, q⟩ => ⟨I1.kIn, ?_⟩) he hpl
  refine run_makeG M F hr gd hb I1 r fun x dx h1 h2 h3 => ?_
  have := q x dx h1 h2 h3
  rw [List.append_nil] at this
  exact this
end
/-! ### methods and makers, as a caller sees them -/
def CalM (P : Program) (w : World) (K : Fg) (mg : Str → Option Value) (base : Heap) (k : Nat) (c m : Str) (ps : List Str) (sp : Sp) : Prop :=
  ∃ C : Addr, clsOf K c = some C ∧ Cls K C ∧ ∃ f fd, FnG P w K mg base k f fd ps sp ∧ Meth K C m f ∧ Binds K fd ps []
def CalK (P : Program) (w : World) (K : Fg) (mg : Str → Option Value) (base : Heap) (k : Nat) (c : Str) (ps : List Str) (sp : Sp) : Prop :=
  ∃ C : Addr, clsOf K c = some C ∧ mg c = some (.ref C) ∧ ∃ f fd, FnG P w K mg base k f fd ps sp ∧ Mk K C f ∧ Binds K fd ps []
end MD

set_option Elab.async false
set_option linter.all false
set_option maxRecDepth 100000
set_option maxHeartbeats 1000000
namespace MD
open PySem PySem.Spec PyProof.Rows L2
variable {ww : WW}
section
variable {K : Fg} {dk : Dk} {F : Fz}
/-! range(i, j, -1) -/
def dnD (lo : Int) (n : Nat) : List D := (List.range n).map fun k => .int (lo + (k : Nat) * (-1))
theorem dnD_get {lo : Int} {n i : Nat} {d : D} (h : (dnD lo n)[i]? = some d) : i < n ∧ d = .int (lo + (i : Nat) * (-1)) := by
  unfold dnD at h
  rw [List.getElem?_map] at h
  obtain ⟨j, h1, h2⟩ := mpd h
  have hi : i < n := by
    by_cases hl : i < n
    · exact hl
    · rw [List.getElem?_eq_none (by rw [List.length_range]; omega)] at h1; cases h1
  rw [List.getElem?_range hi] at h1
  cases h1
  exact ⟨hi, h2.symm⟩
theorem stdy_dn (lo : Int) (n : Nat) : Stdy K dk F (Itc lo (-1) n) (dnD lo n) := fun F1 H1 st le w i => by
  refine ⟨fun d hd => ?_, fun hl => ?_⟩
  · obtain ⟨h1, rfl⟩ := dnD_get hd
    refine ⟨h1, fun x H2 hy => ?_⟩
    obtain ⟨e1, e2⟩ := hy
    subst e1 e2
    exact ⟨F1, Px.refl w.sub, .int _⟩
  · show n ≤ i
    unfold dnD at hl
    simpa using hl
def r3M (a : MA) : MI := fun env st => (a env st).bind fun p => match p.1 with
  | [.int i, .int j, .int c] => if c = -1 ∧ -(2 ^ 62) ≤ i ∧ i < 2 ^ 62 ∧ -(2 ^ 62) ≤ j ∧ j < 2 ^ 62 then some (dnD i (i - j).toNat, p.2) else none
  | _ => none
theorem Rws.three {H : Hp} {vs : List V} {d e f : D} (r : Rws K dk F H vs [d, e, f]) : ∃ v u x, vs = [v, u, x] ∧ Rw K dk F H v d ∧ Rw K dk F H u e ∧ Rw K dk F H x f := by
  cases r with
  | cons a b => cases b with
    | cons b c => cases c with
      | cons c d => cases d; exact ⟨_, _, _, rfl, a, b, c⟩
theorem ii_range3 {ta : TA} {a : MA} (h : ImAW K ta a) : ImI K (iRng3 ta) (r3M a) := fun dk H0 F0 F σ H env st ds st' g e R q => by
  obtain ⟨⟨xs, s1⟩, h1, e⟩ := bnd e
  refine h dk H0 F0 F σ H env st xs s1 g h1 _ fun vs F1 H1 x1 g1 r1 => ?_
  dsimp only at e
  split at e
  · split at e
    · rename_i i j c hj
      cases e
      obtain ⟨v, u, x, rfl, r, r', r''⟩ := r1.ws.three
      cases r.int
      cases r'.int
      cases r''.int
      obtain ⟨rfl, h2, h3, h4, h5⟩ := hj
      exact ⟨i, j, -1, (i - j).toNat, rfl, RgC.neg h2 h3 h4 h5, q _ F1 H1 x1 g1 (stdy_dn i (i - j).toNat)⟩
    · cases e
  · cases e
end
section
variable {K : Fg}
/-! xs[::-1] -/
def revM (f : ME) : MA := fun env st => (f env st).bind fun p => match dr p.2 p.1 with
  | .lst ds => some (ds.reverse, p.2)
  | _ => none
theorem Rps.reverse {dk : Dk} {F : Fz} : ∀ {vs : List V} {ds : List D}, Rps K dk F vs ds → Rps K dk F vs.reverse ds.reverse
  | _, _, .nil => .nil
  | _, _, .cons a b => by
    rw [List.reverse_cons, List.reverse_cons]
    exact (Rps.reverse b).append (Rps.one a)
theorem if_revL {te : TE} {f : ME} (h : ImW K te f) : ImF K (tRevL K te) (revM f) := fun dk H0 F0 F σ H env st ds st' g e Q q => by
  obtain ⟨⟨x, s1⟩, h1, e⟩ := bnd e
  refine h dk H0 F0 F σ H env st x s1 g h1 _ fun v F1 H1 x1 g1 r1 => ?_
  have r2 := r1.dr g1.wd
  dsimp only at e
  generalize dr s1 x = y at e r2
  split at e
  · cases e
    obtain ⟨a, vs, rfl, hl, r⟩ := r2.l g1.wd.sub
    refine ⟨a, vs, rfl, SqL.of hl, fun p hp => ?_⟩
    have px : Px F1 H1 F1 (upd H1 p (.lst vs.reverse)) := Px.lay g1.wd.sub hp
    exact q p _ F1 _ (x1.trans px.ext) (g1.px px) (x1.back hp) (g1.wd.out hp) upd_same r.reverse
  · cases e
end
/-! methods and makers by what a caller knows -/
section
variable {X : Cx} {k j : Nat} {c m : Str} {ps : List Str} {sp : Sp} {p pos apos : Pos} {e o : Expr} {es : List Expr} {ta : TE} {t : TA}
theorem pe_methC {pl : Sem Bool} (C : CalM X.prog X.w X.K X.mg X.base j c m ps sp) (hr : Room k X.A) (gd : X.A.guards = some []) (he : PE X o ta) (ha : PA X (e :: es) t) (hj : j ≤ k := by decide)
    (hst : starEach (e :: es) X.env = (false, eval e X.env) :: starEach es X.env := by rfl) (hpl : (backTo pos (starEach es X.env)).any (·.1) = false := by rfl)
    (ht : eval (.Call (.Attribute o m apos) (e :: es) [] pos) X.env = (do
      let ov ← eval o X.env
      standAt apos.atName
      let (f, first) ← holding [ov] (getMethod ov m pl)
      callWith pos f first (backTo pos (starEach (e :: es) X.env)) (backToKw pos (keywordEach [] X.env))) := by rfl) :
    PE X (.Call (.Attribute o m apos) (e :: es) [] pos) (tMeth C.choose m sp [] E0 ta t) := by
  obtain ⟨_, cl, f, fd, F, hm, hb⟩ := C.choose_spec
  exact pe_methG he cl hm F (hr.mono hj) gd hb ha hst hpl ht
theorem pe_methC0 {pl : Sem Bool} (C : CalM X.prog X.w X.K X.mg X.base j c m ps sp) (hr : Room k X.A) (gd : X.A.guards = some []) (he : PE X o ta) (hj : j ≤ k := by decide)
    (ht : eval (.Call (.Attribute o m apos) [] [] pos) X.env = (do
      let ov ← eval o X.env
      standAt apos.atName
      let (f, first) ← holding [ov] (getMethod ov m pl)
      callWith pos f first (backTo pos (starEach [] X.env)) (backToKw pos (keywordEach [] X.env))) := by rfl) :
    PE X (.Call (.Attribute o m apos) [] [] pos) (tMeth C.choose m sp [] E0 ta tNil) := by
  obtain ⟨_, cl, f, fd, F, hm, hb⟩ := C.choose_spec
  exact pe_methG0 he cl hm F (hr.mono hj) gd hb ht
theorem pe_makeC (C : CalK X.prog X.w X.K X.mg X.base j c ps sp) (hr : Room k X.A) (gd : X.A.guards = some []) (hg : Gl X c) (ha : PA X (e :: es) t) (hj : j + 1 ≤ k := by decide) (hdb : (c == ("__debug__" : Str)) = false := by decide)
    (he : starEach (e :: es) X.env = (false, eval e X.env) :: starEach es X.env := by rfl) (hpl : (backTo pos (starEach es X.env)).any (·.1) = false := by rfl) : PE X (.Call (.Name c p) (e :: es) [] pos) (tMake C.choose sp [] E0 t) := by
  obtain ⟨_, hm, f, fd, F, M, hb⟩ := C.choose_spec
  exact pe_makeG M F (hr.mono hj) gd hg hm hb ha hdb he hpl
end
section
variable {P : Program} {w : World} {K : Fg} {mg : Str → Option Value} {base : Heap} {j n : Nat} {c m : Str} {ps : List Str} {mf : MF} {to : TE} {ta : TA} {fo : ME} {a : MA} {E : XK}
theorem im_methC (C : CalM P w K mg base j c m ps (spD K (n + 1) mf)) (ho : Im K to fo) (ha : ImA K ta a) (hn : ∀ env st p, a env st = some p → p.1.length = n) : Im K (tMeth C.choose m (spD K (n + 1) mf) [] E to ta) (methM c m mf fo a) := im_meth C.choose_spec.1 ho ha hn
theorem im_makeC (C : CalK P w K mg base j c ps (spD K (n + 1) mf)) (ha : ImA K ta a) (hn : ∀ env st p, a env st = some p → p.1.length = n) : Im K (tMake C.choose (spD K (n + 1) mf) [] E ta) (makeM c mf a) := im_make C.choose_spec.1 ha hn
end
end MD

set_option Elab.async false
set_option linter.all false
set_option maxRecDepth 100000
set_option maxHeartbeats 1000000
namespace MD
open PySem PySem.Spec PyProof.Rows L2
variable {ww : WW}
section
variable {K : Fg}
/-! a field as a path -/
theorem pth_fld {cs fl : List Str} {f : Str} {to : TE} {fo : ME} (hc : ∀ c ∈ cs, ClsOk K c fl) (hf : f ∈ fl) (hp : Pth K to fo) : Pth K (tFld K to f) (fldM cs f fo) := fun dk H0 F0 F σ H env st d st' g e => by
  obtain ⟨⟨x, s1⟩, e1, e⟩ := bnd e
  obtain ⟨n, e2, e⟩ := bnd e
  obtain ⟨z, e3, e⟩ := bnd e
  obtain ⟨d', e4, e⟩ := mpd e
  cases e
  obtain ⟨es, v, r, q1, q2⟩ := hp dk H0 F0 F σ H env st x _ g e1
  have es' : s1 = st := es
  subst es'
  have hx : x = .ref n := refOf_eq e2
  subst hx
  obtain ⟨a, rfl, ha⟩ := r.refn
  obtain ⟨C, dx, vs, h1, h2, h3, h4⟩ := g.wd.insAt ha e3
  obtain ⟨u, h5, h6⟩ := lookF_rp h3 h4 e4
  have ok := hc _ (insAt_eq e3).2
  refine ⟨rfl, u, h6, fun Q q => q1 _ ⟨a, C, dx, _, u, rfl, h2, ok.cl C h1, ok.no C h1 f hf, h5, q⟩, fun b od kvs hb Q q => q2 b od kvs hb _ ⟨a, C, dx, _, u, rfl, ?_, ok.cl C h1, ok.no C h1 f hf, h5, q⟩⟩
  rw [upd_ne (fun z => by rw [z, hb] at h2; cases h2)]
  exact h2
/-! comprehensions over a list of the store -/
noncomputable def compLc (n : Nat) (ds0 : List D) (t : MG) (c : MT) (f : ME) (env : Sg) : List D → S → Option (List D × S)
  | [], st => cif (lstAt st n = some ds0) (some ([], st))
  | d :: ds, st => cif (lstAt st n = some ds0) ((t d env).bind fun e => (c e st).bind fun p => if p.1 then (f e p.2).bind fun q => (compLc n ds0 t c f env ds q.2).map fun r => (q.1 :: r.1, r.2) else compLc n ds0 t c f env ds p.2)
noncomputable def compR (fi : ME) (t : MG) (c : MT) (f : ME) (vs : List Nat) : MA := fun env st => (fi env st).bind fun p => match p.1 with
  | .ref n => (lstAt p.2 n).bind fun ds => if ds.length ≤ sizeLine then compLc n ds t c f (wipeE env vs) ds p.2 else none
  | d => (seqOf d).bind fun ds => if ds.length ≤ sizeLine then compL t c f (wipeE env vs) ds p.2 else none
theorem if_compR {ti : TE} {fi : ME} {g : TG} {tt : TT} {te : TE} {vs : List Nat} {t : MG} {c : MT} {f : ME} {is : List Nat} (h : Im K ti fi) (hg : ImG K g t is) (ht : ImT K tt c) (he : Im K te f) (hv : ∀ i ∈ is, i ∈ vs) :
    ImF K (tLc (iSeq K ti) g tt te vs) (compR fi t c f vs) := fun dk H0 F0 F σ H env st out st' gd e Q q => by
  obtain ⟨⟨d, s1⟩, e1, e⟩ := bnd e
  by_cases hr : ∃ n, d = .ref n
  · obtain ⟨n, rfl⟩ := hr
    obtain ⟨ds, eL, e⟩ := bnd (show ((lstAt s1 n).bind fun ds => if ds.length ≤ sizeLine then compLc n ds t c f (wipeE env vs) ds s1 else none) = some (out, st') from e)
    split at e
    · rename_i hz
      refine h dk H0 F0 F σ H env st _ s1 gd e1 _ fun v F1 H1 x1 g1 r1 => ?_
      obtain ⟨a, rfl, ha⟩ := r1.refn
      obtain ⟨vs0, hv0, rv0⟩ := g1.wd.lstAt ha eL
      refine .inl ⟨a, rfl, ⟨vs0, SqL.of hv0⟩, fun Dn hD => ?_⟩
      have hDH : H Dn = none := by
        cases w : H Dn with
        | none => rfl
        | some o => exact absurd hD (x1.m Dn (by rw [w]; exact fun z => nomatch z))
      have nd := g1.nedk hD
      have h0D := g1.fresh0 hD
      have noD := g1.noown hD
      have noW : ∀ (j : Nat) (es : Own), (wipeE env vs)[j]? = some (.own es) → (wipe σ vs)[j]? ≠ some (some (.ref Dn)) := fun j es e => by
        rcases wipeE_get e with z | ⟨z1, z2⟩
        · cases z
        · rw [wipe_off z2]; exact noD j es z1
      let P : Nat → Hp → Prop := fun i H => ∃ F2 st2 acc done rest, Le F1 F2 ∧ Ext dk F1 H1 F2 H ∧ Good K dk H0 F0 F2 (wipe σ vs) H (wipeE env vs) st2 ∧ H Dn = some (.lst acc) ∧ F2.out Dn ∧ acc.length ≤ i ∧ Rps K dk F2 acc done ∧
        compLc n ds t c f (wipeE env vs) (ds.drop i) st2 = some (rest, st') ∧ done ++ rest = out
      have px0 : Px F1 H1 F1 (upd H1 Dn (.lst [])) := Px.lay g1.wd.sub hD
      refine ⟨fun i m H => m = ds.length - i ∧ i ≤ ds.length ∧ P i H, ⟨_, rfl, Nat.zero_le _, F1, s1, [], [], out, Le.refl F1, px0.ext, (g1.wiped).px px0, upd_same, g1.wd.out hD, Nat.zero_le _, .nil, e, rfl⟩, ?_⟩
      rintro i m H2 ⟨rfl, hle, F2, s2, acc, done, rest, le2, x2, g2, hacc, f2, hal, racc, e2, eo⟩
      by_cases hlt : i < ds.length
      · have hdi : ds[i]? = some ds[i] := List.getElem?_eq_getElem hlt
        rw [List.drop_eq_getElem_cons hlt] at e2
        obtain ⟨ck, e2⟩ := of_cif e2
        obtain ⟨us, hu, ru⟩ := g2.wd.lstAt (le2.at ha) ck
        obtain ⟨w, k1, k2⟩ := ru.get hdi
        refine .inr ⟨⟨us, w, SqL.of hu, k1⟩, P (i + 1), fun H' hp => ⟨_, by omega, rfl, hlt, hp⟩, fun x H3 hx => ?_⟩
        obtain ⟨ee, e4⟩ := hx
        subst ee
        have ev := e4 us (SqL.of hu)
        rw [k1] at ev
        cases ev
        obtain ⟨env3, e3, e2⟩ := bnd e2
        obtain ⟨⟨b, s4⟩, e4', e2⟩ := bnd e2
        refine hg dk H0 F0 F2 (wipe σ vs) _ (wipeE env vs) s2 w _ env3 g2 k2 e3 _ fun σ4 g4 tg => ?_
        have same : ∀ j : Nat, j ∉ vs → σ4[j]? = (wipe σ vs)[j]? ∧ env3[j]? = (wipeE env vs)[j]? := fun j hj => tg.same j fun z => hj (hv j z)
        have weq : wipe σ4 vs = wipe σ vs := by
          rw [wipe_eq tg.len fun j hj => (same j hj).1, wipe_wipe]
        have back : ∀ {F5 : Fz} {H5 : Hp} {st5 : S}, Good K dk H0 F0 F5 σ4 H5 env3 st5 → Good K dk H0 F0 F5 (wipe σ vs) H5 (wipeE env vs) st5 := fun {F5 H5 st5} g5 =>
          g5.reslot (by rw [wipe_length, wipeE_length]; exact gd.len) fun j s es => by
            rcases wipeE_get es with z | ⟨z1, z2⟩
            · exact .inl z
            · exact .inr ⟨(same j z2).2.trans es, (same j z2).1.symm⟩
        refine ⟨weq, ?_⟩
        refine ht dk H0 F0 F2 σ4 _ env3 s2 b s4 g4 e4' _ fun F5 H5 x5 g5 => ?_
        have a5 : H5 Dn = some (.lst acc) := x5.h _ _ hacc nd.1 nd.2 (.inl f2.2)
        have f5 : F5.out Dn := x5.out f2 (by rw [hacc]; exact fun z => nomatch z)
        cases b with
        | false =>
          exact ⟨F5, s4, acc, done, rest, le2.trans x5.f, x2.trans x5, back g5, a5, f5, by omega, racc.mono x5.f, e2, eo⟩
        | true =>
          replace e2 : ((f env3 s4).bind fun q => (compLc n ds t c f (wipeE env vs) (ds.drop (i + 1)) q.2).map fun r => (q.1 :: r.1, r.2)) = some (rest, st') := e2
          obtain ⟨⟨y, s6⟩, e6, e2⟩ := bnd e2
          obtain ⟨⟨rest', s7⟩, e7, e2⟩ := mpd e2
          cases e2
          refine he dk H0 F0 F5 σ4 H5 env3 s4 y s6 g5 e6 _ fun v F6 H6 x6 g6 r6 => ?_
          have x26 := x5.trans x6
          have a6 : H6 Dn = some (.lst acc) := x26.h _ _ hacc nd.1 nd.2 (.inl f2.2)
          have f6 : F6.out Dn := x26.out f2 (by rw [hacc]; exact fun z => nomatch z)
          refine ⟨acc, a6, by omega, F6, s6, acc ++ [v], done ++ [y], rest', le2.trans x26.f, ?_, (back g6).mutT a6 f6 h0D nd.1 nd.2 noW, upd_same, f6, by simp; omega, (racc.mono x26.f).append (Rps.one r6), e7, by rw [← eo]; simp⟩
          exact (x2.trans x26).upd hD
      · have ei : i = ds.length := by omega
        subst ei
        rw [List.drop_length] at e2
        obtain ⟨ck, e2⟩ := of_cif e2
        cases e2
        obtain ⟨us, hu, ru⟩ := g2.wd.lstAt (le2.at ha) ck
        refine .inl ⟨⟨us, SqL.of hu, by rw [ru.length]; exact Nat.le_refl _⟩, ?_⟩
        rw [List.append_nil] at eo
        subst eo
        have g9 : Good K dk H0 F0 F2 σ H2 env st' := g1.step x2 g2.wd
        exact q Dn acc F2 H2 (x1.trans x2) g9 hDH f2 hacc racc
    · cases e
  · refine if_comp (ii_seq h) hg ht he hv dk H0 F0 F σ H env st out st' gd ?_ Q q
    have ee : ((seqOf d).bind fun ds => if ds.length ≤ sizeLine then compL t c f (wipeE env vs) ds s1 else none) = some (out, st') := by
      cases d with
      | ref n => exact absurd ⟨n, rfl⟩ hr
      | _ => exact e
    obtain ⟨ds, e2, e3⟩ := bnd ee
    show ((seqI fi env st).bind fun p => if p.1.length ≤ sizeLine then compL t c f (wipeE env vs) p.1 p.2 else none) = _
    have : seqI fi env st = some (ds, s1) := by
      unfold seqI
      rw [e1]
      show (seqOf d).map _ = _
      rw [e2]; rfl
    rw [this]
    exact e3
theorem compLc_eq {n : Nat} {ds0 : List D} {t : MG} {c : MT} {f : ME} {env : Sg} {st : S} (hn : lstAt st n = some ds0) : ∀ {ds out : List D}, compL t c f env ds st = some (out, st) → (∀ d ∈ ds, ∀ e, t d env = some e → (∀ p, c e st = some p → p.2 = st) ∧ ∀ p, f e st = some p → p.2 = st) → compLc n ds0 t c f env ds st = some (out, st)
  | [], out, h, _ => by
    cases h
    exact cif_of hn
  | d :: ds, out, h, hp => by
    unfold compLc
    rw [cif_of hn]
    obtain ⟨e, e1, h⟩ := bnd (show ((t d env).bind fun e => (c e st).bind fun p => if p.1 then (f e p.2).bind fun q => (compL t c f env ds q.2).map fun r => (q.1 :: r.1, r.2) else compL t c f env ds p.2) = _ from h)
    obtain ⟨⟨b, s1⟩, e2, h⟩ := bnd h
    have p1 := (hp d (by simp) e e1).1 _ e2
    have p1' : s1 = st := p1
    subst p1'
    rw [e1]
    show ((c e s1).bind _) = _
    rw [e2]
    cases b with
    | false => exact compLc_eq hn h fun d' hd => hp d' (List.mem_cons_of_mem _ hd)
    | true =>
      obtain ⟨⟨y, s2⟩, e3, h⟩ := bnd (show ((f e s1).bind fun q => (compL t c f env ds q.2).map fun r => (q.1 :: r.1, r.2)) = _ from h)
      have p2 : s2 = s1 := (hp d (by simp) e e1).2 _ e3
      subst p2
      obtain ⟨⟨r, s3⟩, e4, h⟩ := mpd h
      cases h
      show ((f e _).bind _) = _
      rw [e3]
      show ((compLc n ds0 t c f env ds _).map _) = _
      rw [compLc_eq hn e4 fun d' hd => hp d' (List.mem_cons_of_mem _ hd)]
      rfl
end
/-! the law, where the deck comes with an own list -/
def env2 (n : Nat) : Sg := .un :: .val .deck :: .own (.lst, []) :: List.replicate (n - 3) .un
section
variable {P : Program} {w : World} {K : Fg} {mg : Str → Option Value} {base : Heap}
theorem fn_law2 {x qual : Str} {st : Stmt} {f : Addr} {fd : FuncData} {N ps : List Str} {k : Nat} {b : MS} (Fn : Fun K x qual st f fd) (S : FnScope N ps (defScope st)) (hN : 3 ≤ N.length) (hp : ps.length = 1)
    (hb : ∀ ns : List Int, ns.length ≤ 63 → ∃ s1, b (env2 N.length) ⟨ns.map absI, 0, []⟩ = some (.rt (.bl true), s1))
    (hbody : ∀ (cdv : Value) (A : Around) (outer : List Env) (s : Shared) (H : Hp) (E : XK), Room k (A.deeper (envOfC qual (defScope st) s.heap.objs.size f cdv)) → (A.deeper (envOfC qual (defScope st) s.heap.objs.size f cdv)).guards = some [] →
      ∃ tn t, PSs (cxOf CX0 P w K mg base N qual (defScope st) f cdv A outer s H E).nox (defBody st) (tSeq (tPar 1 2 (tCons (tCall (spDeck K) [] E0 (tCons (tVar 0) tNil)) (tCons tn tNil))) t) ∧ ImF K tn (lstM aNil) ∧ ImS K t b) : FnG P w K mg base (k + 1) f fd ps (spLaw K) := by
  refine fnG_of Fn S (fun vs H Q E h => ?_) fun cdv A outer s H vs Q E hr gd h => ?_
  · obtain ⟨a, ns, rfl, _⟩ := h
    rw [hp]; rfl
  · obtain ⟨a, ns, rfl, hs, hl, q⟩ := h
    obtain ⟨tn, t, h1, hn, h2⟩ := hbody cdv A outer s H E hr gd
    refine ⟨_, h1, ?_⟩
    obtain ⟨m, hm⟩ : ∃ m, N.length = m + 3 := ⟨N.length - 3, by omega⟩
    have es : L2.start N [V.ref a] = some (.ref a) :: none :: none :: List.replicate m none := by
      unfold L2.start
      rw [hm]
      rfl
    rw [es]
    refine ⟨_, rfl, a, ns, rfl, hs, hl, fun dk H' le wd => ?_⟩
    obtain ⟨s1, hr1⟩ := hb ns hl
    have g : Good K dk H' ⟨fun _ => none, []⟩ ⟨fun _ => none, []⟩ (some (.ref a) :: none :: none :: List.replicate m none) H' (List.replicate N.length .un) ⟨ns.map absI, 0, []⟩ := by
      refine ⟨wd, Ext.refl _ _, by rw [hm]; simp, fun i s e => ?_, fun i j ds es p hne e1 e2 e3 => ?_⟩
      · rw [List.getElem?_replicate] at e
        split at e
        · cases e; trivial
        · cases e
      · rw [List.getElem?_replicate] at e1
        split at e1 <;> cases e1
    refine hn.x dk H' _ _ _ H' _ _ (.own (.lst, [])) _ g rfl _ fun u F2 H2 x2 g2 k2 => ?_
    have g3 : Good K dk H' ⟨fun _ => none, []⟩ F2 ((some (.ref a) :: none :: none :: List.replicate m none).set 1 (some (.ref dk.1))) H2 ((List.replicate N.length .un).set 1 (.val .deck)) ⟨ns.map absI, 0, []⟩ := g2.set .deck
    have g4 : Good K dk H' ⟨fun _ => none, []⟩ F2 (((some (.ref a) :: none :: none :: List.replicate m none).set 1 (some (.ref dk.1))).set 2 (some u)) H2 (((List.replicate N.length .un).set 1 (.val .deck)).set 2 (.own (.lst, []))) ⟨ns.map absI, 0, []⟩ := g3.setX k2 (fun p hp => g.fresh0 hp) fun p hp jj es hj z => by
      by_cases hi : 1 = jj
      · subst hi
        rw [hm] at hj
        cases hj
      · rw [List.getElem?_set_ne hi] at hj
        rw [List.getElem?_replicate] at hj
        split at hj <;> cases hj
    have ee : ((List.replicate N.length Sl.un).set 1 (.val .deck)).set 2 (.own (.lst, [])) = env2 N.length := by
      rw [hm]; rfl
    rw [ee] at g4
    refine ⟨_, _, rfl, ?_⟩
    refine h2 dk H' _ F2 _ H2 _ _ _ s1 g4 hr1 _ ?_
    intro v F' H3 _ _ r
    cases r
    exact q H3
end
/-! making what a caller knows -/
theorem clsOk_mk {K : Fg} {c : Str} {C : Addr} {fl : List Str} (h : PySem.W.nsIn K mainGlobals c = some (some (.ref C))) (cl : Cls K C) (no : ∀ f ∈ fl, NoAttr K C f) : ClsOk K c fl := by
  have e : clsOf K c = some C := by unfold clsOf; rw [h]
  refine ⟨fun C' h' => ?_, fun C' h' => ?_⟩ <;> (rw [e] at h'; cases h')
  · exact cl
  · exact no
theorem calM_mk {P : Program} {w : World} {K : Fg} {mg : Str → Option Value} {base : Heap} {k : Nat} {c m : Str} {ps : List Str} {sp : Sp} {C f : Addr} {fd : FuncData} (h : PySem.W.nsIn K mainGlobals c = some (some (.ref C))) (cl : Cls K C) (F : FnG P w K mg base k f fd ps sp) (M : Meth K C m f) (b : Binds K fd ps []) : CalM P w K mg base k c m ps sp :=
  ⟨C, by unfold clsOf; rw [h], cl, f, fd, F, M, b⟩
theorem calK_mk {P : Program} {w : World} {K : Fg} {mg : Str → Option Value} {base : Heap} {k : Nat} {c : Str} {ps : List Str} {sp : Sp} {C f : Addr} {fd : FuncData} (h : PySem.W.nsIn K mainGlobals c = some (some (.ref C))) (hm : mg c = some (.ref C)) (F : FnG P w K mg base k f fd ps sp) (M : Mk K C f) (b : Binds K fd ps []) : CalK P w K mg base k c ps sp :=
  ⟨C, by unfold clsOf; rw [h], hm, f, fd, F, M, b⟩
end MD

set_option Elab.async false
set_option linter.all false
set_option maxRecDepth 100000
set_option maxHeartbeats 1000000
namespace MD
open PySem PySem.Spec PyProof.Rows L2
variable {ww : WW}
/-! ### a text, so many times -/
def repT (x : Str) (k : Int) : Str := if k < 1 then Str.empty else if (k == 1 || x.length == 0) = true then x else ⟨(List.replicate k.toNat x.cps).foldl (· ++ ·) #[]⟩
theorem rep_fold (l : Array Nat) : ∀ (n : Nat) (a : Array Nat), ((List.replicate n l).foldl (· ++ ·) a).toList = a.toList ++ (List.replicate n l.toList).flatten
  | 0, a => by simp
  | n + 1, a => by rw [List.replicate_succ, List.foldl_cons, rep_fold l n, List.replicate_succ, List.flatten_cons, Array.toList_append, List.append_assoc]
theorem rep_flat_nil (n : Nat) : (List.replicate n ([] : List Nat)).flatten = [] := by
  induction n with
  | zero => rfl
  | succ n ih => rw [List.replicate_succ, List.flatten_cons, ih]; rfl
theorem repT_list (x : Str) (k : Int) : (repT x k).cps.toList = (List.replicate k.toNat x.cps.toList).flatten := by
  unfold repT
  split
  · rename_i h
    have : k.toNat = 0 := by omega
    rw [this]; rfl
  · split
    · rename_i h1 h2
      rcases Bool.or_eq_true_iff.mp h2 with z | z
      · have : k = 1 := by simpa using z
        subst this; simp
      · have : x.cps.toList = [] := by
          have h3 : x.cps.size = 0 := (by simpa using z : x.length = 0)
          exact List.eq_nil_of_length_eq_zero (by simpa using h3)
        rw [this, rep_flat_nil]
    · exact (rep_fold x.cps k.toNat #[]).trans (by simp)
theorem rep_len (l : List Nat) : ∀ n : Nat, (List.replicate n l).flatten.length = n * l.length
  | 0 => by simp
  | n + 1 => by rw [List.replicate_succ, List.flatten_cons, List.length_append, rep_len l n, Nat.succ_mul]; omega
theorem repT_len (x : Str) (k : Int) : (repT x k).length = k.toNat * x.length := by
  have h := congrArg List.length (repT_list x k)
  rw [rep_len, Array.length_toList, Array.length_toList] at h
  exact h
def rMulS : R2 := fun x y H Q => ∃ i k, x = .str i ∧ y = .int k ∧ i.length ≤ 10000 ∧ -1000 ≤ k ∧ k ≤ 1000 ∧ Q (.str (repT i k)) H
theorem op_mulS {X : Cx} : OpR X (binaryOp .Mult) rMulS := by
  intro pins s σ H x y v u Q I rx ry h
  obtain ⟨i, k, rfl, rfl, hz, k0, k1, q⟩ := h
  obtain ⟨t, rfl⟩ := rx
  obtain ⟨t', rfl⟩ := ry
  have hle : k.toNat * i.length ≤ 10000000 := by
    have h1 : k.toNat ≤ 1000 := by omega
    exact Nat.le_trans (Nat.mul_le_mul h1 hz) (by decide)
  refine P.mul_str (by rw [decide_eq_false (by omega), decide_eq_false (by omega)] <;> rfl) (fun h1 h2 h3 => ?_) (fun h1 h2 => ?_) ?_
  · have h4 : ((i.length : Int) ≤ 10000) := by omega
    have h5 : (10000 : Int) ≤ (2 ^ 63 - 1) / k := by
      refine (Int.le_ediv_iff_mul_le (by omega)).mpr ?_
      have : 10000 * k ≤ 10000 * 1000 := by omega
      exact Int.le_trans this (by decide)
    omega
  · unfold Builtin.Str.tooLong
    refine decide_eq_false ?_
    have : i.length * k.toNat ≤ 10000000 := by rw [Nat.mul_comm]; exact hle
    exact Nat.not_lt.mpr (Nat.le_trans this (by decide))
  · have hl : (repT i k).length ≤ sizeLine := by rw [repT_len]; exact Nat.le_trans hle (by decide)
    unfold repT at hl q
    by_cases h1 : k < 1
    · simp only [if_pos h1] at hl q ⊢
      exact ⟨hl, .str _, H, I.tok _, ⟨_, rfl⟩, q⟩
    · simp only [if_neg h1] at hl q ⊢
      by_cases h2 : (k == 1 || i.length == 0) = true
      · simp only [if_pos h2] at hl q ⊢
        exact ⟨.str _, H, I, ⟨_, rfl⟩, q⟩
      · simp only [if_neg h2] at hl q ⊢
        exact ⟨hl, .str _, H, I.tok _, ⟨_, rfl⟩, q⟩
section
variable {K : Fg}
def mulS : D → D → Option D
  | .str x, .int k => if x.length ≤ 10000 ∧ -1000 ≤ k ∧ k ≤ 1000 then some (.str (repT x k)) else none
  | _, _ => none
theorem ro_mulS : RO K rMulS mulS := by
  intro dk F H st x y d e z w rx ry hz Q q
  unfold mulS at hz
  split at hz
  · rename_i x k
    split at hz
    · rename_i hc
      cases hz
      cases rx.str
      cases ry.int
      exact ⟨x, k, rfl, rfl, hc.1, hc.2.1, hc.2.2, q _ F H (Px.refl w.sub) (.str _)⟩
    · cases hz
  · cases hz
end
/-! ### list(text) -/
def rListS : List V → Hp → VK → Prop := fun xs H Q => ∃ x, xs = [.str x] ∧ x.cps.size ≤ sizeLine ∧ ∀ p, H p = none → Q (.ref p) (upd H p (.lst ((signs x).map V.str)))
theorem call_listS {X : Cx} (hc : X.calm = true) : CallR X (.type "list") rListS := by
  intro pins s σ H xs us Q I rs h
  obtain ⟨x, rfl, hz, q⟩ := h
  obtain ⟨u, rfl, rx⟩ := vals1 rs
  obtain ⟨t, rfl⟩ := rx
  refine call_list_str (I.ok.hd hc) x t (fun h' tk acc c' hk hl hi => ?_) hz
  have lenA : acc.toList.length = (signs x).length := by
    unfold signs
    rw [List.length_map, Array.length_toList, Array.length_toList]
    exact hi.1
  have vals : Vals ((signs x).map V.str) acc.toList := by
    have key : ∀ (l : List Value) (m : List Nat), l.length = m.length → (∀ (j : Nat) (v : Value), l[j]? = some v → ∃ c u, m[j]? = some c ∧ v = .str ⟨#[c]⟩ u) → Vals ((m.map fun c => (⟨#[c]⟩ : Str)).map V.str) l := by
      intro l
      induction l with
      | nil => intro m hm _; cases m with
        | nil => exact .nil
        | cons _ _ => cases hm
      | cons a l ih => intro m hm hj; cases m with
        | nil => cases hm
        | cons c m =>
          obtain ⟨c', u, e1, e2⟩ := hj 0 a rfl
          have e1' : c = c' := Option.some.inj e1
          subst e1' e2
          exact .cons ⟨u, rfl⟩ (ih m (by simpa using hm) fun j v hv => hj (j + 1) v hv)
    refine key acc.toList x.cps.toList (by simpa [signs] using lenA) fun j v hv => ?_
    obtain ⟨c, u, h1, h2⟩ := hi.2 j v (by simpa using hv)
    exact ⟨c, u, by simpa using h1, h2⟩
  refine ⟨.ref s.heap.objs.size, _, I.laid (t' := tk) hk (Nat.le_refl _) (show ObjOk X.prog X.w _ h' _ (.lst ((signs x).map V.str)) from ⟨?_, acc.toList, c', vals, ?_⟩), rfl, q _ (I.hok.fresh (Nat.le_refl _))⟩
  · rw [List.length_map]
    unfold signs
    rw [List.length_map, Array.length_toList]
    exact hz
  · rw [hl, Array.toArray_toList]
def listSM (f : ME) : MA := fun env st => (f env st).bind fun p => match p.1 with
  | .str x => if x.cps.size ≤ sizeLine then some ((signs x).map D.str, p.2) else none
  | _ => none
theorem if_listS {K : Fg} {ta : TA} {f : ME} (ha : ImAW K ta (aCons f aNil)) : ImF K (tCB rListS ta) (listSM f) := fun dk H0 F0 F σ H env st d st' g e Q q => by
  obtain ⟨⟨x, s1⟩, h1, e⟩ := bnd e
  have h1' : aCons f aNil env st = some ([x], s1) := by
    show (f env st).bind _ = _
    rw [h1]; rfl
  refine ha dk H0 F0 F σ H env st [x] s1 g h1' _ fun vs F1 H1 x1 g1 r1 => ?_
  cases x with
  | str y =>
    replace e : (if y.cps.size ≤ sizeLine then some ((signs y).map D.str, s1) else none) = some (d, st') := e
    split at e
    · rename_i hz
      cases e
      obtain ⟨v, rfl, r⟩ := (r1.dr g1.wd).one
      cases r.str
      refine ⟨y, rfl, hz, fun p hp => ?_⟩
      have px : Px F1 H1 F1 (upd H1 p (.lst ((signs y).map V.str))) := Px.lay g1.wd.sub hp
      exact q p _ F1 _ (x1.trans px.ext) (g1.px px) (x1.back hp) (g1.wd.out hp) upd_same (Rps.ofStrs _)
    · cases e
  | _ => cases e
/-! ### a test of the form: a if c else b -/
def tIfT (t u v : TT) : TT := fun σ H Q => t σ H fun c H1 => if c = true then u σ H1 Q else v σ H1 Q
theorem pt_ifExp {X : Cx} {a b c : Expr} {pos : Pos} {t u v : TT} (hc : PT X c t) (ha : PT X a u) (hb : PT X b v) : PT X (.IfExp c a b pos) (tIfT t u v) := by
  refine ⟨fun pins s σ H Q I h => ?_⟩
  rw [arm_isTrue_IfExp]
  refine wpAny_bind (thn (hc.run pins s σ H _ I h) fun d s1 ⟨H1, I1, q1⟩ => ?_)
  cases d with
  | true => exact ha.run pins s1 σ H1 Q I1 q1
  | false => exact hb.run pins s1 σ H1 Q I1 q1
def ifT (c f h : MT) : MT := fun env st => (c env st).bind fun p => if p.1 then f env p.2 else h env p.2
theorem it_if {K : Fg} {t u v : TT} {c f h : MT} (h0 : ImT K t c) (h1 : ImT K u f) (h2 : ImT K v h) : ImT K (tIfT t u v) (ifT c f h) := fun dk H0 F0 F σ H env st b st' g e Q q => by
  obtain ⟨⟨x, s1⟩, e1, e⟩ := bnd e
  refine h0 dk H0 F0 F σ H env st x s1 g e1 _ fun F1 H1 x1 g1 => ?_
  cases x with
  | true => exact h1 dk H0 F0 F1 σ H1 env s1 b st' g1 e Q fun F2 H2 x2 g2 => q F2 H2 (x1.trans x2) g2
  | false => exact h2 dk H0 F0 F1 σ H1 env s1 b st' g1 e Q fun F2 H2 x2 g2 => q F2 H2 (x1.trans x2) g2
end MD

set_option Elab.async false
set_option linter.all false
set_option maxRecDepth 100000
set_option maxHeartbeats 1000000
namespace MD
open PySem PySem.Spec PyProof.Rows L2
variable {ww : WW}
/-! ### t[::-1], t a tuple -/
section
variable {prog : Program} {w : World} {A : Around} {E : Value → Shared → Prop} {s : Shared}
theorem adj_rev (n : Nat) : Builtin.Slice.sliceAdjust none none (-1) (n : Int) = ((n : Int) - 1, -1) := by
  first
  | rfl
  | simp [Builtin.Slice.sliceAdjust]
theorem places_rev (n : Nat) : Builtin.Slice.slicePlaces ((n : Int) - 1) (-1) (-1) = n := by
  unfold Builtin.Slice.slicePlaces
  have h1 : ¬ ((-1 : Int) > 0) := by decide
  simp only [h1, if_false]
  split
  · rename_i h
    have e : ((n : Int) - 1 - -1 - 1) / (- -1) + 1 = (n : Int) := by
      rw [show (- -1 : Int) = 1 by decide, Int.ediv_one]
      omega
    first
    | (rw [e]; simp)
    | (simp at *; omega)
  · omega
theorem fmap_congr {α β : Type} {f g : α → Option β} : ∀ (l : List α), (∀ x ∈ l, f x = g x) → l.filterMap f = l.filterMap g
  | [], _ => rfl
  | x :: l, h => by
    rw [List.filterMap_cons, List.filterMap_cons, h x List.mem_cons_self, fmap_congr l fun y hy => h y (List.mem_cons_of_mem _ hy)]
theorem pick_rev (xs : Array Value) : ((List.range xs.size).filterMap fun (k : Nat) => xs[(((xs.size : Nat) : Int) - 1 + (k : Int) * (-1)).toNat]?).toArray = xs.toList.reverse.toArray := by
  have h := PySem.W.krv_range xs.size
  have e : ((List.range xs.size).filterMap fun (k : Nat) => xs[(((xs.size : Nat) : Int) - 1 + (k : Int) * (-1)).toNat]?) = ((List.range xs.size).map fun k => xs.size - 1 - k).filterMap (xs[·]?) := by
    rw [List.filterMap_map]
    refine fmap_congr _ fun k hk => ?_
    have := List.mem_range.mp hk
    show _ = xs[xs.size - 1 - k]?
    have : (((xs.size : Nat) : Int) - 1 + (k : Int) * (-1)).toNat = xs.size - 1 - k := by omega
    rw [this]
  rw [e, h, List.filterMap_reverse, PySem.W.krv_all]
theorem sliceApplied_rev {sl : Addr} {vl vu vs : Value} {n : Nat} {Q : Int × Int × Nat → Shared → Prop} (hs : s.heap.IsSliceOf sl vl vu vs) (pl : IsPart vl none) (pu : IsPart vu none) (ps : IsPart vs (some (-1)))
    (h : Q ((n : Int) - 1, -1, n) s) : wpAny (model prog w) A (Builtin.Slice.sliceApplied (.ref sl) (pure (n : Int))) Q E s := by
  obtain ⟨os, hos, hcs, hds⟩ := id hs
  unfold Builtin.Slice.sliceApplied Builtin.Slice.sliceFields
  refine wpAny_bind (wpAny_bind (wpAny_field hos hds (x := vl) rfl (wpAny_bind (wpAny_field hos hds (x := vu) rfl (wpAny_bind (wpAny_field hos hds (x := vs) rfl (wpAny_pure ?_)))))))
  refine wpAny_bind (HT.slicePart_ ps ?_)
  show wpAny _ _ (if ((-1 : Int) == 0) = true then _ else _) _ _ s
  rw [if_neg (by decide)]
  refine wpAny_bind (HT.slicePart_ pl (wpAny_bind (HT.slicePart_ pu (wpAny_bind (wpAny_pure ?_)))))
  show wpAny _ _ (match Builtin.Slice.sliceAdjust none none (-1) (n : Int) with | (lo, hi) => pure (lo, (-1 : Int), Builtin.Slice.slicePlaces lo hi (-1))) _ _ s
  rw [adj_rev n]
  show wpAny _ _ (pure ((n : Int) - 1, (-1 : Int), Builtin.Slice.slicePlaces ((n : Int) - 1) (-1) (-1))) _ _ s
  rw [places_rev]
  exact wpAny_pure h
theorem getItem_tuple_rev {t sl : Addr} {items : Array Value} {vl vu vs : Value} {Q : Value → Shared → Prop} (ht : IsTup s.heap t items) (hs : s.heap.IsSliceOf sl vl vu vs) (pl : IsPart vl none) (pu : IsPart vu none) (ps : IsPart vs (some (-1)))
    (h : Q (.ref s.heap.objs.size) { s with heap := s.heap.push { cls := .type "tuple", data := .seq items.toList.reverse.toArray } })
    (hsz : items.size ≤ sizeLine) : wpAny (model prog w) A (getItem (.ref t) (.ref sl)) Q E s := by
  have htake : sizeOk (.seq items.toList.reverse.toArray) := by
    show items.toList.reverse.toArray.size ≤ sizeLine
    rw [List.size_toArray, List.length_reverse, Array.length_toList]
    exact hsz
  obtain ⟨os, hos, hcs, hds⟩ := id hs
  have hTs : s.TypeIs (.ref sl) "slice" := ⟨os, hos, hcs⟩
  unfold getItem
  try with_reducible refine wpAny_holding ?_
  first | refine wpAny_bind (wpAny_pure ?_) | skip
  refine wpAny_bind (wpAny_sequenceKey ht.typeIs (by decide) ?_)
  refine wpAny_bind (wpAny_callSpecial?_slot (name := Str.ofString "__getitem__") ht.typeIs PyProof.Rows.slot_tuple_getitem
    (wpAny_call_entry PyProof.Rows.slot_tuple_getitem ht.typeIs entry_tuple_getitem ?_ (args_tuple_getitem _ _)))
  show wpAny _ _ (Builtin.Tuple.tupleItemsOf (.ref t) >>= _) _ _ s
  refine wpAny_bind (tupleItemsOf_ ht ?_)
  refine wpAny_bind (wpAny_typeOf hTs ?_)
  rw [if_pos (by decide)]
  refine wpAny_bind (sliceApplied_rev hs pl pu ps ?_)
  have hno : ¬ ((((items.size : Int) - 1) == 0 && (-1 : Int) == 1 && items.size == items.size) = true) := by
    intro q
    rw [Bool.and_eq_true, Bool.and_eq_true] at q
    exact absurd q.1.2 (by decide)
  show wpAny _ _ (if (((items.size : Int) - 1) == 0 && (-1 : Int) == 1 && items.size == items.size) = true then _ else _) _ _ s
  rw [if_neg hno, pick_rev]
  first
    | exact wpAny_bind (m := Builtin.Tuple.tupleExact _) (wpAny_newObj_type (wpAny_pure ⟨_, rfl, wpAny_pure h⟩) htake)
    | exact wpAny_bind (m := Builtin.Tuple.tupleExact _) (wpAny_newObj_type (wpAny_bind (wpAny_pure (wpAny_pure ⟨_, rfl, wpAny_pure h⟩))) htake)
    | exact wpAny_bind (wpAny_bind (m := Builtin.Tuple.tupleExact _) (wpAny_newObj_type (wpAny_pure (wpAny_pure ⟨_, rfl, wpAny_pure h⟩)) htake))
    | exact wpAny_bind (wpAny_bind (m := Builtin.Tuple.tupleExact _) (wpAny_newObj_type (wpAny_pure ⟨_, rfl, wpAny_pure h⟩) htake))
end
section
variable {X : Cx}
def tRevT (K : PySem.W.Frag) (te : TE) : TE := fun σ H Q => te σ H fun x H1 => ∃ a xs, x = .ref a ∧ SqT K H1 a xs ∧ ∀ p, H1 p = none → Q (.ref p) (upd H1 p (.tup xs.reverse))
theorem pe_revT {e : Expr} {te : TE} {k : Nat} {p1 p2 p3 pos : Pos} (he : PE X e te) : PE X (.Subscript e (.Slice none none (some (.UnaryOp .USub (.Constant (.int 1) k p1) p2)) p3) pos) (tRevT X.K te) := by
  refine ⟨fun pins s σ H Q I h => ?_⟩
  refine Subscript_ (thn (he.run pins s σ H _ I h) fun v s1 ⟨x, H1, I1, r1, q1⟩ => ?_)
  obtain ⟨a, xs, ex, hx, q⟩ := q1
  subst ex
  cases r1
  have hst : PO X (some (.UnaryOp .USub (.Constant (.int 1) k p1) p2)) (tPart (tUn (rU fun i => .int (-i)) (tC (.int 1)))) := po_some (pe_un un_neg pe_int)
  refine wpAny_Slice (thn (po_none.run pins s1 σ H1 (fun o H2 => o = none ∧ H2 = H1) I1 ⟨rfl, rfl⟩) fun vl s2 ⟨l, H2, I2, pl, el, e2⟩ => ?_)
  subst el e2
  refine thn (po_none.run pins s2 σ H2 (fun o H3 => o = none ∧ H3 = H2) I2 ⟨rfl, rfl⟩) fun vu s3 ⟨u, H3, I3, pu, eu, e3⟩ => ?_
  subst eu e3
  refine thn (hst.run pins s3 σ H3 (fun o H4 => o = some (-1) ∧ H4 = H3) I3 ⟨1, rfl, -1, rfl, rfl, rfl⟩) fun vs s4 ⟨o, H4, I4, ps, eo, e4⟩ => ?_
  subst eo e4
  have I5 : Inv X pins σ H4 { s4 with heap := s4.heap.push { cls := .type "slice", data := .fields #[vl, vu, vs] } } := I4.kept (t' := s4.toks) fun b ob q => Heap.get?_push_of_some _ q
  obtain ⟨its, r, ht, hz⟩ := I5.tuple hx
  have hlen : its.toArray.size = xs.length := by rw [List.size_toArray]; exact r.length.symm
  show wpAny (model X.prog X.w) X.A (subscriptTail e (.Slice none none (some (.UnaryOp .USub (.Constant (.int 1) k p1) p2)) p3) (.ref a) (.ref s4.heap.objs.size)) (EP X pins σ Q) X.xe { s4 with heap := s4.heap.push { cls := .type "slice", data := .fields #[vl, vu, vs] } }
  refine tail_any (ops := [.ref a, .ref s4.heap.objs.size]) ht.typeIs (PyProof.Rows.slot_tuple_getitem.lookup) ?_ (by with_unfolding_all rfl)
  refine getItem_tuple_rev ht (Heap.IsSliceOf.new _ vl vu vs) pl pu ps ?_ (by rw [hlen]; exact hz)
  refine ⟨.ref _, _, I5.laid (t' := s4.toks) (o := .tup xs.reverse) (fun b ob q => Heap.get?_push_of_some _ q) (Nat.le_refl _) ?_, rfl, q _ (I5.hok.fresh (Nat.le_refl _))⟩
  exact ⟨by rw [List.length_reverse]; exact hz, _, r.reverse, IsTup.new _ _⟩
end
section
variable {K : Fg}
def revT (f : ME) : ME := fun env st => (f env st).bind fun p => match dr p.2 p.1 with
  | .tup ds => some (.tup ds.reverse, p.2)
  | _ => none
theorem im_revT {te : TE} {f : ME} (h : ImW K te f) : Im K (tRevT K te) (revT f) := fun dk H0 F0 F σ H env st d st' g e Q q => by
  obtain ⟨⟨x, s1⟩, h1, e⟩ := bnd e
  refine h dk H0 F0 F σ H env st x s1 g h1 _ fun v F1 H1 x1 g1 r1 => ?_
  have r2 := r1.dr g1.wd
  dsimp only at e
  generalize dr s1 x = y at e r2
  split at e
  · cases e
    obtain ⟨a, vs, rfl, hl, r⟩ := r2.tup g1.wd.sub
    refine ⟨a, vs, rfl, hl, fun p hp => ?_⟩
    have px : Px F1 H1 (F1.up p (.tup vs.reverse)) (upd H1 p (.tup vs.reverse)) := Px.new g1.wd.sub hp
    exact q _ _ _ (x1.trans px.ext) (g1.px px) (.tup (SqT.of Fz.up_same) (r.reverse.mono px.f))
  · cases e
/-! ### text.upper() -/
def upM (f : ME) : ME := fun env st => (f env st).bind fun p => match p.1 with
  | .str x => if x.length ≤ 5592405 then some (.str (Txt.upper x), p.2) else none
  | _ => none
theorem im_upper {to : TE} {f : ME} (h : ImW K to f) : Im K (tM0 (fun x xs H Q => ∃ a, x = .str a ∧ xs = [] ∧ a.length ≤ 5592405 ∧ Q (.str (Txt.upper a)) H) to) (upM f) := fun dk H0 F0 F σ H env st d st' g e Q q => by
  obtain ⟨⟨x, s1⟩, h1, e⟩ := bnd e
  refine h dk H0 F0 F σ H env st x s1 g h1 _ fun v F1 H1 x1 g1 r1 => ?_
  cases x with
  | str y =>
    replace e : (if y.length ≤ 5592405 then some (D.str (Txt.upper y), s1) else none) = some (d, st') := e
    split at e
    · rename_i hz
      cases e
      cases (r1.dr g1.wd).str
      exact ⟨⟨y, rfl⟩, y, rfl, rfl, hz, q _ F1 H1 x1 g1 (.str _)⟩
    · cases e
  | _ => cases e
/-! ### list(e), e a text, a list, a tuple or a dict -/
def rListU (K : Fg) : List V → Hp → VK → Prop := fun xs H Q => rListA K xs H Q ∨ rListS xs H Q
theorem call_listU {X : Cx} (hc : X.calm = true) : CallR X (.type "list") (rListU X.K) := CallR.or (call_listA hc) (call_listS hc)
def listUM (f : ME) : MA := fun env st => (f env st).bind fun p => match dr p.2 p.1 with
  | .str x => if x.cps.size ≤ sizeLine then some ((signs x).map D.str, p.2) else none
  | .lst ds => some (ds, p.2)
  | .tup ds => some (ds, p.2)
  | _ => none
theorem if_listU {ta : TA} {f : ME} (ha : ImAW K ta (aCons f aNil)) : ImF K (tCB (rListU K) ta) (listUM f) := fun dk H0 F0 F σ H env st d st' g e Q q => by
  obtain ⟨⟨x, s1⟩, h1, e⟩ := bnd e
  have h1' : aCons f aNil env st = some ([x], s1) := by
    show (f env st).bind _ = _
    rw [h1]; rfl
  refine ha dk H0 F0 F σ H env st [x] s1 g h1' _ fun vs F1 H1 x1 g1 r1 => ?_
  have fin : ∀ (us : List V) (ds : List D) (p : Addr), H1 p = none → Rps K dk F1 us ds → some (ds, s1) = some (d, st') → Q (.ref p) (upd H1 p (.lst us)) := fun us ds p hp r e => by
    cases e
    have px : Px F1 H1 F1 (upd H1 p (.lst us)) := Px.lay g1.wd.sub hp
    exact q p us F1 _ (x1.trans px.ext) (g1.px px) (x1.back hp) (g1.wd.out hp) upd_same r
  have r2 := r1.dr g1.wd
  obtain ⟨v, rfl, r⟩ := r2.one
  replace e : (match dr s1 x with
    | .str x => if x.cps.size ≤ sizeLine then some ((signs x).map D.str, s1) else none
    | .lst ds => some (ds, s1)
    | .tup ds => some (ds, s1)
    | _ => none) = some (d, st') := e
  generalize dr s1 x = y at e r
  cases y with
  | str z =>
    replace e : (if z.cps.size ≤ sizeLine then some ((signs z).map D.str, s1) else none) = some (d, st') := e
    split at e
    · rename_i hz
      cases r.str
      exact .inr ⟨z, rfl, hz, fun p hp => fin _ _ p hp (Rps.ofStrs _) e⟩
    · cases e
  | lst ds =>
    obtain ⟨p, us, rfl, hl, r⟩ := r.l g1.wd.sub
    exact .inl (.inl ⟨p, us, rfl, .inl (SqL.of hl), fun l hl => fin us ds l hl r e⟩)
  | tup ds =>
    obtain ⟨p, us, rfl, hl, r⟩ := r.tup g1.wd.sub
    exact .inl (.inl ⟨p, us, rfl, .inr hl, fun l hl => fin us ds l hl r e⟩)
  | _ => cases e
end
end MD

set_option Elab.async false
set_option linter.all false
set_option maxRecDepth 100000
set_option maxHeartbeats 1000000
namespace MD
open PySem PySem.Spec PyProof.Rows L2 RZ
variable {ww : WW}
/-! ### data that are told by what they read as -/
mutual
theorem D.py_inj : ∀ (d e : D), d.pl = true → e.pl = true → d.py = e.py → d = e
  | .non, .non, _, _, _ => rfl
  | .bl a, .bl b, _, _, h => by simp only [D.py] at h; cases h; rfl
  | .int a, .int b, _, _, h => by simp only [D.py] at h; cases h; rfl
  | .str a, .str b, _, _, h => by simp only [D.py] at h; cases h; rfl
  | .lst a, .lst b, p, q, h => by
    simp only [D.py] at h
    rw [pyAll_inj a b (by simpa [D.pl] using p) (by simpa [D.pl] using q) (PyData.list.inj h)]
  | .tup a, .tup b, p, q, h => by
    simp only [D.py] at h
    rw [pyAll_inj a b (by simpa [D.pl] using p) (by simpa [D.pl] using q) (PyData.tuple.inj h)]
  | .deck, _, p, _, _ => by simp [D.pl] at p
  | .dic _ _, _, p, _, _ => by simp [D.pl] at p
  | .ref _, _, p, _, _ => by simp [D.pl] at p
  | _, .deck, _, p, _ => by simp [D.pl] at p
  | _, .dic _ _, _, p, _ => by simp [D.pl] at p
  | _, .ref _, _, p, _ => by simp [D.pl] at p
  | .non, .bl _, _, _, h => by simp only [D.py] at h; cases h
  | .non, .int _, _, _, h => by simp only [D.py] at h; cases h
  | .non, .str _, _, _, h => by simp only [D.py] at h; cases h
  | .non, .lst _, _, _, h => by simp only [D.py] at h; cases h
  | .non, .tup _, _, _, h => by simp only [D.py] at h; cases h
  | .bl _, .non, _, _, h => by simp only [D.py] at h; cases h
  | .bl _, .int _, _, _, h => by simp only [D.py] at h; cases h
  | .bl _, .str _, _, _, h => by simp only [D.py] at h; cases h
  | .bl _, .lst _, _, _, h => by simp only [D.py] at h; cases h
  | .bl _, .tup _, _, _, h => by simp only [D.py] at h; cases h
  | .int _, .non, _, _, h => by simp only [D.py] at h; cases h
  | .int _, .bl _, _, _, h => by simp only [D.py] at h; cases h
  | .int _, .str _, _, _, h => by simp only [D.py] at h; cases h
  | .int _, .lst _, _, _, h => by simp only [D.py] at h; cases h
  | .int _, .tup _, _, _, h => by simp only [D.py] at h; cases h
  | .str _, .non, _, _, h => by simp only [D.py] at h; cases h
  | .str _, .bl _, _, _, h => by simp only [D.py] at h; cases h
  | .str _, .int _, _, _, h => by simp only [D.py] at h; cases h
  | .str _, .lst _, _, _, h => by simp only [D.py] at h; cases h
  | .str _, .tup _, _, _, h => by simp only [D.py] at h; cases h
  | .lst _, .non, _, _, h => by simp only [D.py] at h; cases h
  | .lst _, .bl _, _, _, h => by simp only [D.py] at h; cases h
  | .lst _, .int _, _, _, h => by simp only [D.py] at h; cases h
  | .lst _, .str _, _, _, h => by simp only [D.py] at h; cases h
  | .lst _, .tup _, _, _, h => by simp only [D.py] at h; cases h
  | .tup _, .non, _, _, h => by simp only [D.py] at h; cases h
  | .tup _, .bl _, _, _, h => by simp only [D.py] at h; cases h
  | .tup _, .int _, _, _, h => by simp only [D.py] at h; cases h
  | .tup _, .str _, _, _, h => by simp only [D.py] at h; cases h
  | .tup _, .lst _, _, _, h => by simp only [D.py] at h; cases h
theorem pyAll_inj : ∀ (ds es : List D), plAll ds = true → plAll es = true → pyAll ds = pyAll es → ds = es
  | [], [], _, _, _ => rfl
  | [], _ :: _, _, _, h => by simp [pyAll] at h
  | _ :: _, [], _, _, h => by simp [pyAll] at h
  | d :: ds, e :: es, p, q, h => by
    simp only [plAll, Bool.and_eq_true] at p q
    simp only [pyAll] at h
    obtain ⟨h1, h2⟩ := List.cons.inj h
    rw [D.py_inj d e p.1 q.1 h1, pyAll_inj ds es p.2 q.2 h2]
end
theorem pyAll_map : ∀ ds : List D, pyAll ds = ds.map D.py
  | [] => rfl
  | d :: ds => by rw [pyAll, pyAll_map ds]; rfl
theorem plAll_mem : ∀ {ds : List D}, plAll ds = true → ∀ d ∈ ds, d.pl = true
  | d :: ds, h, e, he => by
    rw [plAll, Bool.and_eq_true] at h
    rcases List.mem_cons.mp he with rfl | he
    · exact h.1
    · exact plAll_mem h.2 e he
/-! ### sorted(xs), xs a list of data that are alike -/
def allAl (ds : List D) : Bool := ds.all fun d => ds.all fun e => PySem.W.alike d.py e.py
def isCT : D → Bool
  | .tup (_ :: _) => true
  | _ => false
def isSc : D → Bool
  | .int _ => true
  | .str _ => true
  | .bl _ => true
  | _ => false
def sortG (ds : List D) : Bool := plAll ds && allAl ds && (ds.all isCT || ds.all isSc) && ds.all fun d => decide (d.py.depth ≤ 60)
def srtD (ds : List D) : List D := ds.mergeSort (PySem.W.dataLe false D.py)
def rSortD (K : Fg) : List V → Hp → VK → Prop := fun vs H Q => ∃ (a : Addr) (xs : List V) (ds : List D) (P : V → D → Prop), vs = [V.ref a] ∧ SqL K H a xs ∧ PySem.W.EachIs P xs ds ∧ (∀ v d, P v d → Dp K H v d.py) ∧
  PySem.W.AllAlike (ds.map D.py) ∧ PySem.W.Sortable (ds.map D.py) ∧ (∀ d ∈ ds, d.py.depth ≤ 60) ∧ ∀ ys p, PySem.W.EachIs P ys (srtD ds) → H p = none → Q (.ref p) (upd H p (.lst ys))
theorem each_join {P : V → D → Prop} : ∀ {xs : List V} {us : List Value} {ds : List D}, Vals xs us → PySem.W.EachIs P xs ds → PySem.W.EachIs (fun u d => ∃ v, RelV v u ∧ P v d) us ds
  | _, _, _, .nil, .nil => .nil
  | _, _, _, .cons a r, .cons b q => .cons ⟨_, a, b⟩ (each_join r q)
theorem each_split {P : V → D → Prop} : ∀ {us : List Value} {ds : List D}, PySem.W.EachIs (fun u d => ∃ v, RelV v u ∧ P v d) us ds → ∃ ys, Vals ys us ∧ PySem.W.EachIs P ys ds
  | _, _, .nil => ⟨[], .nil, .nil⟩
  | _, _, .cons ⟨v, h1, h2⟩ r => by
    obtain ⟨ys, h3, h4⟩ := each_split r
    exact ⟨v :: ys, .cons h1 h3, .cons h2 h4⟩
theorem call_sortedD {X : Cx} (hu : X.A.units + 64 < cLine) : CallR X (.builtin "sorted") (rSortD X.K) := by
  intro pins s σ H vs us Q I r h
  obtain ⟨a, xs, ds, P, rfl, hs, he, hp, ha, hk, hd, q⟩ := h
  obtain ⟨its, rv, hl, hz⟩ := I.list hs
  rw [Vals.ref1 r]
  have e1 : PySem.W.EachIs (fun u d => ∃ v, RelV v u ∧ P v d) its ds := each_join rv he
  have hlen1 : xs.length = ds.length := he.length
  refine PySem.W.sorted_data (enc := D.py) (bs := ds) (vs := its) hl.isList e1 (e1.mono fun u d ⟨v, r1, p1⟩ => Dp.reads I _ _ _ (hp v d p1) r1) ha hk (by rw [← hlen1]; exact hz) (fun b hb => by have := hd b hb; omega) fun out ho eo => ?_
  obtain ⟨ys, h1, h2⟩ := each_split eo
  obtain ⟨ep, he'⟩ := PyProof.Rows.sortedAll_at s.heap its (List.toArray out)
  have hlen : ys.length ≤ sizeLine := by
    have : ys.length = (srtD ds).length := h2.length
    rw [this]
    unfold srtD
    rw [List.length_mergeSort, ← hlen1]
    exact hz
  exact ⟨.ref _, upd H (s.heap.objs.size + 1) (.lst ys), I.laid (t' := s.toks) (fun _ _ => PyProof.Rows.sortedAll_old) (Nat.le_succ _) ⟨hlen, out, ep, h1, he'⟩, rfl, q _ _ h2 (I.hok.fresh (Nat.le_succ _))⟩
def sortM (f : ME) : MA := fun env st => (f env st).bind fun p => match dr p.2 p.1 with
  | .lst ds => if sortG ds = true then some (srtD ds, p.2) else none
  | _ => none
section
variable {K : Fg} {dk : Dk} {F F' F0 : Fz} {H H' H0 : Hp} {σ : L2.St} {env : Sg} {st : S}
theorem rps_each : ∀ {vs : List V} {ds : List D}, Rps K dk F vs ds → plAll ds = true → PySem.W.EachIs (fun v d => Rp K dk F v d ∧ d.pl = true) vs ds
  | _, _, .nil, _ => .nil
  | _, _, .cons a r, h => by
    rw [plAll, Bool.and_eq_true] at h
    exact .cons ⟨a, h.1⟩ (rps_each r h.2)
theorem each_rps : ∀ {vs : List V} {ds : List D}, PySem.W.EachIs (fun v d => Rp K dk F v d ∧ d.pl = true) vs ds → Rps K dk F vs ds
  | _, _, .nil => .nil
  | _, _, .cons a r => .cons a.1 (each_rps r)
theorem allAl_iff {ds : List D} (h : allAl ds = true) : PySem.W.AllAlike (ds.map D.py) := by
  intro d hd d' hd'
  obtain ⟨x, hx, rfl⟩ := List.mem_map.mp hd
  obtain ⟨y, hy, rfl⟩ := List.mem_map.mp hd'
  unfold allAl at h
  rw [List.all_eq_true] at h
  have h2 := h x hx
  rw [List.all_eq_true] at h2
  exact h2 y hy
theorem sortable_of {ds : List D} (h : (ds.all isCT || ds.all isSc) = true) : PySem.W.Sortable (ds.map D.py) := by
  rcases Bool.or_eq_true_iff.mp h with h | h
  · refine .inl fun d hd => ?_
    obtain ⟨x, hx, rfl⟩ := List.mem_map.mp hd
    have := List.all_eq_true.mp h x hx
    cases x with
    | tup ts =>
      cases ts with
      | nil => cases this
      | cons t ts => exact ⟨t.py, pyAll ts, by rw [D.py, pyAll]⟩
    | _ => cases this
  · refine .inr fun d hd => ?_
    obtain ⟨x, hx, rfl⟩ := List.mem_map.mp hd
    have := List.all_eq_true.mp h x hx
    cases x with
    | int i => exact ⟨fun z => (by rw [D.py] at z; cases z), fun xs z => (by rw [D.py] at z; cases z)⟩
    | str i => exact ⟨fun z => (by rw [D.py] at z; cases z), fun xs z => (by rw [D.py] at z; cases z)⟩
    | bl i => exact ⟨fun z => (by rw [D.py] at z; cases z), fun xs z => (by rw [D.py] at z; cases z)⟩
    | _ => cases this
theorem if_sorted {ta : TA} {f : ME} (ha : ImAW K ta (aCons f aNil)) : ImF K (tCB (rSortD K) ta) (sortM f) := fun dk H0 F0 F σ H env st d st' g e Q q => by
  obtain ⟨⟨x, s1⟩, h1, e⟩ := bnd e
  have h1' : aCons f aNil env st = some ([x], s1) := by
    show (f env st).bind _ = _
    rw [h1]; rfl
  refine ha dk H0 F0 F σ H env st [x] s1 g h1' _ fun vs F1 H1 x1 g1 r1 => ?_
  obtain ⟨v, rfl, r⟩ := (r1.dr g1.wd).one
  dsimp only at e
  generalize dr s1 x = y at e r
  split at e
  · rename_i ds
    split at e
    · rename_i hG
      cases e
      obtain ⟨p, us, rfl, hp, r2⟩ := r.l g1.wd.sub
      unfold sortG at hG
      simp only [Bool.and_eq_true] at hG
      obtain ⟨⟨⟨g1', g2⟩, g3⟩, g4⟩ := hG
      refine ⟨p, us, ds, fun v d => Rp K dk F1 v d ∧ d.pl = true, rfl, SqL.of hp, rps_each r2 g1', fun v d h => h.1.dp g1.wd.sub h.2, allAl_iff g2, sortable_of g3, fun d hd => by simpa using List.all_eq_true.mp g4 d hd, fun ys l hy hl => ?_⟩
      have px : Px F1 H1 F1 (upd H1 l (.lst ys)) := Px.lay g1.wd.sub hl
      exact q l ys F1 _ (x1.trans px.ext) (g1.px px) (x1.back hl) (g1.wd.out hl) upd_same (each_rps hy)
    · cases e
  · cases e
/-! ### zip of two tuples -/
def zipD (xs ys : List D) : List D := List.zipWith (fun x y => .tup [x, y]) xs ys
theorem zipD_get {xs ys : List D} {i : Nat} {d : D} (h : (zipD xs ys)[i]? = some d) : ∃ x y, xs[i]? = some x ∧ ys[i]? = some y ∧ d = .tup [x, y] := by
  unfold zipD at h
  rw [List.getElem?_zipWith] at h
  cases hx : xs[i]? with
  | none => rw [hx] at h; cases h
  | some x =>
    cases hy : ys[i]? with
    | none => rw [hx, hy] at h; cases h
    | some y => rw [hx, hy] at h; cases h; exact ⟨x, y, rfl, rfl, rfl⟩
theorem stdy_zipT {a b : Addr} {vs us : List V} {ds es : List D} (h : SqT K F a vs) (r : Rps K dk F vs ds) (h' : SqT K F b us) (r' : Rps K dk F us es) : Stdy K dk F (ItzT K a b) (zipD ds es) := fun F1 H1 st le w i => by
  have hq : SqT K H1 a vs := w.sub.sqT (le.sqT h)
  have hq' : SqT K H1 b us := w.sub.sqT (le.sqT h')
  refine ⟨fun d hd => ?_, fun hl => ⟨vs, us, hq, hq', ?_⟩⟩
  · obtain ⟨x, y, h1, h2, rfl⟩ := zipD_get hd
    obtain ⟨v, h3, h4⟩ := r.get h1
    obtain ⟨u, h5, h6⟩ := r'.get h2
    refine ⟨⟨vs, us, v, u, hq, hq', h3, h5⟩, fun z H2 hy => ?_⟩
    obtain ⟨T, v', u', rfl, hT, rfl, e1, e2⟩ := hy
    have e1' := e1 vs hq
    have e2' := e2 us hq'
    rw [h3] at e1'
    rw [h5] at e2'
    cases e1'
    cases e2'
    have px : Px F1 H1 (Fz.up F1 T (.tup [v, u])) (upd H1 T (.tup [v, u])) := Px.new w.sub hT
    exact ⟨_, px, .tup (SqT.of Fz.up_same) (.cons ((h4.mono le).mono px.f) (.cons ((h6.mono le).mono px.f) .nil))⟩
  · rw [r.length, r'.length]
    have : (zipD ds es).length = min ds.length es.length := by unfold zipD; rw [List.length_zipWith]
    omega
def zipI (f f' : ME) : MI := fun env st => (f env st).bind fun p => (f' env p.2).bind fun q => match p.1, q.1 with
  | .tup xs, .tup ys => some (zipD xs ys, q.2)
  | _, _ => none
theorem ii_zip {te te' : TE} {f f' : ME} (h : Im K te f) (h' : Im K te' f') : ImI K (iZipA K (tCons te (tCons te' tNil))) (zipI f f') := fun dk H0 F0 F σ H env st ds st' g e R q => by
  obtain ⟨⟨d, s1⟩, h1, e⟩ := bnd e
  obtain ⟨⟨d', s2⟩, h2, e⟩ := bnd e
  dsimp only at e
  split at e
  · cases e
    refine h dk H0 F0 F σ H env st _ s1 g h1 _ fun v F1 H1 x1 g1 r1 => ?_
    refine h' dk H0 F0 F1 σ H1 env s1 _ _ g1 h2 _ fun u F2 H2 x2 g2 r2 => ?_
    have r1' := r1.mono x2.f
    cases r1' with
    | tup a1 a2 =>
      cases r2 with
      | tup b1 b2 => exact ⟨_, _, _, _, rfl, .inr ⟨g2.wd.sub.sqT a1, g2.wd.sub.sqT b1, q _ F2 H2 (x1.trans x2) g2 (stdy_zipT a1 a2 b1 b2)⟩⟩
  · cases e
/-! ### d.setdefault(k, x), d a dict of the store -/
def sdefM (fo fk fx : ME) : ME := fun env st => (fo env st).bind fun o => (refOf o.1).bind fun n => (dicAt o.2 n).bind fun _ => (fk env o.2).bind fun p => (fx env p.2).bind fun r => (dicAt r.2 n).bind fun z => (keyOf p.1).bind fun k =>
  if z.2.length < sizeLine then (match getK z.1 z.2 k with
    | some d => some (d, r.2)
    | none => some (r.1, r.2.put n (.dic false (putKs z.1 k) (putVs z.1 z.2 k r.1)))) else none
theorem im_sdef {to ty tx : TE} {fo fk fx : ME} (ho : Im K to fo) (hk : ImW K ty fk) (hx : Im K tx fx) : Im K (tDSetd to ty tx) (sdefM fo fk fx) := fun dk H0 F0 F σ H env st d st' g e Q q => by
  obtain ⟨⟨o, s1⟩, h1, e⟩ := bnd e
  obtain ⟨n, h2, e⟩ := bnd e
  obtain ⟨z0, h3, e⟩ := bnd e
  obtain ⟨⟨y, s2⟩, h4, e⟩ := bnd e
  obtain ⟨⟨x, s3⟩, h5, e⟩ := bnd e
  obtain ⟨⟨ks, ds⟩, h6, e⟩ := bnd e
  obtain ⟨k, h7, e⟩ := bnd e
  split at e
  · rename_i hz
    have e9 := e
    refine ho dk H0 F0 F σ H env st o s1 g h1 _ fun v F1 H1 x1 g1 r1 => ?_
    have hxo : o = .ref n := refOf_eq h2
    subst hxo
    obtain ⟨a, rfl, ha⟩ := r1.refn
    obtain ⟨vs0, hv0, _, _⟩ := g1.wd.dicAt ha h3
    refine ⟨a, rfl, .inl ⟨_, .inl hv0⟩, ?_⟩
    refine hk dk H0 F0 F1 σ H1 env s1 y s2 g1 h4 _ fun u F2 H2 x2 g2 r2 => ?_
    refine hx dk H0 F0 F2 σ H2 env s2 x s3 g2 h5 _ fun w F3 H3 x3 g3 r3 => ?_
    have ha3 := (x2.f.trans x3.f).at ha
    obtain ⟨vs, hvs, hl, rv⟩ := g3.wd.dicAt ha3 h6
    have x123 := x1.trans (x2.trans x3)
    obtain ⟨i1, i2⟩ := getK_val ks k rv hl
    refine ⟨ks.zip vs, k, hvs, keyOf_rw r2.w h7, ?_, fun v' hv' => ?_, fun hn => ?_⟩
    · have := rv.length
      rw [List.length_zip, hl, Nat.min_self, this]; exact hz
    · cases hg : getK ks ds k with
      | none => rw [i2 hg] at hv'; cases hv'
      | some d1 =>
        obtain ⟨u1, hu1, ru1⟩ := i1 d1 hg
        rw [hu1] at hv'
        cases hv'
        dsimp only at e9
        rw [hg] at e9
        cases e9
        exact q _ F3 H3 x123 g3 ru1
    · cases hg : getK ks ds k with
      | some d1 =>
        obtain ⟨u1, hu1, ru1⟩ := i1 d1 hg
        rw [hu1] at hn
        cases hn
      | none =>
        dsimp only at e9
        rw [hg] at e9
        cases e9
        have nf : ¬ Fro (HO.dK (ks.zip vs)) := by rintro ⟨_, _, z⟩; cases z
        have nf' : ¬ Fro (HO.dK (putK (ks.zip vs) k w)) := by rintro ⟨_, _, z⟩; cases z
        refine q w F3 _ (x123.put ha3 hvs nf nf') (g3.put ha3 hvs nf ?_) r3
        exact .dic (by rw [upd_same]; exact congrArg (fun z => some (HO.dK z)) (put_zip hl)) (put_len hl) (putVs_rps r3 rv)
  · cases e
/-! ### min of a list of data that are alike -/
def minE (x : D) (xs : List D) : D := xs.foldl (fun a y => if PySem.W.dataLt y.py a.py then y else a) x
theorem minE_py : ∀ (xs : List D) (x : D), (minE x xs).py = PySem.W.minD x.py (pyAll xs)
  | [], x => rfl
  | y :: ys, x => by
    show (minE (if PySem.W.dataLt y.py x.py then y else x) ys).py = _
    rw [minE_py ys]
    unfold PySem.W.minD
    rw [pyAll, List.foldl_cons]
    congr 1
    split <;> rfl
theorem minE_mem : ∀ (xs : List D) (x : D), minE x xs ∈ x :: xs
  | [], x => List.mem_singleton.mpr rfl
  | y :: ys, x => by
    have h := minE_mem ys (if PySem.W.dataLt y.py x.py then y else x)
    show minE (if PySem.W.dataLt y.py x.py then y else x) ys ∈ _
    rcases List.mem_cons.mp h with e | h
    · rw [e]
      split <;> simp
    · exact List.mem_cons_of_mem _ (List.mem_cons_of_mem _ h)
def rMinD (K : Fg) : List V → Hp → VK → Prop := fun vs H Q => ∃ (a : Addr) (xs : List V) (x : PyData) (ds : List PyData), vs = [V.ref a] ∧ SqL K H a xs ∧ DpAll K H xs (x :: ds) ∧ PySem.W.AlikeAll (x :: ds) ∧ PyData.depthAll (x :: ds) ≤ 60 ∧
  ∀ (i : Nat) (v : V), xs[i]? = some v → (x :: ds)[i]? = some (PySem.W.minD x ds) → Q v H
theorem vals_get : ∀ {xs : List V} {us : List Value}, Vals xs us → ∀ {i : Nat} {u : Value}, us[i]? = some u → ∃ v, xs[i]? = some v ∧ RelV v u
  | _, _, .nil, i, u, h => by cases h
  | _, _, .cons a r, 0, u, h => by cases h; exact ⟨_, rfl, a⟩
  | _, _, .cons a r, i + 1, u, h => vals_get r (i := i) h
theorem reads_get {h : Heap} : ∀ {us : List Value} {ds : List PyData} {as : List Addr}, ReadsAll h us ds as → ∀ {i : Nat} {u : Value}, us[i]? = some u → ∃ d bs, ds[i]? = some d ∧ Reads h u d bs
  | _, _, _, .nil, i, u, e => by cases e
  | _, _, _, .cons a r, 0, u, e => by cases e; exact ⟨_, _, rfl, a⟩
  | _, _, _, .cons a r, i + 1, u, e => reads_get r (i := i) e
theorem minD_mem : ∀ (ds : List PyData) (x : PyData), PySem.W.minD x ds ∈ x :: ds
  | [], x => List.mem_singleton.mpr rfl
  | y :: ys, x => by
    have h := minD_mem ys (if PySem.W.dataLt y x then y else x)
    show PySem.W.minD (if PySem.W.dataLt y x then y else x) ys ∈ _
    rcases List.mem_cons.mp h with e | h
    · rw [e]
      split <;> simp
    · exact List.mem_cons_of_mem _ (List.mem_cons_of_mem _ h)
theorem call_minD {X : Cx} (hc : X.calm = true) (hu : X.A.units + 64 < cLine) : CallR X (.builtin "min") (rMinD X.K) := by
  intro pins s σ H vs us Q I r h
  obtain ⟨a, xs, x, ds, rfl, hs, hd, ha, hdp, q⟩ := h
  obtain ⟨its, rv, hl, hz⟩ := I.list hs
  rw [Vals.ref1 r]
  obtain ⟨as, hr⟩ := Dp.readsAll I _ _ its hd rv
  refine PySem.W.min_list_data (I.ok.hd hc) hl.isList (by simpa using hr) ha (by omega) fun i v h' tk bs hv hrd hk => ?_
  have hv' : its[i]? = some v := by simpa using hv
  obtain ⟨y, hy, ry⟩ := vals_get rv hv'
  obtain ⟨d, cs, hd1, rd1⟩ := reads_get hr hv'
  have hdm : d ∈ x :: ds := List.mem_of_getElem? hd1
  have e : d = PySem.W.minD x ds := PySem.W.alike_unique _ _ _ _ _ (ha.1 _ hdm _ (minD_mem ds x)) (PySem.W.reads_keeps hk rd1) hrd
  exact ⟨y, H, I.kept hk, ry, q i y hy (by rw [hd1, e])⟩
def minG (ds : List D) : Bool := plAll ds && allAl ds && ds.all (fun d => !nonD d) && decide (PyData.depthAll (pyAll ds) ≤ 60)
def minDM : List D → Option D
  | [.lst (x :: ds)] => if minG (x :: ds) = true then some (minE x ds) else none
  | _ => none
theorem rc_minD : RC K (rMinD K) minDM := by
  intro dk F H st vs ds z w rx hz Q q
  unfold minDM at hz
  split at hz
  · rename_i x es
    split at hz
    · rename_i hG
      cases hz
      unfold minG at hG
      simp only [Bool.and_eq_true, decide_eq_true_eq] at hG
      obtain ⟨⟨⟨g1, g2⟩, g3⟩, g4⟩ := hG
      obtain ⟨v, rfl, r⟩ := rx.one
      obtain ⟨p, us, rfl, hp, r2⟩ := r.l w.sub
      have hal := allAl_iff g2
      refine ⟨p, us, x.py, pyAll es, rfl, SqL.of hp, r2.dp w.sub g1, ⟨fun a ha b hb => hal a (by rw [← pyAll_map]; exact ha) b (by rw [← pyAll_map]; exact hb), fun a ha => ?_⟩, g4, fun i v hv hm => ?_⟩
      · have ha' : a ∈ (x :: es).map D.py := by rw [← pyAll_map]; exact ha
        obtain ⟨d, hd, rfl⟩ := List.mem_map.mp ha'
        have h1 := List.all_eq_true.mp g3 d hd
        have h2 := plAll_mem g1 d hd
        intro z
        cases d <;> simp [D.py, nonD, D.pl] at h1 h2 z
      · obtain ⟨d, hd, rd⟩ := r2.getV hv
        have hm' : ((x :: es).map D.py)[i]? = some (PySem.W.minD x.py (pyAll es)) := by rw [← pyAll_map]; exact hm
        rw [List.getElem?_map, hd] at hm'
        have e1 : d.py = (minE x es).py := by rw [minE_py]; exact Option.some.inj hm'
        have e2 := D.py_inj d _ (plAll_mem g1 d (List.mem_of_getElem? hd)) (plAll_mem g1 _ (minE_mem es x)) e1
        rw [← e2] at q
        exact q _ F H (Px.refl w.sub) rd
    · cases hz
  · cases hz
end
end MD

set_option Elab.async false
set_option linter.all false
set_option maxRecDepth 100000
set_option maxHeartbeats 1000000
namespace MD
open PySem PySem.Spec PyProof.Rows L2
variable {ww : WW}
/-! ### is not True, of a bool -/
theorem op_isNotB {X : Cx} : OpR X (compareOp .IsNot) (fun x y H Q => ∃ a b, x = .bl a ∧ y = .bl b ∧ Q (.bl (!decide (a = b))) H) := by
  intro pins s σ H x y v u Q I rx ry h
  obtain ⟨a, b, rfl, rfl, q⟩ := h
  cases (show v = Value.bool a from rx)
  cases (show u = Value.bool b from ry)
  by_cases e : a = b
  · subst e
    exact wpAny_isNot_self rfl ⟨.bl false, H, I, rfl, by simpa using q⟩
  · exact wpAny_isNot_other rfl (fun z => e (Value.bool.inj z)) ⟨.bl true, H, I, rfl, by simpa [e] using q⟩
section
variable {K : Fg} {dk : Dk} {F F' F0 : Fz} {H H' H0 : Hp}
def isNotB : D → D → Option D
  | .bl a, .bl b => some (.bl (!decide (a = b)))
  | _, _ => none
theorem ro_isNotB : RO K (fun x y H Q => ∃ a b, x = .bl a ∧ y = .bl b ∧ Q (.bl (!decide (a = b))) H) isNotB := by
  intro dk F H st x y d e z w rx ry hz Q q
  unfold isNotB at hz
  split at hz
  · cases hz
    exact ⟨_, _, rx.bl, ry.bl, q _ F H (Px.refl w.sub) (.bl _)⟩
  · cases hz
end
end MD

set_option Elab.async false
set_option linter.all false
set_option maxRecDepth 100000
set_option maxHeartbeats 4000000
namespace MD
open PySem PySem.Spec PyProof.Rows L2 RZ
variable {ww : WW}
/-! ### sets of keys (ints, texts) whose members can be walked: set(list), sorted(set(list)) -/
def kPy : Key → PyData
  | .inl i => .int i
  | .inr x => .str x
def keyV : Value → Key
  | .int k _ => .inl k
  | .str x _ => .inr x
  | _ => .inl 0
theorem keyV_rel {k : Key} {v : Value} (r : RelV (kV k) v) : keyV v = k := by
  cases k with
  | inl i => obtain ⟨t, rfl⟩ := r; rfl
  | inr x => obtain ⟨t, rfl⟩ := r; rfl
def inKs (ks : List Key) (k : Key) : Bool := ks.any fun j => decide (j = k)
theorem inKs_iff {ks : List Key} {k : Key} : inKs ks k = true ↔ k ∈ ks := by
  unfold inKs
  rw [List.any_eq_true]
  constructor
  · rintro ⟨j, h1, h2⟩
    rw [← of_decide_eq_true h2]; exact h1
  · exact fun h => ⟨k, h, decide_eq_true rfl⟩
def addK (ks : List Key) (k : Key) : List Key := if inKs ks k = true then ks else k :: ks
def nubK (ks : List Key) : List Key := ks.foldl addK []
theorem addK_mem {ks : List Key} {k j : Key} : j ∈ addK ks k ↔ j ∈ ks ∨ j = k := by
  unfold addK
  split
  · rename_i h
    refine ⟨.inl, fun z => z.elim id fun e => by rw [e]; exact inKs_iff.mp h⟩
  · rw [List.mem_cons]; exact Or.comm
theorem addK_nd {ks : List Key} {k : Key} (h : ks.Nodup) : (addK ks k).Nodup := by
  unfold addK
  split
  · exact h
  · rename_i z
    exact List.nodup_cons.mpr ⟨fun q => z (inKs_iff.mpr q), h⟩
theorem foldK_mem : ∀ (l acc : List Key) (j : Key), j ∈ l.foldl addK acc ↔ j ∈ acc ∨ j ∈ l
  | [], acc, j => by simp
  | k :: l, acc, j => by
    rw [List.foldl_cons, foldK_mem l, addK_mem, List.mem_cons]
    exact or_assoc
theorem foldK_nd : ∀ (l acc : List Key), acc.Nodup → (l.foldl addK acc).Nodup
  | [], _, h => h
  | k :: l, acc, h => foldK_nd l _ (addK_nd h)
theorem nubK_mem {l : List Key} {j : Key} : j ∈ nubK l ↔ j ∈ l := by
  unfold nubK; rw [foldK_mem]; simp
theorem nubK_nd (l : List Key) : (nubK l).Nodup := foldK_nd l [] List.nodup_nil
theorem addK_len (ks : List Key) (k : Key) : (addK ks k).length ≤ ks.length + 1 := by
  unfold addK; split <;> simp
theorem foldK_len : ∀ (l acc : List Key), (l.foldl addK acc).length ≤ acc.length + l.length
  | [], acc => by simp
  | k :: l, acc => by
    have := foldK_len l (addK acc k)
    have := addK_len acc k
    rw [List.foldl_cons, List.length_cons]; omega
theorem nubK_len (l : List Key) : (nubK l).length ≤ l.length := by
  have := foldK_len l []
  unfold nubK; simpa using this
/-! ### the set at an address, with its members -/
def GoodX (P : Program) (w : World) (e : Int × Value) : Prop := RelV (kV (keyV e.2)) e.2 ∧ e.1 = (mixKind P w).hash (keyV e.2)
def mem2 (es : List (Int × Value)) : List Key := es.map fun e => keyV e.2
def SetX (P : Program) (w : World) (h : Heap) (a : Addr) (ks : List Key) : Prop :=
  ∃ o es ep t, h.get? a = some o ∧ o.ExactSet ∧ o.data = .set es ep t ∧ (∀ e ∈ es.toList, GoodX P w e) ∧ (mem2 es.toList).Perm ks ∧ ks.Nodup ∧ es.size < scanBound ∧
    t.fits es.size = true ∧ Ris t.place.toList ∧ (w.params.followText "set-order" = true ∨ t.led = true)
section
variable {P : Program} {w : World} {h h' : Heap} {a : Addr} {ks : List Key}
theorem SetX.at (R : SetX P w h a ks) (k : ∀ o, h.get? a = some o → h'.get? a = some o) : SetX P w h' a ks := by
  obtain ⟨o, es, ep, t, ho, r⟩ := R
  exact ⟨o, es, ep, t, k o ho, r⟩
theorem gdX_is {e : Int × Value} (g : GoodX P w e) (k : Key) : (mixKind P w).is k e.2 = true ↔ keyV e.2 = k :=
  ⟨fun h => (mixKind P w).inj e.2 _ _ (kV_is g.1) h, fun h => by rw [← h]; exact kV_is g.1⟩
theorem gdX_elems {l : List (Int × Value)} (g : ∀ e ∈ l, GoodX P w e) : ElemsOf (mixKind P w) l := fun e he =>
  ⟨⟨_, kV_is (g e he).1, (g e he).2⟩, key_scan (g e he).1⟩
theorem gdX_mem {l : List (Int × Value)} (g : ∀ e ∈ l, GoodX P w e) (k : Key) : k ∈ mem2 l ↔ ∃ e ∈ l, (mixKind P w).is k e.2 = true := by
  unfold mem2
  rw [List.mem_map]
  exact ⟨fun ⟨e, he, q⟩ => ⟨e, he, (gdX_is (g e he) k).2 q⟩, fun ⟨e, he, q⟩ => ⟨e, he, (gdX_is (g e he) k).1 q⟩⟩
end
section
variable {P : Program} {w : World} {A : Around} {E : Value → Shared → Prop} {s : Shared} {a : Addr} {ks : List Key}
theorem setX_tail {g : Bool → Sem Unit} (hg : ∀ (b : Bool) (s₁ : Shared) (Q' : Unit → Shared → Prop), Q' () s₁ → wpAny (model P w) A (g b) Q' E s₁)
    {o : Obj} {es : Array (Int × Value)} {ep : Nat} {t : SetTable} (ho : s.heap.get? a = some o) (hex : o.ExactSet) (hd : o.data = .set es ep t)
    {es1 : Array (Int × Value)} {t2 : SetTable} {ks' : List Key} (g1 : ∀ e ∈ es1.toList, GoodX P w e) (p1 : (mem2 es1.toList).Perm ks') (nd : ks'.Nodup)
    (hb1 : es1.size < scanBound) (hf2 : t2.fits es1.size = true) (hr : Ris t2.place.toList) (hl : w.params.followText "set-order" = true ∨ t2.led = true) {wasDummy : Bool} {R : Option Bool → Shared → Prop}
    (hR : ∀ h', Heap.SameBut a s.heap h' → SetX P w h' a ks' → R (some true) { s with heap := h' }) :
    wpAny (model P w) A (do
        storeSet a es1 t2
        if (!wasDummy && t2.tooFull) = true then do
            g (relayAll t2 es1 (SetTable.grown es1.size)).2.2
            storeSet a (relayAll t2 es1 (SetTable.grown es1.size)).1 (relayAll t2 es1 (SetTable.grown es1.size)).2.1
            pure (some true)
          else pure (some true)) R E s := by
  refine wpAny_bind (wpAny_storeSet_of ho hd ?_ (fits_of_scanBound hb1))
  have ho1 := store_at (es' := es1) (t' := t2) ho hd
  have sb1 := Heap.SameBut.update s.heap a (Obj.putSet es1 t2)
  split
  · have pm := relayAll_perm t2 es1 (SetTable.grown es1.size)
    have hf3 := relayAll_fits t2 es1 (SetTable.grown es1.size)
    have hr3 := relayAll_ris t2 es1 (SetTable.grown es1.size)
    have hl3 := relayAll_led t2 es1 (SetTable.grown es1.size)
    generalize relayAll t2 es1 (SetTable.grown es1.size) = Z at pm hf3 hr3 hl3 ⊢
    obtain ⟨es2, t3, gave⟩ := Z
    dsimp only at pm hf3 hr3 hl3 ⊢
    have hsz : es2.size = es1.size := by rw [← Array.length_toList, pm.length_eq, Array.length_toList]
    refine wpAny_bind (hg _ _ _ ?_)
    refine wpAny_bind (wpAny_storeSet_of ho1 rfl ?_ (fits_of_scanBound (by rw [hsz]; exact hb1)))
    have ho2 := store_at (es' := es2) (t' := t3) ho1 rfl
    refine wpAny_pure (hR _ (sb1.trans (Heap.SameBut.update _ a _)) ?_)
    exact ⟨_, es2, _, t3, ho2, hex, rfl, fun e he => g1 e (pm.mem_iff.mp he), (pm.map _).trans p1, nd, by rw [hsz]; exact hb1, by rw [hsz] at hf3 ⊢; exact hf3, hr3, hl.imp id fun z => by rw [hl3]; exact z⟩
  · exact wpAny_pure (hR _ sb1 ⟨_, es1, _, t2, ho1, hex, rfl, g1, p1, nd, hb1, hf2, hr, hl⟩)
theorem setX_add {k : Key} {v : Value} {Q : Bool → Shared → Prop} (R : SetX P w s.heap a ks) (rv : RelV (kV k) v) (room : ks.length + 1 < scanBound)
    (hQ : ∀ b h', Heap.SameBut a s.heap h' → SetX P w h' a (addK ks k) → Q b { s with heap := h' }) :
    wpAny (model P w) A (setAddHashed a v ((mixKind P w).hash k)) Q E s := by
  obtain ⟨o, es, ep, t, ho, hex, hd, g, pm0, nd, hb, hf, hr, hl⟩ := R
  have hkey : (mixKind P w).is k v = true := kV_is rv
  have hsc : v.scannable = true := key_scan rv
  have hel : ElemsOf (mixKind P w) es.toList := gdX_elems g
  unfold setAddHashed setAddHashedIn
  refine wpAny_holding (wpAny_bind (wpAny_setState_of ho hd hf ?_))
  dsimp only
  rw [byScan_of hsc hb hel]
  simp only [↓reduceIte]
  unfold setAddByScan
  refine wpAny_bind ?_
  refine wpAny_bind (wpAny_rule ?_)
  refine wpAny_bind (wpAny_setScan_of hkey ho hd hf hel ?_)
  cases hfi : List.findIdx? (fun e => (mixKind P w).is k e.2) es.toList with
  | some j =>
    dsimp only
    obtain ⟨hj, pj, _⟩ := List.findIdx?_eq_some_iff_getElem.mp hfi
    have hk : k ∈ ks := pm0.mem_iff.mp ((gdX_mem g k).2 ⟨es.toList[j], List.getElem_mem hj, pj⟩)
    have e : addK ks k = ks := if_pos (inKs_iff.mpr hk)
    rw [e] at hQ
    exact wpAny_pure (wpAny_pure (hQ _ s.heap (Heap.SameBut.refl a s.heap) ⟨o, es, ep, t, ho, hex, hd, g, pm0, nd, hb, hf, hr, hl⟩))
  | none =>
    dsimp only
    have hnk : k ∉ ks := fun z => by
      obtain ⟨e, he, q⟩ := (gdX_mem g k).1 (pm0.mem_iff.mpr z)
      have c := List.findIdx?_eq_none_iff.mp hfi e he
      rw [q] at c
      cases c
    have ea : addK ks k = k :: ks := if_neg fun z => hnk (inKs_iff.mp z)
    rw [ea] at hQ
    have hgw : ∀ (b : Bool) {s₁ : Shared} {Q' : Unit → Shared → Prop}, Q' () s₁ → wpAny (model P w) A (match b with | true => rule "set.scan.the-table-gave-way" | false => pure ()) Q' E s₁ :=
      fun b s₁ Q' q => by cases b <;> first | exact wpAny_pure q | exact wpAny_rule q
    have pm := layNew_perm t es ((mixKind P w).hash k) v
    have hf1 := layNew_fits t es ((mixKind P w).hash k) v
    have hr1 := layNew_ris t es ((mixKind P w).hash k) v hr
    have hl1 := layNew_led t es ((mixKind P w).hash k) v
    generalize layNew t es ((mixKind P w).hash k) v = Z at pm hf1 hr1 hl1 ⊢
    obtain ⟨es1, t1, wasDummy, gave⟩ := Z
    dsimp only at pm hf1 hr1 hl1 ⊢
    rw [Array.toList_push] at pm
    have pc : es1.toList.Perm (((mixKind P w).hash k, v) :: es.toList) := pm.trans (List.perm_append_singleton _ _)
    have pk : (mem2 es1.toList).Perm (k :: ks) := by
      have q := pc.map fun e : Int × Value => keyV e.2
      rw [List.map_cons] at q
      refine q.trans ?_
      show (keyV v :: mem2 es.toList).Perm (k :: ks)
      rw [keyV_rel rv]
      exact pm0.cons k
    have g1 : ∀ e ∈ es1.toList, GoodX P w e := fun e he => by
      rcases List.mem_cons.mp (pc.mem_iff.mp he) with z | z
      · rw [z]
        exact ⟨by show RelV (kV (keyV v)) v; rw [keyV_rel rv]; exact rv, by show (mixKind P w).hash k = (mixKind P w).hash (keyV v); rw [keyV_rel rv]⟩
      · exact g e z
    have nd1 : (k :: ks).Nodup := List.nodup_cons.mpr ⟨hnk, nd⟩
    have hsz : es1.size = ks.length + 1 := by
      have q := pk.length_eq
      unfold mem2 at q
      rw [List.length_map, Array.length_toList, List.length_cons] at q
      exact q
    have hb1 : es1.size < scanBound := by rw [hsz]; exact room
    have hled : w.params.followText "set-order" = true ∨ t1.led = true := hl.imp id fun z => by rw [hl1]; exact z
    refine wpAny_bind (hgw _ ?_)
    split
    · refine wpAny_bind ?_
      rw [hashByValue_scannable 8 hsc]
      refine wpAny_pure ?_
      refine setX_tail ?_ ho hex hd g1 pk nd1 hb1 ?_ ?_ ?_ ?_
      · intro b s₁ Q' q; cases b <;> first | exact wpAny_pure q | exact wpAny_rule q
      · first | (split <;> first | exact hf1 | exact SetTable.fits_plain_off hf1) | exact hf1
      · first | (split <;> exact hr1) | exact hr1
      · first | (split <;> exact hled) | exact hled
      · intro h' sb r; dsimp only; exact wpAny_pure (hQ _ h' sb r)
    · refine wpAny_bind (wpAny_pure ?_)
      simp only [↓reduceIte]
      refine setX_tail ?_ ho hex hd g1 pk nd1 hb1 hf1 hr1 hled ?_
      · intro b s₁ Q' q; cases b <;> first | exact wpAny_pure q | exact wpAny_rule q
      · intro h' sb r; dsimp only; exact wpAny_pure (hQ _ h' sb r)
end
end MD

set_option Elab.async false
set_option linter.all false
set_option maxRecDepth 100000
set_option maxHeartbeats 4000000
namespace MD
open PySem PySem.Spec PyProof.Rows L2 RZ
variable {ww : WW}
theorem take_addK {l : List Key} {i : Nat} {k : Key} (h : l[i]? = some k) : nubK (l.take (i + 1)) = addK (nubK (l.take i)) k := by
  unfold nubK
  rw [List.take_add_one, h]
  show ((l.take i) ++ [k]).foldl addK [] = _
  rw [List.foldl_append]; rfl
section
variable {P : Program} {w : World} {A : Around} {E : Value → Shared → Prop} {s : Shared}
theorem loopX {I : Addr} {fp wr : List Addr} {G : Array GenState → Array GenState → Prop} {n : Nat} {Pv : Nat → Value → Prop} {St : Nat → Shared → Prop} {R : Result → Shared → Prop}
    (W : WalksS P w A.in1 I fp wr G n Pv St) (S : Addr) (hSf : S ∉ fp) (ks : List Key) (hn : n = ks.length) (hb : ks.length + 1 < scanBound) (hval : ∀ i v, Pv i v → ∃ k, ks[i]? = some k ∧ RelV (kV k) v) :
    ∀ (k i : Nat) (s : Shared), n - i = k → i ≤ n → St i s → SetX P w s.heap S (nubK (ks.take i)) →
      (∀ s', Moved (S :: wr) G s s' → SetX P w s'.heap S (nubK ks) → R (.ok (.ret .none)) s') →
      codeAny (model P w) A (.builtin "set.update.loop" ⟨[.ref S, .ref I], []⟩) R s := by
  have hSw : S ∉ wr := fun h => hSf (W.sub _ h)
  have hsub : ∀ b ∈ wr, b ∈ S :: wr := fun b hb => List.mem_cons_of_mem _ hb
  intro k
  induction k with
  | zero =>
    intro i s hk' hi hst hS hR
    have hin : i = n := by omega
    subst hin
    refine codeAny_builtin F.entry_set_update_loop ?_
    rw [Around.under_plainId F.plain_set_update_loop _]
    show wpAny _ A.in1 (pyNext (.ref I) >>= _) _ _ s
    refine wpAny_bind (W.done s _ _ hst fun s' hm => ?_)
    show wpAny _ A.in1 (ret Value.none) _ _ s'
    have e : ks.take i = ks := List.take_of_length_le (by omega)
    rw [e] at hS
    exact wpAny_pure (hR s' (hm.mono hsub) (hS.at fun o e => hm.heap S o hSw e))
  | succ k ih =>
    intro i s hk' hi hst hS hR
    have hlt : i < n := by omega
    refine codeAny_builtin F.entry_set_update_loop ?_
    rw [Around.under_plainId F.plain_set_update_loop _]
    show wpAny _ A.in1 (pyNext (.ref I) >>= _) _ _ s
    refine wpAny_bind (W.item i s _ _ hlt hst fun v s' hP hst' hm => ?_)
    obtain ⟨z, hz, rz⟩ := hval i v hP
    have hS' : SetX P w s'.heap S (nubK (ks.take i)) := hS.at fun o e => hm.heap S o hSw e
    show wpAny _ A.in1 (holding [v] (setAdd S v) >>= _) _ _ s'
    refine wpAny_bind (wpAny_holding ?_)
    unfold setAdd
    refine wpAny_holding ?_
    refine wpAny_bind ((mixKind P w).pyHash (k := z) (kV_is rz) ?_)
    have hl1 := nubK_len (ks.take i)
    rw [List.length_take] at hl1
    refine setX_add (s := { s' with toks := s'.toks + 1 }) hS' rz (by omega) fun b h' hsb hS2 => ?_
    have hS3 : SetX P w h' S (nubK (ks.take (i + 1))) := by rw [take_addK hz]; exact hS2
    refine wpAny_pure ⟨plainId_quiet F.plain_set_update_loop _, ih (i + 1) _ (by omega) hlt (W.frame _ s' _ _ hst' (Nat.le_succ _) fun b hb o e => ?_) hS3 fun s'' hm'' hS'' => ?_⟩
    · rw [hsb.2 b (fun h : b = S => hSf (by rw [← h]; exact hb))]; exact e
    · refine hR s'' (Moved.trans W.gtrans ((hm.mono hsub).then_heap (Nat.le_succ _) fun b o hb e => ?_) hm'') hS''
      rw [hsb.2 b (fun h : b = S => hb (by rw [h]; exact List.mem_cons_self))]; exact e
theorem vals_at : ∀ {ks : List Key} {us : List Value}, Vals (ks.map kV) us → ∀ (i : Nat) (v : Value), us[i]? = some v → ∃ k, ks[i]? = some k ∧ RelV (kV k) v
  | [], _, .nil, i, v, h => by simp at h
  | k :: ks, _, .cons a r, 0, v, h => by cases h; exact ⟨k, rfl, a⟩
  | k :: ks, _, .cons a r, i + 1, v, h => vals_at r i v h
/-- an empty set, as laid by set() -/
def nObj (w : World) : Obj := { cls := .type "set", dict := none, data := .set #[] 0 (.fresh 0 0 (!w.params.followText "set-order")) }
theorem setX_nil {h : Heap} {a : Addr} (ho : h.get? a = some (nObj w)) : SetX P w h a [] :=
  ⟨_, #[], 0, _, ho, ⟨rfl, rfl, rfl⟩, rfl, (fun e he => by simp at he), (by simp [mem2]), List.nodup_nil, (by decide), (by rfl), List.Pairwise.nil, by
    show _ ∨ (!w.params.followText "set-order") = true
    cases w.params.followText "set-order"
    · exact .inr rfl
    · exact .inl rfl⟩
set_option maxHeartbeats 8000000 in
theorem call_setX {l : Addr} {its : List Value} {ks : List Key} {Q : Value → Shared → Prop} (hh : A.handled = none) (hl : s.heap.IsList l its.toArray) (hit : Vals (ks.map kV) its) (hb : ks.length + 1 < scanBound)
    (h : ∀ (h' : Heap) (tk : Nat), SetX P w h' s.heap.objs.size (nubK ks) → (∀ b o, s.heap.get? b = some o → h'.get? b = some o) → Q (.ref s.heap.objs.size) { s with heap := h', toks := tk }) :
    wpAny (model P w) A (call (.type "set") [.ref l]) Q E s := by
  have hisz : its.toArray.size = ks.length := by
    have q := hit.length
    rw [List.length_map] at q
    rw [List.size_toArray, q]
  obtain ⟨c, tl, hmro⟩ := PySem.F.called_set.mro
  have hmade := PySem.F.called_set.made
  have hsub := PySem.F.called_set.sub
  refine wpAny_call (codeAny_of_tree ?_)
  show wpAny _ _ (callAny (.type "set") _) _ _ _
  refine wpAny_pure ⟨Code.quiet_builtin _ (by decide +kernel), codeAny_builtin PySem.F.entry_type_call ?_⟩
  rw [Around.under_plain (weight_type_call_type "set" [.ref l] []) rfl]
  have h1 := PySem.F.called_set.notType
  have h2 := PySem.F.called_set.canCreate
  have hct := PySem.F.typeCall_set_1 (.ref l)
  repeat (any_goals (first | assumption | wp_step))
  refine codeAny_mono (code_set_led1 (.ref l) (E := E) (Q₁ := fun obj s₁ => obj = .ref s.heap.objs.size ∧ s₁ = { s with heap := s.heap.push (nObj w) }) ⟨rfl, rfl⟩) fun r s₁ hr => ?_
  cases r with
  | error e => exact hr
  | ok fl =>
    cases fl with
    | ret obj =>
      obtain ⟨rfl, rfl⟩ := hr
      have hS : (s.heap.push (nObj w)).get? s.heap.objs.size = some (nObj w) := Heap.get?_push_size _ rfl
      have hT : Shared.TypeIs { s with heap := s.heap.push (nObj w) } (.ref s.heap.objs.size) "set" := ⟨_, hS, rfl⟩
      have hli := PySem.F.called_set.init.lookup
      have hbi := PySem.F.called_set.init.bind (.ref s.heap.objs.size)
      repeat (any_goals (first | assumption | wp_step))
      refine codeAny_mono (codeAny_call_builtin (R := wants (fun r s₂ => r = .none ∧ ∃ h' tk, s₂ = { s with heap := h', toks := tk } ∧ SetX P w h' s.heap.objs.size (nubK ks) ∧
          (∀ b o, s.heap.get? b = some o → h'.get? b = some o)) E) PySem.F.called_set.init.plain PySem.F.entry_set_init (check_set_init_1 hT ?_)) fun r₂ s₂ hr₂ => ?_
      · obtain ⟨ol, hol, hcl, nl, hdl⟩ := hl
        obtain ⟨ocls, odict, odata, oslots⟩ := ol
        simp only at hcl hdl
        subst hcl; subst hdl
        have hol' : (s.heap.push (nObj w)).get? l = some { cls := .type "list", dict := odict, data := .seq its.toArray nl, slots := oslots } := Heap.get?_push_of_some _ hol
        have hsls := PySem.F.sub_list_set
        have hslf := PySem.F.sub_list_frozenset
        have hne : (Value.type "list" == Value.type "dict") = false := by decide
        have hl1 : (s.heap.push (nObj w)).IsList l its.toArray := ⟨_, hol', rfl, nl, rfl⟩
        unfold Builtin.«set.__init__» noKeywords Builtin.Frozenset.updateFrom
        generalize hPI : pyIter = PI
        wp_walk
        subst hPI
        refine wpAny_pyIter_list hl1 ?_
        refine wpAny_bind (wpAny_runValue ?_)
        have hlS : l < s.heap.objs.size := Heap.lt_size hol
        have hh3 : A.in1.in1.in1.handled = none := by simp [hh]
        have hneI : l ≠ (s.heap.push (nObj w)).objs.size := by
          rw [Heap.size_push]; exact Nat.ne_of_lt (Nat.lt_succ_of_lt hlS)
        have hSf : s.heap.objs.size ∉ [(s.heap.push (nObj w)).objs.size, l] := by
          rw [Heap.size_push]; simp only [List.mem_cons, List.mem_singleton, List.not_mem_nil, or_false, not_or]
          exact ⟨Nat.ne_of_lt (Nat.lt_succ_self _), Nat.ne_of_gt hlS⟩
        have hval : ∀ (i : Nat) (v : Value), its.toArray[i]? = some v → ∃ k, ks[i]? = some k ∧ RelV (kV k) v := fun i v hv => vals_at hit i v (by simpa using hv)
        refine loopX ((Walks.list hh3 _ l hneI its.toArray).toS) s.heap.objs.size
          hSf ks hisz hb hval (its.toArray.size - 0) 0 _ (by omega) (Nat.zero_le _)
          ⟨⟨_, Heap.get?_push_size _ rfl, rfl, rfl⟩, (hl1.push _)⟩ ?hS0 ?hR
        case hS0 => exact setX_nil (Heap.get?_push_of_some _ hS)
        case hR =>
          intro s' hm hS'
          obtain ⟨h', g2, d', tk', os'⟩ := s'
          have eg : g2 = s.gens := hm.gens
          have ed : d' = s.drawn := hm.drawn
          have eo : os' = s.os := hm.os
          subst eg; subst ed; subst eo
          show wpAny _ _ _ _ _ _
          refine wpAny_pure ?_
          show wpAny _ _ (ret Value.none) _ _ _
          refine wpAny_pure ⟨rfl, h', tk', rfl, hS', fun b o e => ?_⟩
          have hb0 : b < s.heap.objs.size := Heap.lt_size e
          have hb1 : b ≠ s.heap.objs.size := Nat.ne_of_lt hb0
          have hb2 : b ≠ (s.heap.push (nObj w)).objs.size := by
            rw [Heap.size_push]; exact Nat.ne_of_lt (Nat.lt_succ_of_lt hb0)
          exact hm.heap b o (by simp only [List.mem_cons, List.mem_singleton, List.not_mem_nil, or_false, not_or]; exact ⟨hb1, hb2⟩) (Heap.get?_push_of_some _ (Heap.get?_push_of_some _ e))
      · cases r₂ with
        | error e => exact hr₂
        | ok fl₂ =>
          cases fl₂ with
          | ret r =>
            obtain ⟨rfl, h', tk, rfl, hS', hk'⟩ := hr₂
            repeat (any_goals (first | assumption | wp_step))
            exact h _ _ hS' hk'
          | _ => exact hr₂.elim
    | _ => exact hr.elim
end
end MD

set_option Elab.async false
set_option linter.all false
set_option maxRecDepth 100000
set_option maxHeartbeats 4000000
namespace MD
open PySem PySem.Spec PyProof.Rows L2 RZ
variable {ww : WW}
def isI : Key → Bool
  | .inl _ => true
  | .inr _ => false
def sameK (ks : List Key) : Bool := ks.all isI || ks.all fun k => !isI k
def srtK (ks : List Key) : List Key := (nubK ks).mergeSort (PySem.W.dataLe false kPy)
theorem sameK_mem {ks l : List Key} (h : sameK ks = true) (m : ∀ k ∈ l, k ∈ ks) : sameK l = true := by
  unfold sameK at h ⊢
  rcases Bool.or_eq_true_iff.mp h with h | h
  · exact Bool.or_eq_true_iff.mpr (.inl (List.all_eq_true.mpr fun k hk => List.all_eq_true.mp h k (m k hk)))
  · exact Bool.or_eq_true_iff.mpr (.inr (List.all_eq_true.mpr fun k hk => List.all_eq_true.mp h k (m k hk)))
theorem sameK_two {ks : List Key} (h : sameK ks = true) {a b : Key} (ha : a ∈ ks) (hb : b ∈ ks) : isI a = isI b := by
  unfold sameK at h
  rcases Bool.or_eq_true_iff.mp h with h | h
  · rw [List.all_eq_true.mp h a ha, List.all_eq_true.mp h b hb]
  · have h1 := List.all_eq_true.mp h a ha
    have h2 := List.all_eq_true.mp h b hb
    simp only [Bool.not_eq_true'] at h1 h2
    rw [h1, h2]
theorem leK_total : PySem.W.TotalLe (PySem.W.dataLe false kPy) := PySem.W.sortLe_total (PyProof.Rows.listOrd PyProof.Rows.itemOrd) false fun e : Key => PySem.W.keyToks (kPy e)
theorem leK_anti {a b : Key} (e : isI a = isI b) (h1 : PySem.W.dataLe false kPy a b = true) (h2 : PySem.W.dataLe false kPy b a = true) : a = b := by
  have g1 : (!PySem.W.dataLt (kPy b) (kPy a)) = true := h1
  have g2 : (!PySem.W.dataLt (kPy a) (kPy b)) = true := h2
  cases a with
  | inl i =>
    cases b with
    | inl j =>
      simp only [kPy, PySem.W.dataLt_int, Bool.not_eq_true', decide_eq_false_iff_not] at g1 g2
      rw [show i = j by omega]
    | inr y => cases e
  | inr x =>
    cases b with
    | inl j => cases e
    | inr y =>
      simp only [kPy, PySem.W.dataLt_str, Bool.not_eq_true', decide_eq_false_iff_not] at g1 g2
      have h3 : x.cps.toList = y.cps.toList := List.le_antisymm (List.not_lt.mp g1) (List.not_lt.mp g2)
      have h4 : x = y := by
        obtain ⟨x⟩ := x
        obtain ⟨y⟩ := y
        have : x = y := by
          apply Array.ext'
          exact h3
        rw [this]
      rw [h4]
theorem sort_any {ks l : List Key} (hs : sameK ks = true) (p : l.Perm (nubK ks)) : l.mergeSort (PySem.W.dataLe false kPy) = srtK ks := by
  unfold srtK
  have p1 := ((List.mergeSort_perm l (PySem.W.dataLe false kPy)).trans p).trans (List.mergeSort_perm (nubK ks) (PySem.W.dataLe false kPy)).symm
  refine p1.eq_of_pairwise (le := fun a b => PySem.W.dataLe false kPy a b = true) (fun a b ha hb h1 h2 => leK_anti (sameK_two hs ?_ ?_) h1 h2) (PySem.W.sort_pairwise leK_total l) (PySem.W.sort_pairwise leK_total _)
  · exact nubK_mem.mp (p.mem_iff.mp ((List.mergeSort_perm _ _).mem_iff.mp ha))
  · exact nubK_mem.mp ((List.mergeSort_perm _ _).mem_iff.mp hb)
theorem srtK_len (ks : List Key) : (srtK ks).length ≤ ks.length := by
  unfold srtK; rw [List.length_mergeSort]; exact nubK_len ks
theorem alikeK {ks : List Key} (hs : sameK ks = true) : PySem.W.AllAlike (ks.map kPy) := by
  intro d hd d' hd'
  obtain ⟨a, ha, rfl⟩ := List.mem_map.mp hd
  obtain ⟨b, hb, rfl⟩ := List.mem_map.mp hd'
  have e := sameK_two hs ha hb
  cases a <;> cases b <;> first | rfl | cases e
theorem sortableK (ks : List Key) : PySem.W.Sortable (ks.map kPy) := .inr fun d hd => by
  obtain ⟨a, ha, rfl⟩ := List.mem_map.mp hd
  cases a
  · exact ⟨fun z => (by cases z), fun _ z => (by cases z)⟩
  · exact ⟨fun z => (by cases z), fun _ z => (by cases z)⟩
theorem each_vals : ∀ {us : List Value} {ks : List Key}, PySem.W.EachIs (fun v k => RelV (kV k) v) us ks → Vals (ks.map kV) us
  | _, _, .nil => .nil
  | _, _, .cons a r => .cons a (each_vals r)
theorem each_keys : ∀ (us : List Value), (∀ v ∈ us, RelV (kV (keyV v)) v) → PySem.W.EachIs (fun v k => RelV (kV k) v) us (us.map keyV)
  | [], _ => .nil
  | v :: us, h => .cons (h v List.mem_cons_self) (each_keys us fun u hu => h u (List.mem_cons_of_mem _ hu))
theorem reads_key {h : Heap} {k : Key} {v : Value} (r : RelV (kV k) v) : Reads h v (kPy k) [] := by
  cases k with
  | inl i => obtain ⟨t, rfl⟩ := r; exact .int _ _
  | inr x => obtain ⟨t, rfl⟩ := r; exact .str _ _
theorem depthK (k : Key) : (kPy k).depth ≤ 1 := by cases k <;> simp [kPy, PyData.depth]
section
variable {P : Program} {w : World} {A : Around} {E : Value → Shared → Prop} {s : Shared} {a : Addr} {ks : List Key}
theorem sorted_setX {Q : Value → Shared → Prop} (R : SetX P w s.heap a (nubK ks)) (hs : sameK ks = true) (hh : A.handled = none) (hu : A.units + 64 < cLine)
    (hQ : ∀ s' p (out : Array Value) (c : Nat), (∀ b o, s.heap.get? b = some o → s'.heap.get? b = some o) → s'.gens = s.gens → s'.os = s.os → s.heap.objs.size ≤ p →
      s'.heap.get? p = some (seqObj "list" out c) → Vals ((srtK ks).map kV) out.toList → Q (.ref p) s') :
    wpAny (model P w) A (call (.builtin "sorted") [.ref a]) Q E s := by
  obtain ⟨o, es, ep, t, ho, hex, hd, g, pm0, nd, hb, hf, hr, hl⟩ := R
  refine Calls.call_function_entry kind_sorted plain_sorted entry_sorted (args_sorted1 _) ?_
  unfold Builtin.«sorted»
  refine wpAny_bind (m := checkCount "sorted" 1 1 _) (wpAny_pure ?_)
  refine wpAny_bind (collect_set (A := A.in1) hh ⟨o, ho, hex.1, hd⟩ hf hb hr hl fun s1 vs k1 hz g1 o1 pm => ?_)
  have hgv : ∀ v ∈ vs, RelV (kV (keyV v)) v := fun v hv => by
    obtain ⟨e, he, q⟩ := List.mem_map.mp (pm.mem_iff.mp hv)
    rw [← q]
    exact (g e he).1
  have pk : (vs.map keyV).Perm (nubK ks) := by
    have q := pm.map keyV
    rw [List.map_map] at q
    exact q.trans pm0
  have hvl : vs.length = es.size := by rw [pm.length_eq, List.length_map, Array.length_toList]
  have hsz : vs.length ≤ sizeLine := by rw [hvl]; exact fits_of_scanBound hb
  refine wpAny_bind (wpAny_newList ?_ hsz)
  have hoL : (s1.heap.push (seqObj "list" vs.toArray 0)).get? s1.heap.objs.size = some (seqObj "list" vs.toArray 0) := Heap.get?_push_size _ rfl
  have hms : ∀ k ∈ vs.map keyV, k ∈ ks := fun k hk => nubK_mem.mp (pk.mem_iff.mp hk)
  have hsk : sameK (vs.map keyV) = true := sameK_mem hs hms
  have ek := each_keys vs hgv
  refine wpAny_bind (wpAny_holding (PySem.W.list_sort_data (R := fun v k => RelV (kV k) v) (enc := kPy) (bs := vs.map keyV) hoL ek
    (ek.mono fun v k r => ⟨[], reads_key r, by simp⟩) (alikeK hsk) (sortableK _) (by rw [List.length_map]; exact hsz) (fun b _ => ?_) fun out ho eo => ?_))
  · have := depthK b
    show A.units + 1 + 1 + (kPy b).depth < cLine
    omega
  · rw [sort_any hs pk] at eo
    obtain ⟨c, hc⟩ := sortedHeap_at (vs := vs) (out := List.toArray out) hoL
    refine wpAny_pure ⟨_, rfl, hQ _ s1.heap.objs.size (List.toArray out) c (fun b u e => ?_) g1 o1 hz hc (by simpa using each_vals eo)⟩
    have q := k1 b u e
    have hlt := Heap.lt_size q
    show (sortedHeap (s1.heap.push (seqObj "list" vs.toArray 0)) s1.heap.objs.size vs (List.toArray out)).get? b = some u
    rw [sortedHeap_old (Nat.ne_of_lt hlt) (by rw [size_push']; exact Nat.lt_succ_of_lt hlt)]
    exact Heap.get?_push_of_some _ q
end
/-! ### the rule -/
theorem inv_lst {X : Cx} {pins : List (Addr × Obj)} {σ : L2.St} {H : Hp} {s s' : Shared} {p : Addr} {xs : List V} {out : Array Value} {c : Nat} (I : L2.Inv X pins σ H s) (k : ∀ b o, s.heap.get? b = some o → s'.heap.get? b = some o)
    (g : s'.gens = s.gens) (o : s'.os = s.os) (hp : s.heap.objs.size ≤ p) (hg : s'.heap.get? p = some (seqObj "list" out c)) (hv : Vals xs out.toList) (hl : xs.length ≤ sizeLine) : H p = none ∧ L2.Inv X pins σ (upd H p (.lst xs)) s' := by
  have hn : H p = none := I.hok.fresh hp
  refine ⟨hn, ?_⟩
  have J : L2.Inv X pins σ (upd H p (.lst xs)) { s with heap := s'.heap, gens := s'.gens, drawn := s'.drawn, toks := s'.toks } :=
    I.call (ch := []) (Un.laid k hp hn) (I.hok.laid k hp ⟨hl, out.toList, c, hv, hg⟩) (by rw [g]; exact I.bare) (fun _ z => nomatch z)
  have e : s' = { s with heap := s'.heap, gens := s'.gens, drawn := s'.drawn, toks := s'.toks } := by
    cases s'
    cases s
    cases o
    rfl
  rw [e]
  exact J
def tSortSet (K : Fg) (ta : TE) : TE := fun σ H Q => ta σ H fun x H1 => ∃ (l : Addr) (ks : List Key), x = .ref l ∧ SqL K H1 l (ks.map kV) ∧ ks.length ≤ 4000 ∧ sameK ks = true ∧
  ∀ p, H1 p = none → Q (.ref p) (upd H1 p (.lst ((srtK ks).map kV)))
theorem pe_sortSet {X : Cx} {a : Expr} {ta : TE} {p p2 q pos : Pos} (hc : X.calm = true) (hu : X.A.units + 64 < cLine) (hg : Gl X "sorted") (hm : X.mg "sorted" = none) (hg2 : Gl X "set") (hm2 : X.mg "set" = none) (ha : PE X a ta)
    (na : starEach [a] X.env = (false, eval a X.env) :: starEach [] X.env := by rfl) : PE X (.Call (.Name "sorted" p) [.Call (.Name "set" p2) [a] [] q] [] pos) (tSortSet X.K ta) := by
  refine ⟨fun pins s σ H Q I h => ?_⟩
  refine Call_ (ld_blt I hg hm boot_sorted ?_)
  refine PyProof.Rows.callWith_builtin1 (PyProof.Rows.args_cons ?_ rfl) rfl rfl
  refine Call_ (ld_blt I hg2 hm2 boot_set ?_)
  refine PyProof.Rows.callWith_type1 (PyProof.Rows.args_cons (thn (ha.run pins s σ H _ I h) fun v s1 ⟨x, H1, I1, r1, q1⟩ => PyProof.Rows.args_nil ?_) na) na rfl
  obtain ⟨l, ks, rfl, hq, hlen, hs, q1⟩ := q1
  cases r1
  obtain ⟨its, r, pl, hz⟩ := I1.list hq
  refine call_setX (I1.ok.hd hc) pl.isList r (by unfold scanBound; omega) fun h' tk hS hk => PyProof.Rows.args_nil ?_
  have I2 : Inv X pins σ H1 { s1 with heap := h', toks := tk } := I1.kept hk
  refine sorted_setX hS hs (I1.ok.hd hc) hu fun s' p out c k g o hp hg' hv => ?_
  have hl2 : ((srtK ks).map kV).length ≤ sizeLine := by
    rw [List.length_map, sizeLine_eq]
    have := srtK_len ks
    omega
  obtain ⟨hn, J⟩ := inv_lst I2 k g o hp hg' hv hl2
  exact ⟨.ref p, _, J, rfl, q1 p hn⟩
/-! ### the mirror -/
def dKey : D → Option Key
  | .int i => some (.inl i)
  | .str x => some (.inr x)
  | _ => none
def kD : Key → D
  | .inl i => .int i
  | .inr x => .str x
def keysD : List D → Option (List Key)
  | [] => some []
  | d :: ds => (dKey d).bind fun k => (keysD ds).map (k :: ·)
def sortSetM (f : ME) : MA := fun env st => (f env st).bind fun p => match dr p.2 p.1 with
  | .lst ds => (keysD ds).bind fun ks => if (sameK ks && decide (ks.length ≤ 4000)) = true then some ((srtK ks).map kD, p.2) else none
  | _ => none
section
variable {K : Fg} {dk : Dk} {F F' F0 : Fz} {H H' H0 : Hp} {σ : L2.St} {env : Sg} {st : S}
theorem rps_keys : ∀ {vs : List V} {ds : List D} {ks : List Key}, Rps K dk F vs ds → keysD ds = some ks → vs = ks.map kV
  | _, _, ks, .nil, h => by cases h; rfl
  | _, _, ks, .cons a r, h => by
    obtain ⟨k, h1, h⟩ := bnd h
    obtain ⟨l, h2, rfl⟩ := mpd h
    rw [List.map_cons, ← rps_keys r h2]
    congr 1
    unfold dKey at h1
    split at h1
    · cases h1; cases a; rfl
    · cases h1; cases a; rfl
    · cases h1
theorem kD_rps : ∀ ks : List Key, Rps K dk F (ks.map kV) (ks.map kD)
  | [] => .nil
  | .inl i :: ks => .cons (.int i) (kD_rps ks)
  | .inr x :: ks => .cons (.str x) (kD_rps ks)
theorem if_sortSet {ta : TE} {f : ME} (ha : ImW K ta f) : ImF K (tSortSet K ta) (sortSetM f) := fun dk H0 F0 F σ H env st d st' g e Q q => by
  obtain ⟨⟨x, s1⟩, h1, e⟩ := bnd e
  refine ha dk H0 F0 F σ H env st x s1 g h1 _ fun v F1 H1 x1 g1 r1 => ?_
  have r := r1.dr g1.wd
  dsimp only at e
  generalize dr s1 x = y at e r
  split at e
  · rename_i ds
    obtain ⟨ks, hk, e⟩ := bnd e
    split at e
    · rename_i hG
      cases e
      obtain ⟨p, us, rfl, hp, r2⟩ := r.l g1.wd.sub
      rw [rps_keys r2 hk] at hp
      rw [Bool.and_eq_true, decide_eq_true_eq] at hG
      refine ⟨p, ks, rfl, SqL.of hp, hG.2, hG.1, fun l hl => ?_⟩
      have px : Px F1 H1 F1 (upd H1 l (.lst ((srtK ks).map kV))) := Px.lay g1.wd.sub hl
      exact q l _ F1 _ (x1.trans px.ext) (g1.px px) (x1.back hl) (g1.wd.out hl) upd_same (kD_rps _)
    · cases e
  · cases e
end
end MD

set_option Elab.async false
set_option linter.all false
set_option maxRecDepth 100000
set_option maxHeartbeats 1000000
namespace MD
open PySem PySem.Spec PyProof.Rows L2
variable {ww : WW}
/-! ### dicts with nested keys: d[k], d.get(k), len(d), {} -/
def getN : List D → List D → NestedKey → Option D
  | x :: ks, y :: ds, k => if nkOf x = some k then some y else getN ks ds k
  | _, _, _ => none
section
variable {K : Fg} {dk : Dk} {F : Fz} {H : Hp} {st : S}
theorem getN_at : ∀ {zs : Zs} {ks ds : List D} {vs : List V} (k : NestedKey), ks.map nkOf = zs.map (fun z => some z.1) → Vals vs (zs.map fun z => z.2.2) → Rps K dk F vs ds →
    (∀ d, getN ks ds k = some d → ∃ p v, atKey zs k = some p ∧ RelV v p.2 ∧ Rp K dk F v d) ∧ (getN ks ds k = none → atKey zs k = none)
  | [], [], _, _, k, _, _, _ => ⟨fun d h => (by cases h), fun _ => rfl⟩
  | [], _ :: _, _, _, k, e, _, _ => by cases e
  | _ :: _, [], _, _, k, e, _, _ => by cases e
  | z :: zs, x :: ks, _, v0 :: vs, k, e, .cons a b, .cons c f => by
    rw [List.map_cons, List.map_cons] at e
    injection e with e1 e2
    obtain ⟨i1, i2⟩ := getN_at k e2 b f
    unfold getN atKey
    rw [List.find?_cons]
    by_cases h : z.1 = k
    · rw [e1, if_pos (by rw [h])]
      simp only [h, decide_true]
      exact ⟨fun d hd => (by cases hd; exact ⟨z.2, v0, rfl, a, c⟩), fun hd => (by cases hd)⟩
    · rw [e1, if_neg (fun q => h (Option.some.inj q))]
      simp only [h, decide_false]
      exact ⟨i1, i2⟩
end
def tNGet [WW] (K : Fg) (td ty : TE) : TE := fun σ H Q => td σ H fun x H1 => ty σ H1 fun y H2 => ∃ b c k zs p v, x = .ref c ∧ y = .ref b ∧ Nk K H2 k (.ref b) ∧ k.depth ≤ 8 ∧ NkD K H2 c zs ∧ atKey zs k = some p ∧ RelV v p.2 ∧ Q v H2
def tNGet1 [WW] (K : Fg) (td ty : TE) : TE := fun σ H Q => td σ H fun x H1 => ∃ c, x = .ref c ∧ (∃ zs, NkD K H1 c zs) ∧ ty σ H1 fun y H2 => ∃ b k zs v, y = .ref b ∧ Nk K H2 k (.ref b) ∧ k.depth ≤ 8 ∧ NkD K H2 c zs ∧
  RelV v (((atKey zs k).map (·.2)).getD .none) ∧ Q v H2
section
variable {X : Cx} {o i e : Expr} {pos apos cpos : Pos} {td ty : TE}
theorem pe_nget (hu : X.A.units + 64 < cLine) (hw : X.w = WW.w) (ho : PE X o td) (hi : PE X i ty) (hs : NoSl i := by intro _ _; rfl) : PE X (.Subscript o i pos) (tNGet X.K td ty) := by
  refine ⟨fun pins s σ H Q I h => ?_⟩
  refine subD_of PySem.F.slot_dict_getitem.lookup hs (thn (ho.run pins s σ H _ I h) fun u s1 ⟨x, H1, I1, rx, q1⟩ => thn (hi.run pins s1 σ H1 _ I1 q1) fun iv s2 ⟨y, H2, I2, ry, b, c, k, zs, p, v, ex, ey, hk, hd, dd, hp, rv, q2⟩ => ?_)
  subst ex ey
  obtain rfl : u = Value.ref c := rx
  obtain rfl : iv = Value.ref b := ry
  obtain ⟨d1, d2, d3⟩ := dd.dict hw I2
  exact ⟨d1.typeIs, wpAny_getItem_heap (room_nk hu) ⟨Nk.is I2 hk rfl, hd⟩ d1 hp ⟨v, H2, I2.tok _, rv, q2⟩⟩
theorem pe_nget1 (hu : X.A.units + 64 < cLine) (hw : X.w = WW.w) (ho : PE X o td) (he : PE X e ty) (m : M1 X o "get" apos e cpos) : PE X (.Call (.Attribute o "get" apos) [e] [] cpos) (tNGet1 X.K td ty) := by
  refine ⟨fun pins s σ H Q I h => ?_⟩
  refine wpAny_Call_method m.base m.few m.line PySem.F.plainAttrs_dict PySem.F.slot_dict_get PySem.F.type_dict_get (thn (ho.run pins s σ H _ I h) fun u s1 ⟨x, H1, I1, rx, c, ex, d, q1⟩ => ?_)
  subst ex
  obtain rfl : u = Value.ref c := rx
  obtain ⟨zs, dd⟩ := d
  obtain ⟨d1, d2, d3⟩ := dd.dict hw I1
  refine ⟨d1.typeIs, fun b q => ?_, ?_⟩
  · cases q
    obtain ⟨ob, _, _, h1, h2, _⟩ := d1
    exact ⟨ob, h1, h2.2.1⟩
  rw [m.trees]
  refine Calls.callWith_builtin rfl (Calls.evalArgs_plain (Calls.spliced_cons (thn (he.run pins s1 σ H1 _ I1 q1) fun iv s2 ⟨y, H2, I2, ry, b, k, zs2, v, ey, hk, hd, dd2, rv, q2⟩ => Calls.spliced_nil ?_)))
  subst ey
  obtain rfl : iv = Value.ref b := ry
  obtain ⟨g1, g2, g3⟩ := dd2.dict hw I2
  exact call_meetsIn PySem.F.slot_dict_get g1.typeIs PySem.F.entry_dict_get (PySem.F.args_dict_get_2 _ _) (meetsH_dict_get (nestedKind X.prog X.w) c b g2) ⟨room_nk hu, k, zs2, ⟨Nk.is I2 hk rfl, hd⟩, g1, ⟨v, H2, I2.tok _, rv, q2⟩⟩
end
def rLenN [WW] (K : Fg) : List V → Hp → VK → Prop := fun xs H Q => ∃ c zs, xs = [.ref c] ∧ NkD K H c zs ∧ Q (.int ((zs.length : Nat) : Int)) H
theorem call_lenN {X : Cx} (hw : X.w = WW.w) : CallR X (.builtin "len") (rLenN X.K) := by
  intro pins s σ H xs us Q I r h
  obtain ⟨c, zs, rfl, dd, q⟩ := h
  rw [Vals.ref1 r]
  obtain ⟨d1, d2, d3⟩ := dd.dict hw I
  exact call_len_dictH d2 d1 (by rw [sizeLine_eq] at d3; omega) ⟨.int ((zs.length : Nat) : Int), H, I.tok _, ⟨_, rfl⟩, q⟩
/-- {}, for the store -/
def tNewN [WW] : TE := fun σ H Q => ∀ p, H p = none → Q (.ref p) (upd H p (.ext (NkAt p [])))
theorem pe_newN {X : Cx} {pos : Pos} (hw : X.w = WW.w) : PE X (.Dict [] [] pos) tNewN := by
  refine ⟨fun pins s σ H Q I q => ?_⟩
  have hn := I.hok.fresh (Nat.le_refl s.heap.objs.size)
  have hsys : (s.heap.objs.size == sysModules) = false := (dk_empty (P := X.prog) (w := X.w) (H := H) s.heap I.big).2.1
  have I1 := I.laid (a := s.heap.objs.size) (o := .ext (NkAt s.heap.objs.size [])) (h' := s.heap.push { cls := .type "dict", data := .dict #[] }) (t' := s.toks) (fun _ _ q => Heap.get?_push_of_some _ q) (Nat.le_refl _)
    (nk_ok hsys (Nat.zero_le _) hw (Heap.DictOfH.new (knd := nestedKind X.prog X.w) s.heap))
  exact wpAny_Dict_empty ⟨.ref s.heap.objs.size, _, I1, rfl, q _ hn⟩
section
variable {K : Fg}
def ngetM (fd fk : ME) : ME := fun env st => (fd env st).bind fun p => (fk env p.2).bind fun q => (refOf p.1).bind fun n => (nkdAt q.2 n).bind fun z => (nkT q.1).bind fun k => if k.depth ≤ 8 then (getN z.1 z.2 k).map fun d => (d, q.2) else none
theorem im_nget {td ty : TE} {fd fk : ME} (hd : Im K td fd) (hk : Im K ty fk) : Im K (tNGet K td ty) (ngetM fd fk) := fun dk H0 F0 F σ H env st d st' g e Q q => by
  obtain ⟨⟨x, s1⟩, e1, e⟩ := bnd e
  obtain ⟨⟨y, s2⟩, e2, e⟩ := bnd e
  obtain ⟨n, e3, e⟩ := bnd e
  obtain ⟨z, e4, e⟩ := bnd e
  obtain ⟨k, e5, e⟩ := bnd e
  split at e
  · rename_i hz
    obtain ⟨d', e6, e⟩ := mpd e
    cases e
    refine hd dk H0 F0 F σ H env st x s1 g e1 _ fun v F1 H1 x1 g1 r1 => ?_
    refine hk dk H0 F0 F1 σ H1 env s1 y s2 g1 e2 _ fun u F2 H2 x2 g2 r2 => ?_
    have hx : x = .ref n := refOf_eq e3
    subst hx
    obtain ⟨a, rfl, ha⟩ := r1.refn
    obtain ⟨zs, vs, dd, h2, h3, h4, h5⟩ := g2.wd.nkdAt (x2.f.at ha) e4
    obtain ⟨b, rfl, nk⟩ := r2.nkT g2.wd.sub e5
    obtain ⟨p, w, k1, k2, k3⟩ := (getN_at k h3 h4 h5).1 _ e6
    exact ⟨b, a, k, zs, p, w, rfl, rfl, nk, hz, dd, k1, k2, q w F2 H2 (x1.trans x2) g2 k3⟩
  · cases e
def nget1M (fd fk : ME) : ME := fun env st => (fd env st).bind fun p => (refOf p.1).bind fun n => (nkdAt p.2 n).bind fun _ => (fk env p.2).bind fun q => (nkdAt q.2 n).bind fun z => (nkT q.1).bind fun k => if k.depth ≤ 8 then some ((getN z.1 z.2 k).getD .non, q.2) else none
theorem im_nget1 {td ty : TE} {fd fk : ME} (hd : Im K td fd) (hk : Im K ty fk) : Im K (tNGet1 K td ty) (nget1M fd fk) := fun dk H0 F0 F σ H env st d st' g e Q q => by
  obtain ⟨⟨x, s1⟩, e1, e⟩ := bnd e
  obtain ⟨n, e3, e⟩ := bnd e
  obtain ⟨z0, e0, e⟩ := bnd e
  obtain ⟨⟨y, s2⟩, e2, e⟩ := bnd e
  obtain ⟨z, e4, e⟩ := bnd e
  obtain ⟨k, e5, e⟩ := bnd e
  split at e
  · rename_i hz
    cases e
    refine hd dk H0 F0 F σ H env st x s1 g e1 _ fun v F1 H1 x1 g1 r1 => ?_
    have hx : x = .ref n := refOf_eq e3
    subst hx
    obtain ⟨a, rfl, ha⟩ := r1.refn
    obtain ⟨zs0, vs0, dd0, _⟩ := g1.wd.nkdAt ha e0
    refine ⟨a, rfl, ⟨zs0, dd0⟩, ?_⟩
    refine hk dk H0 F0 F1 σ H1 env s1 y s2 g1 e2 _ fun u F2 H2 x2 g2 r2 => ?_
    obtain ⟨zs, vs, dd, h2, h3, h4, h5⟩ := g2.wd.nkdAt (x2.f.at ha) e4
    obtain ⟨b, rfl, nk⟩ := r2.nkT g2.wd.sub e5
    obtain ⟨i1, i2⟩ := getN_at k h3 h4 h5
    cases hg : getN z.1 z.2 k with
    | some d' =>
      rw [hg] at q
      obtain ⟨p, w, k1, k2, k3⟩ := i1 d' hg
      exact ⟨b, k, zs, w, rfl, nk, hz, dd, by rw [k1]; exact k2, q w F2 H2 (x1.trans x2) g2 k3⟩
    | none =>
      rw [hg] at q
      exact ⟨b, k, zs, .non, rfl, nk, hz, dd, by rw [i2 hg]; rfl, q .non F2 H2 (x1.trans x2) g2 .non⟩
  · cases e
def nlenM (fd : ME) : ME := fun env st => (fd env st).bind fun p => (refOf p.1).bind fun n => (nkdAt p.2 n).map fun z => (.int ((z.1.length : Nat) : Int), p.2)
theorem im_nlen {td : TE} {fd : ME} (hd : Im K td fd) : Im K (tCB (rLenN K) (tCons td tNil)) (nlenM fd) := fun dk H0 F0 F σ H env st d st' g e Q q => by
  obtain ⟨⟨x, s1⟩, e1, e⟩ := bnd e
  obtain ⟨n, e3, e⟩ := bnd e
  obtain ⟨z, e4, e⟩ := mpd e
  cases e
  refine hd dk H0 F0 F σ H env st x s1 g e1 _ fun v F1 H1 x1 g1 r1 => ?_
  have hx : x = .ref n := refOf_eq e3
  subst hx
  obtain ⟨a, rfl, ha⟩ := r1.refn
  obtain ⟨zs, vs, dd, h2, h3, h4, h5⟩ := g1.wd.nkdAt ha e4
  have hl : zs.length = z.1.length := by
    have := congrArg List.length h3
    simpa using this.symm
  refine ⟨a, zs, rfl, dd, ?_⟩
  rw [hl]
  exact q _ F1 H1 x1 g1 (.int _)
def stoN0 : ME := fun env st => some (.ref st.ob.length, st.ad (.nkd [] []))
theorem im_stoN0 : Im K tNewN stoN0 := fun dk H0 F0 F σ H env st d st' g e Q q => by
  cases e
  intro p hp
  have nd := g.nedk hp
  have px : Px F H F (upd H p (.ext (NkAt p []))) := Px.lay g.wd.sub hp
  have fp := g.wd.out hp
  have no := g.noown hp
  refine q (.ref p) _ _ (px.ext.ad hp) ((g.px px).ad upd_same fp (g.fresh0 hp) nd.1 nd.2 no ?_) (.ref (ad_at (g.px px).wd p))
  exact .nkd (zs := []) (vs := []) upd_same .nil rfl .nil .nil (by simp) fun z hz => nomatch hz
end
end MD

set_option Elab.async false
set_option linter.all false
set_option maxRecDepth 100000
set_option maxHeartbeats 1000000
namespace MD
open PySem PySem.Spec PyProof.Rows L2
variable {ww : WW}
/-! ### C.m(x, ..), a def read off its class -/
structure BRead (K : Fg) (C : Addr) (m : Str) (f : Addr) : Prop where
  rd : PySem.W.readsIn K C (.type "type") = true
  ga : PySem.W.specialIn K (.ref C) "__getattribute__" = some (some (.builtin "type.__getattribute__"))
  at_ : PySem.W.findCls K (.ref C) (.type "type") m = some (.val (.ref f))
  kp : PySem.W.keepIn K (.ref f) = true
def CalU (P : Program) (w : World) (K : Fg) (mg : Str → Option Value) (base : Heap) (k : Nat) (c m : Str) (ps : List Str) (sp : Sp) : Prop :=
  ∃ C : Addr, mg c = some (.ref C) ∧ ∃ f fd, FnG P w K mg base k f fd ps sp ∧ BRead K C m f ∧ Binds K fd ps []
theorem calU_mk {P : Program} {w : World} {K : Fg} {mg : Str → Option Value} {base : Heap} {k : Nat} {c m : Str} {ps : List Str} {sp : Sp} {C f : Addr} {fd : FuncData} (hm : mg c = some (.ref C)) (F : FnG P w K mg base k f fd ps sp) (M : BRead K C m f) (b : Binds K fd ps []) : CalU P w K mg base k c m ps sp :=
  ⟨C, hm, f, fd, F, M, b⟩
section
variable {X : Cx} {j k : Nat} {c m : Str} {ps : List Str} {sp : Sp} {p pos apos : Pos} {e : Expr} {es : List Expr} {t : TA}
theorem pe_baseC {pl : Sem Bool} (C : CalU X.prog X.w X.K X.mg X.base j c m ps sp) (hr : Room k X.A) (gd : X.A.guards = some []) (hg : Gl X c) (ha : PA X (e :: es) t) (hj : j ≤ k := by decide) (hdb : (c == ("__debug__" : Str)) = false := by decide)
    (hst : starEach (e :: es) X.env = (false, eval e X.env) :: starEach es X.env := by rfl) (hpl : (backTo pos (starEach es X.env)).any (·.1) = false := by rfl)
    (ht : eval (.Call (.Attribute (.Name c p) m apos) (e :: es) [] pos) X.env = (do
      let ov ← eval (.Name c p) X.env
      standAt apos.atName
      let (f, first) ← holding [ov] (getMethod ov m pl)
      callWith pos f first (backTo pos (starEach (e :: es) X.env)) (backToKw pos (keywordEach [] X.env))) := by rfl) :
    PE X (.Call (.Attribute (.Name c p) m apos) (e :: es) [] pos) (tCall sp [] E0 t) := by
  obtain ⟨C, hm, f, fd, F, M, hb⟩ := C
  refine ⟨fun pins s σ H Q I h => ?_⟩
  refine PySem.W.methodCall_KW (pl := pl) (ld_glob I hg hm ?_ hdb) ht
  refine PySem.W.method_cls I.kIn M.ga (PySem.W.cls_value I.kIn M.rd M.at_ rfl ?_)
  have I1 : L2.Inv X pins σ H { s with toks := s.toks + 1 } := I.tok _
  refine PySem.W.callWith_K (first := []) (h₀ := X.base) I1.ok.mod.kin M.kp (thn (ha.run pos pins _ σ H _ I1 h) fun us s2 q0 => ?_) hst hpl
  obtain ⟨vs, H2, I2, r, q⟩ := q0
  rw [List.append_nil] at q
  exact ⟨I2.kIn, runG F (hr.mono hj) gd hb I2 r q⟩
end
end MD

set_option Elab.async false
set_option linter.all false
set_option maxRecDepth 100000
set_option maxHeartbeats 1000000
namespace MD
open PySem PySem.Spec PyProof.Rows L2
variable {ww : WW}
/-! ### for k in d, d a dict with nested keys -/
def Itnk [WW] (d : Addr) (o : Obj) (zs : Zs) : It :=
  ⟨fun i H => H d = some (.frz o (.ext (NkAt d zs))) ∧ i < zs.length, fun i H x H' => H' = H ∧ ∃ z, zs[i]? = some z ∧ x = .ref z.2.1, fun i H => H d = some (.frz o (.ext (NkAt d zs))) ∧ zs.length ≤ i⟩
section
variable {X : Cx} {pins : List (Addr × Obj)} {σ : L2.St} {H : Hp} {s : Shared} {d : Addr} {o : Obj} {zs : Zs}
theorem frzN (I : L2.Inv X pins σ H s) (h : H d = some (.frz o (.ext (NkAt d zs)))) :
    (d == sysModules) = false ∧ s.heap.get? d = some o ∧ o.ExactDict ∧ ∃ (es : Array DictEntry) (ep : Nat), o.data = .dict es ep ∧ es.size = zs.length ∧ ∀ (i : Nat) z, zs[i]? = some z → ∃ en : DictEntry, es[i]? = some en ∧ en.key = .ref z.2.1 := by
  obtain ⟨hd, ⟨hs, hl, o', es, ep, ho, hx, hdt, he⟩, _, _⟩ := I.hok d _ h
  rw [hd] at ho
  cases ho
  have h1 := he
  have hz : es.size = zs.length := by rw [← Array.length_toList, h1, List.length_map]
  refine ⟨hs, hd, hx, es, ep, hdt, hz, fun i z hi => ⟨nent WW.w z, ?_, rfl⟩⟩
  rw [← Array.getElem?_toList, h1, List.getElem?_map, hi]
  rfl
end
section
variable {P : Program} {w : World} {K : PySem.W.Frag} {tg : Expr} {d : Addr} {o : Obj} {es : Array DictEntry} {ep : Nat} {zs : Zs}
theorem turn_nk (it : Addr) (hod : o.data = .dict es ep) : Turn P w K tg (Itnk d o zs) [it] it (fun i h => h.IsKeyIter it d i zs.length ep) where
  mem := by simp
  obj := fun i h st b hb => by
    have e : b = it := by simpa using hb
    subst e
    obtain ⟨oi, e, c, dd⟩ := st
    exact ⟨oi, e, fun v z => by rw [dd] at z; cases z⟩
  keep := fun i h h' st k => st.at fun oi e => k it (by simp) oi e
  item := by
    intro X hP hw hK hc i pins s σ H E I hf st hg
    subst hP hw hK
    obtain ⟨hd, hi⟩ := hg
    obtain ⟨f0, f1, f2, f3, f4, f5⟩ := hf it (by simp)
    obtain ⟨hs, hgd, hx, es', ep', hdt, hsz, ent⟩ := frzN I hd
    obtain ⟨rfl, rfl⟩ := dict_ep hod hdt
    have hz : zs[i]? = some zs[i] := List.getElem?_eq_getElem hi
    obtain ⟨en, hen, hkey⟩ := ent i _ hz
    refine next_key_item st hgd hdt hsz hen fun h' st' sb => ?_
    have I1 : L2.Inv X pins σ H { s with heap := h' } := I.turned (t' := s.toks) (fun b ob hb e => (sb.2 b hb).trans e) f0 f1 f3 f4 f5
    obtain ⟨oi, e, c, dd⟩ := id st'
    exact ⟨en.key, rfl, go_of (s := { s with heap := h' }) e c dd (by decide) ⟨.ref zs[i].2.1, H, I1, hkey, ⟨rfl, zs[i], hz, rfl⟩, st', fun b hb => (hf b hb).1⟩⟩
  done := by
    intro X hP hw hK hc i pins s σ H E I hf st hg
    subst hP hw hK
    obtain ⟨hd, hi⟩ := hg
    obtain ⟨f0, f1, f2, f3, f4, f5⟩ := hf it (by simp)
    obtain ⟨hs, hgd, hx, es', ep', hdt, hsz, ent⟩ := frzN I hd
    obtain ⟨rfl, rfl⟩ := dict_ep hod hdt
    exact next_key_end (I.ok.hd hc) st hgd hdt hsz hi fun h' eb => ⟨rfl, I.turned (t' := s.toks) (fun b ob hb e => eb b ob hb e) f0 f1 f3 f4 f5⟩
  self := fun A i s Q E st h => by
    refine wpAny_pyIter_slot st.typeIs F.slot_dict_keyiterator_iter (wpAny_call_entry F.slot_dict_keyiterator_iter st.typeIs F.entry_dict_keyiterator_iter ?_ (F.args_dict_keyiterator_iter_1 _))
    show wpAny _ _ (ret (.ref it)) _ _ s
    exact wpAny_pure ⟨_, rfl, "dict_keyiterator", _, st.typeIs, F.slot_dict_keyiterator_next.lookup, h⟩
end
def iKeysN [WW] (td : TE) : TI := fun σ H R => td σ H fun x H1 => ∃ d o zs, x = .ref d ∧ H1 d = some (.frz o (.ext (NkAt d zs))) ∧ R (Itnk d o zs) H1
theorem pi_keysN {X : Cx} {tg e : Expr} {td : TE} (he : PE X e td) : PI X tg e (iKeysN td) := by
  refine ⟨fun pins s σ H R I h => ?_⟩
  refine thn (he.run pins s σ H _ I h) fun u s1 ⟨x, H1, I1, rx, d, o, zs, ex, hd, q⟩ => ?_
  subst ex
  obtain rfl : u = Value.ref d := rx
  obtain ⟨hs, hgd, hx, es, ep, hdt, hsz, ent⟩ := frzN I1 hd
  refine iter_keys hs hgd hx hdt (pi_one (tk := s1.toks) I1 _ (turn_nk _ hdt) ⟨_, Heap.get?_push_size _ rfl, rfl, ?_⟩ q)
  rw [hsz] <;> rfl
section
variable {K : Fg} {dk : Dk} {F F' F0 : Fz} {H H' H0 : Hp} {σ : L2.St} {env : Sg} {st st' st'' : S}
/-- an expression that only looks, whatever dict is locked -/
def PthN [WW] (K : Fg) (te : TE) (f : ME) : Prop := ∀ (dk : Dk) (H0 : Hp) (F0 F : Fz) (σ : L2.St) (H : Hp) (env : Sg) (st : S) (d : D) (st' : S), Good K dk H0 F0 F σ H env st → f env st = some (d, st') →
  st' = st ∧ ∃ v, Rp K dk F v d ∧ ∀ (a : Addr) (od : Obj) (φ : Heap → Prop), H a = some (.ext φ) → ∀ Q : VK, Q v (upd H a (.frz od (.ext φ))) → te σ (upd H a (.frz od (.ext φ))) Q
theorem pthn_var (i : Nat) : PthN K (tVar i) (rd i) := fun dk H0 F0 F σ H env st d st' g e => by
  unfold rd at e
  split at e
  · rename_i d' he
    cases e
    obtain ⟨v, h1, h2⟩ := g.sl i _ he
    exact ⟨rfl, v, h2, fun a od φ _ Q q => ⟨v, join_eq h1, q⟩⟩
  · cases e
theorem pthn_fld {cs fl : List Str} {f : Str} {to : TE} {fo : ME} (hc : ∀ c ∈ cs, ClsOk K c fl) (hf : f ∈ fl) (hp : PthN K to fo) : PthN K (tFld K to f) (fldM cs f fo) := fun dk H0 F0 F σ H env st d st' g e => by
  obtain ⟨⟨x, s1⟩, e1, e⟩ := bnd e
  obtain ⟨n, e2, e⟩ := bnd e
  obtain ⟨z, e3, e⟩ := bnd e
  obtain ⟨d', e4, e⟩ := mpd e
  cases e
  obtain ⟨es, v, r, q2⟩ := hp dk H0 F0 F σ H env st x _ g e1
  have es' : s1 = st := es
  subst es'
  have hx : x = .ref n := refOf_eq e2
  subst hx
  obtain ⟨a, rfl, ha⟩ := r.refn
  obtain ⟨C, dx, vs, h1, h2, h3, h4⟩ := g.wd.insAt ha e3
  obtain ⟨u, h5, h6⟩ := lookF_rp h3 h4 e4
  have ok := hc _ (insAt_eq e3).2
  refine ⟨rfl, u, h6, fun b od φ hb Q q => q2 b od φ hb _ ⟨a, C, dx, _, u, rfl, ?_, ok.cl C h1, ok.no C h1 f hf, h5, q⟩⟩
  rw [upd_ne (fun z => by rw [z, hb] at h2; cases h2)]
  exact h2
def lckN (st : S) (n : Nat) : S := match st.ob[n]? with
  | some (.nkd ks ds) => st.put n (.nkl ks ds)
  | _ => st
def unlN (st : S) (n : Nat) : S := match st.ob[n]? with
  | some (.nkl ks ds) => st.put n (.nkd ks ds)
  | _ => st
def forN (f : ME) (t : MG) (b : MS) : MS := fun env st => (f env st).bind fun p => match p.1 with
  | .ref n => match st.ob[n]? with
    | some (.nkd ks _) => (forL t b ks env (lckN st n)).map fun r => (r.1, unlN r.2 n)
    | _ => none
  | _ => none
theorem nfx {φ : Heap → Prop} : ¬ Fro (.ext φ) := by rintro ⟨_, _, z⟩; cases z
theorem Wd.unlNS {n : Nat} {a : Addr} {od : Obj} {zs : Zs} (w : Wd K dk F H st) (hn : F.mu[n]? = some a) (ha : H a = some (.frz od (.ext (NkAt a zs)))) : Wd K dk F (L2.upd H a (.ext (NkAt a zs))) (unlN st n) := by
  have hlt : n < st.ob.length := by rw [← w.ml]; exact mu_lt hn
  obtain ⟨q1, q2⟩ := w.ob n a _ hn (List.getElem?_eq_getElem hlt)
  unfold unlN
  rw [List.getElem?_eq_getElem hlt]
  generalize st.ob[n] = o at q2
  cases q2 with
  | lst h r => rw [ha] at h; cases h
  | dic h l r => rw [ha] at h; cases h
  | lck h l r => rw [ha] at h; cases h
  | ins c h l r => rw [ha] at h; cases h
  | nkd h _ _ _ _ _ _ => rw [ha] at h; cases h
  | @nkl od' zs' vs ks ds h k q v r nn dd =>
    rw [ha] at h
    have h2 : (HO.ext (NkAt a zs)) = .ext (NkAt a zs') := by
      injection h with h
      injection h with _ h
    rw [h2]
    exact w.put hn (.nkd upd_same k q v r nn dd)
theorem is_forN {te : TE} {f : ME} {g : TG} {tb : TS} {t : MG} {b : MS} {is : List Nat} (hp : PthN K te f) (hg : ImG K g t is) (hb : ImS K tb b) : ImS K (tLock (tFor (iKeysN te) g tb)) (forN f t b) := fun dk H0 F0 F σ H env st fl st' gd e E hd => by
  obtain ⟨⟨d, s1⟩, e1, e⟩ := bnd e
  obtain ⟨es, v, r, q2⟩ := hp dk H0 F0 F σ H env st d s1 gd e1
  dsimp only at e
  split at e
  · rename_i n
    cases r with
    | @ref a _ hn =>
      have hm := List.mem_of_getElem? hn
      obtain ⟨n1, n2⟩ := gd.wd.ndk hm
      have no : ∀ (i : Nat) (ds : Own), env[i]? = some (.own ds) → σ[i]? ≠ some (some (.ref a)) := fun i ds hi hs => by
        obtain ⟨p, _, h1, _, h3, _⟩ := gd.sl i _ hi
        rw [hs] at h1
        cases h1
        exact h3.2 hm
      split at e
      · rename_i ks ds ho
        obtain ⟨⟨fl2, s2⟩, e2, e⟩ := mpd e
        cases e
        obtain ⟨_, ob⟩ := gd.wd.ob n a _ hn ho
        cases ob with
        | @nkd zs vs _ _ hH k q vv rr nn dd =>
          refine ⟨a, _, hH, trivial, fun od => ?_⟩
          have wl : Wd K dk F (L2.upd H a (.frz od (.ext (NkAt a zs)))) (lckN st n) := by
            unfold lckN
            rw [ho]
            exact gd.wd.put hn (.nkl upd_same k q vv rr nn dd)
          have gl := gd.lock (od := od) no wl
          have hlen : zs.length = ks.length := by
            have := congrArg List.length q
            simpa using this.symm
          refine q2 a od _ hH _ ⟨a, od, zs, rfl, upd_same, ?_⟩
          refine for_core hg hb gl (fun F2 σ2 H2 env2 st2 le g2 i => ?_) e2 (Dn.unlock gd hH nfx (fun F' H' w le hf => w.unlNS (le.at hn) hf) n1 n2 hd) _ id
          have hs := gl.stays upd_same g2
          refine ⟨fun d hd => ?_, fun h => ⟨hs, by rw [hlen]; exact h⟩⟩
          obtain ⟨v, h1, h2⟩ := (k.mono le).get hd
          have hi : i < zs.length := by
            rw [hlen]
            exact (List.getElem?_eq_some_iff.mp hd).1
          refine ⟨⟨hs, hi⟩, fun x H3 hx => ?_⟩
          obtain ⟨rfl, z, hz, rfl⟩ := hx
          rw [List.getElem?_map, hz] at h1
          cases h1
          exact ⟨F2, Px.refl g2.wd.sub, h2⟩
      · cases e
  · cases e
end
end MD

set_option Elab.async false
set_option linter.all false
set_option maxRecDepth 100000
set_option maxHeartbeats 1000000
namespace MD
open PySem PySem.Spec PyProof.Rows L2
variable {ww : WW}
/-! ### x += y of texts -/
def tipS : TIp := fun x y H Q => ∃ i j, x = .str i ∧ y = .str j ∧ i.length + j.length ≤ sizeLine ∧ Q (.str (i ++ j)) H
theorem ip_addS {X : Cx} : PIp X .Add tipS := fun pins s σ H x y v u Q I r1 r2 h => iop_add_str pins s σ H x y v u Q I r1 r2 h
def addS : D → D → Option D
  | .str i, .str j => if i.length + j.length ≤ sizeLine then some (.str (i ++ j)) else none
  | _, _ => none
theorem ro_addS {K : Fg} : RO K tipS addS := by
  intro dk F H st x y d e z w rx ry hz Q q
  unfold addS at hz
  split at hz
  · exact ro_strCat dk F H st x y _ _ z w rx ry hz Q q
  · cases hz
end MD

set_option Elab.async false
set_option linter.all false
set_option maxRecDepth 100000
set_option maxHeartbeats 1000000
namespace MD
open PySem PySem.Spec PyProof.Rows L2
variable {ww : WW}
/-! ### o.C, a text constant of the class of o -/
structure ConOk (K : Fg) (c f x : Str) : Prop where
  of : ∀ C, clsOf K c = some C → ∃ u, Con K C f (.str x) u
theorem conOk_mk {K : Fg} {c f x : Str} {C : Addr} {t : Tok} (h : PySem.W.nsIn K mainGlobals c = some (some (.ref C))) (ha : PySem.W.findIn K (.ref C) f = some (some (.str x t))) (hg : PySem.W.specialIn K (.str x t) "__get__" = some none) (hc : PySem.W.copiedNames.contains f = false) : ConOk K c f x := by
  have e : clsOf K c = some C := by unfold clsOf; rw [h]
  refine ⟨fun C' h' => ?_⟩
  rw [e] at h'
  cases h'
  exact ⟨_, ⟨ha, ⟨t, rfl⟩, hg, hc⟩⟩
def conM (c f x : Str) (fo : ME) : ME := fun env st => (fo env st).bind fun p => (refOf p.1).bind fun n => (insAt [c] p.2 n).bind fun z => if f ∈ z.2.1 then none else some (.str x, p.2)
theorem im_con {K : Fg} {c f x : Str} {fl : List Str} {to : TE} {fo : ME} (hc : ClsOk K c fl) (hk : ConOk K c f x) (ho : Im K to fo) : Im K (tCon K to f) (conM c f x fo) := fun dk H0 F0 F σ H env st d st' g e Q q => by
  obtain ⟨⟨y, s1⟩, e1, e⟩ := bnd e
  obtain ⟨n, e2, e⟩ := bnd e
  obtain ⟨z, e3, e⟩ := bnd e
  split at e
  · cases e
  · rename_i hf
    cases e
    refine ho dk H0 F0 F σ H env st y s1 g e1 _ fun v F1 H1 x1 g1 r1 => ?_
    have hx : y = .ref n := refOf_eq e2
    subst hx
    obtain ⟨a, rfl, ha⟩ := r1.refn
    obtain ⟨C, dx, vs, h1, h2, h3, h4⟩ := g1.wd.insAt ha e3
    have hc1 : z.1 = c := List.mem_singleton.mp (insAt_eq e3).2
    rw [hc1] at h1
    obtain ⟨u, hu⟩ := hk.of C h1
    exact ⟨a, C, dx, _, _, u, rfl, h2, hc.cl C h1, hu, look_none hf, q (.str x) F1 H1 x1 g1 (.str x)⟩
end MD

set_option Elab.async false
set_option linter.all false
set_option maxRecDepth 100000
set_option maxHeartbeats 1000000
namespace MD
open PySem PySem.Spec PyProof.Rows L2
variable {ww : WW}
/-! ### x.extend(t), x a name's own list, t a tuple -/

theorem list_extend_tup (l : Addr) (items : Array Value) (n : Nat) (b : Addr) (items2 : Array Value) (n2 : Nat) (dd : Option Addr) (sl : Array (Option Value)) (hs0 : ¬(!items.isEmpty && Builtin.List.listTooLong (items.size + items2.size)) = true) (hs1 : items.size ≤ sizeLine) (hs2 : items.size + items2.size ≤ sizeLine + 1) :
    Meets (Builtin.«list.extend» ⟨[.ref l, .ref b], []⟩) (fun _ R s => s.heap.get? l = some { cls := .type "list", dict := none, data := .seq items n, slots := #[] } ∧ s.heap.get? b = some { cls := .type "tuple", dict := dd, data := .seq items2 n2, slots := sl } ∧ R (.ok (.ret Value.none)) { s with heap := s.heap.update l (Obj.mapSeq fun x => x ++ items2), toks := s.toks }) :=
  .of_wp fun prog w A R s h => by
    obtain ⟨hp, g, d, tk, os⟩ := s; obtain ⟨hl, hb, h⟩ := h; have f1 := AutoSeq1.idx_int; have f2 := AutoSeq1.sub_tuple_tuple; have f3 := AutoSeq1.sub_list_list; have f4 := AutoSeq1.sub_tuple_list; have f5 := AutoSeq1.sub_list_tuple;
    have hz' : (items ++ items2).size ≤ sizeLine + 1 := by rw [Array.size_append]; exact hs2
    wp_walk using (wpAny_updateSeq hl rfl (hz := hs1) (_hz' := hz')), AutoSeq1.wpAny_loadPart' hl, AutoSeq1.wpAny_loadPart' hb; exact ⟨_, rfl, h⟩
def rExtT (K : Fg) : V → List V → Hp → VK → Prop := fun x vs H Q => ∃ l b xs zs, x = .ref l ∧ vs = [.ref b] ∧ H l = some (.lst xs) ∧ SqT K H b zs ∧ xs.length + zs.length ≤ sizeLine ∧ Q .non (upd H l (.lst (xs ++ zs)))
theorem mt_extT {X : Cx} : MtM X "list.extend" (rExtT X.K) := by
  intro pins s σ H x vs v us Q I rx rv h
  obtain ⟨l, b, xs, zs, rfl, rfl, hH, hB, hz, q⟩ := h
  cases rx
  obtain ⟨u, rfl, ru⟩ := rv.one
  cases ru
  obtain ⟨z, its, n, r, hl, e⟩ := I.lstM hH
  obtain ⟨its2, r2, ⟨⟨cl, dd, da, sl⟩, e2, hc, n2, hd⟩, hl2⟩ := I.tuple hB
  cases hc
  cases hd
  have e9 := r2.length
  have hsz : its.toArray.size + its2.toArray.size ≤ sizeLine := by rw [List.size_toArray, List.size_toArray]; omega
  have hlong : ¬ (!its.toArray.isEmpty && Builtin.List.listTooLong (its.toArray.size + its2.toArray.size)) = true := by
    rw [notLongL hsz, Bool.and_false]
    exact Bool.false_ne_true
  refine call_meets F.slot_list_extend ⟨_, e, rfl⟩ F.entry_list_extend (F.args_list_extend_2 _ _)
    (list_extend_tup l its.toArray n b its2.toArray n2 dd sl hlong (by rw [List.size_toArray]; omega) (by omega)) ⟨e, e2, ?_⟩
  refine ⟨.non, _, I.lset (its' := its ++ its2) hH e (by simp) (r.append r2) ?_, rfl, q⟩
  rw [List.length_append]
  omega
section
variable {K : Fg}
def tupOf : D → Option (List D)
  | .tup ds => some ds
  | _ => none
theorem tupOf_eq {d : D} {ds : List D} (h : tupOf d = some ds) : d = .tup ds := by
  cases d <;> first | (cases h; rfl) | cases h
def extTM (i : Nat) (f : ME) : MS := fun env st => match env[i]? with
  | some (.own (.lst, ds)) => (f env st).bind fun p => (tupOf p.1).bind fun es => if ds.length + es.length ≤ sizeLine then some (.nx (env.set i (.own (.lst, ds ++ es))), p.2) else none
  | _ => none
theorem is_extT {te : TE} {f : ME} (i : Nat) (h : Im K te f) : ImS K (tDrop (tBM K "list" (rExtT K) (tVar i) (tCons te tNil))) (extTM i f) := fun dk H0 F0 F σ H env st fl st' g e E hd => by
  unfold extTM at e
  split at e
  · rename_i ds he
    obtain ⟨⟨d, s1⟩, e1, e⟩ := bnd e
    obtain ⟨es, e2, e⟩ := bnd e
    split at e
    · rename_i hz
      cases e
      obtain ⟨p, vs, h1, h2, h3, h4, h5, h6, h7⟩ := g.sl i _ he
      refine ⟨.ref p, join_eq h1, .inl ⟨rfl, vs, SqL.of h2⟩, ?_⟩
      refine h dk H0 F0 F σ H env st _ s1 g e1 _ fun v F1 H1 x1 g1 r1 => ?_
      have e3 : d = .tup es := tupOf_eq e2
      subst e3
      cases r1 with
      | tup k1 k2 =>
        refine ⟨p, _, vs, _, rfl, rfl, x1.h _ _ h2 h5 h6 (.inl h3.2), g1.wd.sub.sqT k1, by rw [h7.length, k2.length]; exact hz, ?_⟩
        exact hd F1 σ _ x1.f (g1.mut (ds' := (.lst, _)) he (join_eq h1) upd_same ((h7.mono x1.f).append k2))
    · cases e
  · cases e
end
end MD

set_option Elab.async false
set_option linter.all false
set_option maxRecDepth 100000
set_option maxHeartbeats 1000000
namespace MD
open PySem PySem.Spec PyProof.Rows L2
variable {ww : WW}
/-! ### d.update(e), dicts of the store with nested keys; d is not empty -/
def tNUpd [WW] (K : Fg) (td ty : TE) : TE := fun σ H Q => td σ H fun x H1 => ∃ c, x = .ref c ∧ (∃ zs, NkD K H1 c zs) ∧ ty σ H1 fun y H2 => ∃ o zs ms, y = .ref o ∧ c ≠ o ∧ NkD K H2 c zs ∧ NkD K H2 o ms ∧ zs ≠ [] ∧ zs.length + ms.length ≤ sizeLine ∧
  Q .non (upd H2 c (.ext (NkAt c (storedAllH zs ms))))
theorem storedAll_len (ms zs : Zs) : (storedAllH zs ms).length ≤ zs.length + ms.length := by
  induction ms generalizing zs with
  | nil => exact Nat.le_refl _
  | cons m ms ih =>
    have h1 := ih (storedH zs m.1 m.2.1 m.2.2)
    have h2 := stored_len zs m.1 m.2.1 m.2.2
    show (storedAllH (storedH zs m.1 m.2.1 m.2.2) ms).length ≤ _
    rw [List.length_cons]; omega
section
variable {X : Cx} {o e : Expr} {apos cpos : Pos} {td ty : TE}
theorem pe_nupd (hu : X.A.units + 64 < cLine) (hw : X.w = WW.w) (ho : PE X o td) (he : PE X e ty) (m : M1 X o "update" apos e cpos) : PE X (.Call (.Attribute o "update" apos) [e] [] cpos) (tNUpd X.K td ty) := by
  refine ⟨fun pins s σ H Q I h => ?_⟩
  refine wpAny_Call_method m.base m.few m.line PySem.F.plainAttrs_dict PySem.F.slot_dict_update PySem.F.type_dict_update (thn (ho.run pins s σ H _ I h) fun u s1 ⟨x, H1, I1, rx, c, ex, d, q1⟩ => ?_)
  subst ex
  obtain rfl : u = Value.ref c := rx
  obtain ⟨zs, dd⟩ := d
  obtain ⟨d1, d2, d3⟩ := dd.dict hw I1
  refine ⟨d1.typeIs, fun b q => ?_, ?_⟩
  · cases q
    obtain ⟨ob, _, _, h1, h2, _⟩ := d1
    exact ⟨ob, h1, h2.2.1⟩
  rw [m.trees]
  refine Calls.callWith_builtin rfl (Calls.evalArgs_plain (Calls.spliced_cons (thn (he.run pins s1 σ H1 _ I1 q1) fun iv s2 ⟨y, H2, I2, ry, o, zs2, ms, ey, hne, dd2, de, hz, hl, q2⟩ => Calls.spliced_nil ?_)))
  subst ey
  obtain rfl : iv = Value.ref o := ry
  obtain ⟨g1, g2, g3⟩ := dd2.dict hw I2
  obtain ⟨e1, e2, e3⟩ := de.dict hw I2
  refine call_update_dictH (knd := nestedKind X.prog X.w) (room_nk hu) hne e2 g1 e1 (.inl hz) hl fun h' dd' _ hsb => ⟨.non, _, ?_, rfl, q2⟩
  have he : ∃ q, h'.get? c = some q := let ⟨q, _, _, hq, _⟩ := dd'; ⟨q, hq⟩
  exact d_write I2 (by rw [dd2.h]; exact True.intro) hsb he (nk_ok g2 (by have := storedAll_len ms zs2; omega) hw dd')
end
def updF : List D → List D → List D → List D → List D × List D
  | ks, ds, m :: mk, x :: md => match nkOf m with
    | some k => updF (putNK ks m k) (putNV ks ds k x) mk md
    | none => (ks, ds)
  | ks, ds, _, _ => (ks, ds)
section
variable {K : Fg} {dk : Dk} {F : Fz} {H : Hp}
theorem put_obAt' {zs : Zs} {vs : List V} {ks ds : List D} {k : NestedKey} {b : Addr} {u : Value} {v : V} {d kd : D} (hn0 : (zs.map fun z => z.1).Nodup) (hd0 : ∀ z ∈ zs, z.1.depth ≤ 8) (h2 : Rps K dk F (zs.map fun z => V.ref z.2.1) ks) (h3 : ks.map nkOf = zs.map (fun z => some z.1)) (h4 : Vals vs (zs.map fun z => z.2.2)) (h5 : Rps K dk F vs ds)
    (hk : k.depth ≤ 8) (rk : Rp K dk F (.ref b) kd) (ek : nkOf kd = some k) (rv : RelV v u) (rd : Rp K dk F v d) :
    ∃ vs', ((storedH zs k b u).map fun z => z.1).Nodup ∧ (∀ z ∈ storedH zs k b u, z.1.depth ≤ 8) ∧ Rps K dk F ((storedH zs k b u).map fun z => V.ref z.2.1) (putNK ks kd k) ∧ (putNK ks kd k).map nkOf = (storedH zs k b u).map (fun z => some z.1) ∧ Vals vs' ((storedH zs k b u).map fun z => z.2.2) ∧ Rps K dk F vs' (putNV ks ds k d) := by
  have hh := has_atKey k h3
  have hn := stored_nodup hn0 k b u
  have hdp : ∀ z ∈ storedH zs k b u, z.1.depth ≤ 8 := fun z hz => by
    rcases stored_mem hz with ⟨y, hy, e1, _⟩ | ⟨e1, _⟩
    · rw [e1]; exact hd0 y hy
    · rw [e1]; exact hk
  unfold putNK putNV
  cases hs : hasN ks k with
  | true =>
    have e : storedH zs k b u = zs.map (putAt k u) := by
      unfold storedH
      rw [if_pos (by rw [hh, hs])]
    rw [e] at hn hdp ⊢
    rw [if_pos rfl, if_pos rfl]
    obtain ⟨vs', h6, h7⟩ := put_vals (k := k) rv rd h3 h4 h5
    refine ⟨vs', hn, hdp, by rw [put_refs]; exact h2, ?_, h6, h7⟩
    rw [h3, List.map_map]
    refine List.map_congr_left fun z _ => ?_
    show some z.1 = some (putAt k u z).1
    unfold putAt
    split <;> rfl
  | false =>
    have e : storedH zs k b u = zs ++ [(k, b, u)] := by
      unfold storedH
      rw [if_neg (by rw [hh, hs]; simp)]
    rw [e] at hn hdp ⊢
    rw [if_neg (by simp), if_neg (by simp)]
    exact ⟨_, hn, hdp, by rw [List.map_append]; exact h2.append (Rps.one rk), by rw [List.map_append, List.map_append, h3]; simp [ek], by rw [List.map_append]; exact h4.append (.cons rv .nil), h5.append (Rps.one rd)⟩
theorem updF_ok : ∀ {ms : Zs} {mk md : List D} {mv : List V}, Rps K dk F (ms.map fun z => V.ref z.2.1) mk → mk.map nkOf = ms.map (fun z => some z.1) → (∀ z ∈ ms, z.1.depth ≤ 8) → Vals mv (ms.map fun z => z.2.2) → Rps K dk F mv md →
    ∀ {zs : Zs} {vs : List V} {ks ds : List D}, (zs.map fun z => z.1).Nodup → (∀ z ∈ zs, z.1.depth ≤ 8) → Rps K dk F (zs.map fun z => V.ref z.2.1) ks → ks.map nkOf = zs.map (fun z => some z.1) → Vals vs (zs.map fun z => z.2.2) → Rps K dk F vs ds →
    ∃ vs', ((storedAllH zs ms).map fun z => z.1).Nodup ∧ (∀ z ∈ storedAllH zs ms, z.1.depth ≤ 8) ∧ Rps K dk F ((storedAllH zs ms).map fun z => V.ref z.2.1) (updF ks ds mk md).1 ∧ (updF ks ds mk md).1.map nkOf = (storedAllH zs ms).map (fun z => some z.1) ∧ Vals vs' ((storedAllH zs ms).map fun z => z.2.2) ∧ Rps K dk F vs' (updF ks ds mk md).2
  | [], mk, md, mv, a1, a2, a3, a4, a5, zs, vs, ks, ds, b1, b2, b3, b4, b5, b6 => by
    cases a1
    cases md <;> exact ⟨vs, b1, b2, b3, b4, b5, b6⟩
  | m :: ms, mk, md, mv, a1, a2, a3, a4, a5, zs, vs, ks, ds, b1, b2, b3, b4, b5, b6 => by
    cases a1 with
    | cons r1 r2 =>
      rename_i kd mk
      cases a4 with
      | cons v1 v2 =>
        cases a5 with
        | cons w1 w2 =>
          rename_i x md
          rw [List.map_cons, List.map_cons] at a2
          injection a2 with c1 c2
          obtain ⟨vs', d1, d2, d3, d4, d5, d6⟩ := put_obAt' b1 b2 b3 b4 b5 b6 (a3 m List.mem_cons_self) r1 c1 v1 w1
          have ih := updF_ok r2 c2 (fun z hz => a3 z (List.mem_cons_of_mem _ hz)) v2 w2 d1 d2 d3 d4 d5 d6
          have e : updF ks ds (kd :: mk) (x :: md) = updF (putNK ks kd m.1) (putNV ks ds m.1 x) mk md := by
            show (match nkOf kd with | some k => updF (putNK ks kd k) (putNV ks ds k x) mk md | none => (ks, ds)) = _
            rw [c1]
          rw [e]
          exact ih
def nupdM (fd fo : ME) : ME := fun env st => (fd env st).bind fun p => (refOf p.1).bind fun n => (nkdAt p.2 n).bind fun _ => (fo env p.2).bind fun q => (refOf q.1).bind fun m => (nkdAt q.2 n).bind fun z => (nkdAt q.2 m).bind fun y =>
  if n ≠ m ∧ z.1 ≠ [] ∧ z.1.length + y.1.length ≤ sizeLine then some (.non, q.2.put n (.nkd (updF z.1 z.2 y.1 y.2).1 (updF z.1 z.2 y.1 y.2).2)) else none
theorem im_nupd {td ty : TE} {fd fo : ME} (hd : Im K td fd) (ho : Im K ty fo) : Im K (tNUpd K td ty) (nupdM fd fo) := fun dk H0 F0 F σ H env st d st' g e Q q => by
  obtain ⟨⟨x, s1⟩, e1, e⟩ := bnd e
  obtain ⟨n, e3, e⟩ := bnd e
  obtain ⟨z0, e0, e⟩ := bnd e
  obtain ⟨⟨y, s2⟩, e2, e⟩ := bnd e
  obtain ⟨m, e4, e⟩ := bnd e
  obtain ⟨z, e5, e⟩ := bnd e
  obtain ⟨y0, e6, e⟩ := bnd e
  split at e
  · rename_i hz
    obtain ⟨hnm, hne, hl⟩ := hz
    cases e
    refine hd dk H0 F0 F σ H env st x s1 g e1 _ fun v F1 H1 x1 g1 r1 => ?_
    have hx : x = .ref n := refOf_eq e3
    subst hx
    obtain ⟨a, rfl, ha⟩ := r1.refn
    obtain ⟨zs0, vs0, dd0, _⟩ := g1.wd.nkdAt ha e0
    refine ⟨a, rfl, ⟨zs0, dd0⟩, ?_⟩
    refine ho dk H0 F0 F1 σ H1 env s1 y s2 g1 e2 _ fun u F2 H2 x2 g2 r2 => ?_
    have hy : y = .ref m := refOf_eq e4
    subst hy
    obtain ⟨b, rfl, hb⟩ := r2.refn
    have ha2 := x2.f.at ha
    obtain ⟨zs, vs, dd, k2, k3, k4, k5⟩ := g2.wd.nkdAt ha2 e5
    obtain ⟨ms, mv, de, j2, j3, j4, j5⟩ := g2.wd.nkdAt hb e6
    have hab : a ≠ b := fun z => hnm ((List.getElem?_inj (List.getElem?_eq_some_iff.mp ha2).1 g2.wd.nd).mp (by rw [ha2, hb, z]))
    have l1 : zs.length = z.1.length := by
      have := congrArg List.length k3
      simpa using this.symm
    have l2 : ms.length = y0.1.length := by
      have := congrArg List.length j3
      simpa using this.symm
    obtain ⟨vs', d1, d2, d3, d4, d5, d6⟩ := updF_ok j2 j3 (fun z hz => (de.k z hz).2) j4 j5 dd.n (fun z hz => (dd.k z hz).2) k2 k3 k4 k5
    refine ⟨b, zs, ms, rfl, hab, dd, de, fun h => hne (List.length_eq_zero_iff.mp (by rw [← l1, h]; rfl)), by rw [l1, l2]; exact hl, ?_⟩
    exact q .non F2 _ ((x1.trans x2).put ha2 dd.h (by rintro ⟨_, _, z⟩; cases z) (by rintro ⟨_, _, z⟩; cases z)) (g2.put ha2 dd.h (by rintro ⟨_, _, z⟩; cases z) (.nkd upd_same d3 d4 d5 d6 d1 d2)) .non
  · cases e
end
end MD

set_option Elab.async false
set_option linter.all false
set_option maxRecDepth 100000
set_option maxHeartbeats 1000000
namespace MD
open PySem PySem.Spec PyProof.Rows L2
variable {ww : WW}
/-! ### d.get(k, x), d a dict of the store with nested keys -/
def tNGet2 [WW] (K : Fg) (td ty tz : TE) : TE := fun σ H Q => td σ H fun x H1 => ∃ c, x = .ref c ∧ (∃ zs, NkD K H1 c zs) ∧ ty σ H1 fun y H2 => tz σ H2 fun z H3 => ∃ b k zs v, y = .ref b ∧ Nk K H3 k (.ref b) ∧ k.depth ≤ 8 ∧ NkD K H3 c zs ∧
  (∀ u, RelV z u → RelV v (((atKey zs k).map (·.2)).getD u)) ∧ Q v H3
section
variable {X : Cx} {o e f : Expr} {apos cpos : Pos} {td ty tz : TE}
theorem pe_nget2 (hu : X.A.units + 64 < cLine) (hw : X.w = WW.w) (ho : PE X o td) (he : PE X e ty) (hf : PE X f tz) (m : M2 X o "get" apos e f cpos) : PE X (.Call (.Attribute o "get" apos) [e, f] [] cpos) (tNGet2 X.K td ty tz) := by
  refine ⟨fun pins s σ H Q I h => ?_⟩
  refine wpAny_Call_method m.base m.few m.line PySem.F.plainAttrs_dict PySem.F.slot_dict_get PySem.F.type_dict_get (thn (ho.run pins s σ H _ I h) fun u s1 ⟨x, H1, I1, rx, c, ex, d, q1⟩ => ?_)
  subst ex
  obtain rfl : u = Value.ref c := rx
  obtain ⟨zs, dd⟩ := d
  obtain ⟨d1, d2, d3⟩ := dd.dict hw I1
  refine ⟨d1.typeIs, fun b q => ?_, ?_⟩
  · cases q
    obtain ⟨ob, _, _, h1, h2, _⟩ := d1
    exact ⟨ob, h1, h2.2.1⟩
  rw [m.trees]
  refine Calls.callWith_builtin rfl (Calls.evalArgs_plain (Calls.spliced_cons (thn (he.run pins s1 σ H1 _ I1 q1) fun iv s2 ⟨y, H2, I2, ry, q2⟩ =>
    Calls.spliced_cons (thn (hf.run pins s2 σ H2 _ I2 q2) fun fv s3 ⟨z, H3, I3, rz, b, k, zs2, v, ey, hk, hd, dd2, rv, q3⟩ => Calls.spliced_nil ?_))))
  subst ey
  obtain rfl : iv = Value.ref b := ry
  obtain ⟨g1, g2, g3⟩ := dd2.dict hw I3
  exact call_meetsIn PySem.F.slot_dict_get g1.typeIs PySem.F.entry_dict_get (PySem.F.args_dict_get_3 _ _ _) (meetsH_dict_get_default (nestedKind X.prog X.w) c b g2 fv) ⟨room_nk hu, k, zs2, ⟨Nk.is I3 hk rfl, hd⟩, g1, ⟨v, H3, I3.tok _, rv fv rz, q3⟩⟩
end
section
variable {K : Fg}
def nget2M (fd fk fx : ME) : ME := fun env st => (fd env st).bind fun p => (refOf p.1).bind fun n => (nkdAt p.2 n).bind fun _ => (fk env p.2).bind fun q => (fx env q.2).bind fun r => (nkdAt r.2 n).bind fun z => (nkT q.1).bind fun k => if k.depth ≤ 8 then some ((getN z.1 z.2 k).getD r.1, r.2) else none
theorem im_nget2 {td ty tz : TE} {fd fk fx : ME} (hd : Im K td fd) (hk : Im K ty fk) (hx : Im K tz fx) : Im K (tNGet2 K td ty tz) (nget2M fd fk fx) := fun dk H0 F0 F σ H env st d st' g e Q q => by
  obtain ⟨⟨x, s1⟩, e1, e⟩ := bnd e
  obtain ⟨n, e3, e⟩ := bnd e
  obtain ⟨z0, e0, e⟩ := bnd e
  obtain ⟨⟨y, s2⟩, e2, e⟩ := bnd e
  obtain ⟨⟨w0, s3⟩, e7, e⟩ := bnd e
  obtain ⟨z, e4, e⟩ := bnd e
  obtain ⟨k, e5, e⟩ := bnd e
  split at e
  · rename_i hz
    cases e
    refine hd dk H0 F0 F σ H env st x s1 g e1 _ fun v F1 H1 x1 g1 r1 => ?_
    have hxx : x = .ref n := refOf_eq e3
    subst hxx
    obtain ⟨a, rfl, ha⟩ := r1.refn
    obtain ⟨zs0, vs0, dd0, _⟩ := g1.wd.nkdAt ha e0
    refine ⟨a, rfl, ⟨zs0, dd0⟩, ?_⟩
    refine hk dk H0 F0 F1 σ H1 env s1 y s2 g1 e2 _ fun u F2 H2 x2 g2 r2 => ?_
    refine hx dk H0 F0 F2 σ H2 env s2 w0 s3 g2 e7 _ fun w F3 H3 x3 g3 r3 => ?_
    obtain ⟨zs, vs, dd, h2, h3, h4, h5⟩ := g3.wd.nkdAt ((x2.f.trans x3.f).at ha) e4
    obtain ⟨b, rfl, nk⟩ := (r2.mono x3.f).nkT g3.wd.sub e5
    obtain ⟨i1, i2⟩ := getN_at k h3 h4 h5
    cases hg : getN z.1 z.2 k with
    | some d1 =>
      rw [hg] at q
      obtain ⟨p, v1, k1, k2, k3⟩ := i1 d1 hg
      refine ⟨b, k, zs, v1, rfl, nk, hz, dd, fun u0 _ => ?_, ?_⟩
      · rw [k1]; exact k2
      · exact q v1 F3 H3 (x1.trans (x2.trans x3)) g3 k3
    | none =>
      rw [hg] at q
      refine ⟨b, k, zs, w, rfl, nk, hz, dd, fun u0 hu0 => ?_, ?_⟩
      · rw [i2 hg]; exact hu0
      · exact q w F3 H3 (x1.trans (x2.trans x3)) g3 r3
  · cases e
end
end MD

set_option Elab.async false
set_option linter.all false
set_option maxRecDepth 100000
set_option maxHeartbeats 1000000
namespace MD
open PySem PySem.Spec PySem.Calls PyProof.Rows PyProof.V PySem.W L2
variable {ww : WW}
/-! ### d == {}, d a dict of the store with nested keys -/
section
variable {prog : Program} {w : World} {K : Type} [DecidableEq K] {knd : HeapKind prog w K} {A : Around} {E : Value → Shared → Prop} {s : Shared} {a b : Addr} {za : List (K × Addr × Value)}
theorem same_em {nm : String} {Q : Bool → Shared → Prop} (ha : (a == sysModules) = false) (hb : (b == sysModules) = false) (da : s.heap.DictOfH knd a za) (db : s.heap.DictOfH knd b []) (h : Q za.isEmpty s) :
    wpAny (model prog w) A (Builtin.Dict.samePairs nm a b) Q E s := by
  obtain ⟨oa, es, ep, hoa, _, hda, hka, _, _⟩ := da
  obtain ⟨ob, es', ep', hob, _, hdb, hkb, _, _⟩ := db
  have hla : es.size = za.length := size_of_entries hka
  have hlb : es'.size = 0 := by rw [size_of_entries hkb]; rfl
  unfold Builtin.Dict.samePairs Builtin.Dict.showsAll
  rw [if_neg (show ¬ (a == sysModules) = true by rw [ha]; exact Bool.false_ne_true), if_neg (show ¬ (b == sysModules) = true by rw [hb]; exact Bool.false_ne_true)]
  refine wpAny_bind (wpAny_pure (wpAny_bind (wpAny_pure ?_)))
  refine wpAny_bind (wpAny_dictEntries hoa hda ?_)
  dsimp only
  refine wpAny_bind (wpAny_dictEntries hob hdb ?_)
  cases za with
  | nil =>
    have h0 : es.size = 0 := by rw [hla]; rfl
    rw [if_neg (by rw [h0, hlb]; simp)]
    refine wpAny_bind (wpAny_dictEpoch hoa hda ?_)
    refine wpAny_bind ?_
    rw [Std.Legacy.Range.forIn_eq_forIn_range']
    simp only [Std.Legacy.Range.size, Nat.sub_zero, Nat.add_sub_cancel, Nat.div_one]
    rw [h0]
    refine wpAny_pure ?_
    exact wpAny_pure h
  | cons z za =>
    rw [if_pos (by rw [hla, hlb]; simp)]
    exact wpAny_bind (wpAny_rule (wpAny_pure h))
theorem rc_em (ha : (a == sysModules) = false) (hb : (b == sysModules) = false)
    (da : s.heap.DictOfH knd a za) (db : s.heap.DictOfH knd b []) (hu : A.units < cLine) (E Q : Value → Shared → Prop) (h : Q (.bool za.isEmpty) s) : wpAny (model prog w) A (richCompare .Eq (.ref a) (.ref b)) Q E s := by
  refine wpAny_richCompare_same_room (op := .Eq) da.typeIs db.typeIs PySem.F.slot_dict_eq (wpAny_call_entry PySem.F.slot_dict_eq da.typeIs PySem.F.entry_dict_eq ?_ (PySem.F.args_dict_eq_2 _ _)) hu
  show wpAny _ _ (Builtin.Dict.dictSlotArgs "__eq__" ⟨[.ref a, .ref b], []⟩ >>= _) _ _ s
  refine wpAny_bind ?_
  unfold Builtin.Dict.dictSlotArgs
  refine wpAny_bind (wpAny_notOrdered_dict da.typeIs ?_)
  show wpAny _ _ (pure (Value.ref a, Value.ref b)) _ _ s
  refine wpAny_pure ?_
  refine wpAny_bind (wpAny_isInstance (T := "dict") db.typeIs PySem.F.sub_dict_dict ?_)
  simp only [Bool.not_true, Bool.false_eq_true, if_false]
  refine wpAny_bind (wpAny_pure (wpAny_bind (wpAny_pure ?_)))
  refine wpAny_bind (same_em ha hb da db ?_)
  refine wpAny_pure ⟨_, rfl, ?_, ?_⟩
  · exact fun x => nomatch x
  · simpa using h
end
def rEm [WW] (K : Fg) : R2 := fun x y H Q => ∃ a b zs, x = .ref a ∧ y = .ref b ∧ NkD K H a zs ∧ NkD K H b [] ∧ Q (.bl zs.isEmpty) H
theorem op_em {X : Cx} (hu : X.A.units + 64 < cLine) (hw : X.w = WW.w) : OpR X (compareOp .Eq) (rEm X.K) := by
  intro pins s σ H x y v u Q I rx ry h
  obtain ⟨a, b, zs, rfl, rfl, da, db, q⟩ := h
  obtain rfl : v = Value.ref a := rx
  obtain rfl : u = Value.ref b := ry
  obtain ⟨d1, d2, d3⟩ := da.dict hw I
  obtain ⟨e1, e2, e3⟩ := db.dict hw I
  exact rc_em d2 e2 d1 e1 (by omega) _ _ ⟨.bl zs.isEmpty, H, I, rfl, q⟩
section
variable {K : Fg}
def nemM (fd : ME) : ME := fun env st => (fd env st).bind fun p => (refOf p.1).bind fun n => (nkdAt p.2 n).map fun z => (.bl z.1.isEmpty, p.2)
theorem im_nem {td : TE} {fd : ME} (hd : Im K td fd) : Im K (tOp (rEm K) td tNewN) (nemM fd) := fun dk H0 F0 F σ H env st d st' g e Q q => by
  obtain ⟨⟨x, s1⟩, e1, e⟩ := bnd e
  obtain ⟨n, e3, e⟩ := bnd e
  obtain ⟨z, e4, e⟩ := mpd e
  cases e
  refine hd dk H0 F0 F σ H env st x s1 g e1 _ fun v F1 H1 x1 g1 r1 => ?_
  have hx : x = .ref n := refOf_eq e3
  subst hx
  obtain ⟨a, rfl, ha⟩ := r1.refn
  intro p hp
  obtain ⟨zs, vs, dd, h2, h3, h4, h5⟩ := g1.wd.nkdAt ha e4
  have px : Px F1 H1 F1 (upd H1 p (.ext (NkAt p []))) := Px.lay g1.wd.sub hp
  obtain ⟨zs', vs', dd', h2', h3', h4', h5'⟩ := (g1.px px).wd.nkdAt ha e4
  have hl : zs'.isEmpty = z.1.isEmpty := by
    have := congrArg List.length h3'
    rw [List.length_map, List.length_map] at this
    rw [Bool.eq_iff_iff, List.isEmpty_iff_length_eq_zero, List.isEmpty_iff_length_eq_zero, this]
  refine ⟨a, p, zs', rfl, rfl, dd', ⟨upd_same, fun z hz => absurd hz (by simp), by simp⟩, ?_⟩
  rw [hl]
  exact q _ F1 _ (x1.trans px.ext) (g1.px px) (.bl _)
end
/-! ### a locked dict: its keys walked, d[k] -/
def nklAt (st : S) (n : Nat) : Option (List D × List D) := match st.ob[n]? with
  | some (.nkl ks ds) => some (ks, ds)
  | _ => none
theorem nklAt_eq {st : S} {n : Nat} {q : List D × List D} (h : nklAt st n = some q) : st.ob[n]? = some (.nkl q.1 q.2) := by
  unfold nklAt at h
  split at h
  · rename_i e; cases h; exact e
  · cases h
structure NkL [WW] (K : Fg) (H : Hp) (c : Addr) (od : Obj) (zs : Zs) : Prop where
  h : H c = some (.frz od (.ext (NkAt c zs)))
  k : ∀ z ∈ zs, Nk K H z.1 (.ref z.2.1) ∧ z.1.depth ≤ 8
  n : (zs.map fun z => z.1).Nodup
theorem NkL.dict {X : Cx} {pins : List (Addr × Obj)} {σ : List (Option V)} {H : Hp} {s : Shared} {c : Addr} {od : Obj} {zs : Zs} (hw : X.w = WW.w) (d : NkL X.K H c od zs) (I : L2.Inv X pins σ H s) : s.heap.DictOfH (nestedKind X.prog X.w) c zs := by
  obtain ⟨hd, ⟨h1, h2, o, es, ep, ho, hx, hdt, he⟩, _, _⟩ := I.hok c _ d.h
  exact ⟨o, es, ep, ho, hx, hdt, by rw [hw]; exact he, fun z hz => ⟨Nk.is I (d.k z hz).1 rfl, (d.k z hz).2⟩, d.n⟩
def tNGetL [WW] (K : Fg) (td ty : TE) : TE := fun σ H Q => td σ H fun x H1 => ty σ H1 fun y H2 => ∃ b c od k zs p v, x = .ref c ∧ y = .ref b ∧ Nk K H2 k (.ref b) ∧ k.depth ≤ 8 ∧ NkL K H2 c od zs ∧ atKey zs k = some p ∧ RelV v p.2 ∧ Q v H2
theorem pe_ngetL {X : Cx} {o i : Expr} {pos : Pos} {td ty : TE} (hu : X.A.units + 64 < cLine) (hw : X.w = WW.w) (ho : PE X o td) (hi : PE X i ty) (hs : NoSl i := by intro _ _; rfl) : PE X (.Subscript o i pos) (tNGetL X.K td ty) := by
  refine ⟨fun pins s σ H Q I h => ?_⟩
  refine subD_of PySem.F.slot_dict_getitem.lookup hs (thn (ho.run pins s σ H _ I h) fun u s1 ⟨x, H1, I1, rx, q1⟩ => thn (hi.run pins s1 σ H1 _ I1 q1) fun iv s2 ⟨y, H2, I2, ry, b, c, od, k, zs, p, v, ex, ey, hk, hd, dd, hp, rv, q2⟩ => ?_)
  subst ex ey
  obtain rfl : u = Value.ref c := rx
  obtain rfl : iv = Value.ref b := ry
  have d1 := dd.dict hw I2
  exact ⟨d1.typeIs, wpAny_getItem_heap (room_nk hu) ⟨Nk.is I2 hk rfl, hd⟩ d1 hp ⟨v, H2, I2.tok _, rv, q2⟩⟩
section
variable {K : Fg} {dk : Dk} {F F' F0 : Fz} {H H' H0 : Hp} {σ σ' : L2.St} {env env' : Sg} {st st' st'' : S}
theorem Wd.nklAt {n : Nat} {a : Addr} {q : List D × List D} (w : Wd K dk F H st) (hn : F.mu[n]? = some a) (h : MD.nklAt st n = some q) :
    ∃ (od : Obj) (zs : Zs) (vs : List V), NkL K H a od zs ∧ Rps K dk F (zs.map fun z => V.ref z.2.1) q.1 ∧ q.1.map nkOf = zs.map (fun z => some z.1) ∧ Vals vs (zs.map fun z => z.2.2) ∧ Rps K dk F vs q.2 := by
  obtain ⟨_, o⟩ := w.ob n a _ hn (nklAt_eq h)
  cases o with
  | nkl h1 h2 h3 h4 h5 h6 h7 => exact ⟨_, _, _, ⟨h1, fun z hz => ⟨nk_keys w.sub h2 h3 z hz, h7 z hz⟩, h6⟩, h2, h3, h4, h5⟩
def ngetL (fd fk : ME) : ME := fun env st => (fd env st).bind fun p => (fk env p.2).bind fun q => (refOf p.1).bind fun n => (nklAt q.2 n).bind fun z => (nkT q.1).bind fun k => if k.depth ≤ 8 then (getN z.1 z.2 k).map fun d => (d, q.2) else none
theorem im_ngetL {td ty : TE} {fd fk : ME} (hd : Im K td fd) (hk : Im K ty fk) : Im K (tNGetL K td ty) (ngetL fd fk) := fun dk H0 F0 F σ H env st d st' g e Q q => by
  obtain ⟨⟨x, s1⟩, e1, e⟩ := bnd e
  obtain ⟨⟨y, s2⟩, e2, e⟩ := bnd e
  obtain ⟨n, e3, e⟩ := bnd e
  obtain ⟨z, e4, e⟩ := bnd e
  obtain ⟨k, e5, e⟩ := bnd e
  split at e
  · rename_i hz
    obtain ⟨d', e6, e⟩ := mpd e
    cases e
    refine hd dk H0 F0 F σ H env st x s1 g e1 _ fun v F1 H1 x1 g1 r1 => ?_
    refine hk dk H0 F0 F1 σ H1 env s1 y s2 g1 e2 _ fun u F2 H2 x2 g2 r2 => ?_
    have hx : x = .ref n := refOf_eq e3
    subst hx
    obtain ⟨a, rfl, ha⟩ := r1.refn
    obtain ⟨od, zs, vs, dd, h2, h3, h4, h5⟩ := g2.wd.nklAt (x2.f.at ha) e4
    obtain ⟨b, rfl, nk⟩ := r2.nkT g2.wd.sub e5
    obtain ⟨p, w, k1, k2, k3⟩ := (getN_at k h3 h4 h5).1 _ e6
    exact ⟨b, a, od, k, zs, p, w, rfl, rfl, nk, hz, dd, k1, k2, q w F2 H2 (x1.trans x2) g2 k3⟩
  · cases e
/-- the keys of a locked dict -/
def keysL (f : ME) : MI := fun env st => (f env st).bind fun p => (refOf p.1).bind fun n => (nklAt p.2 n).map fun z => (z.1, p.2)
theorem iix_keysL {te : TE} {f : ME} (h : Im K te f) : ImIX K (iKeysN te) (keysL f) := fun dk H0 F0 F σ H env st ds st' g e R q => by
  obtain ⟨⟨x, s1⟩, e1, e⟩ := bnd e
  obtain ⟨n, e3, e⟩ := bnd e
  obtain ⟨z, e4, e⟩ := mpd e
  cases e
  refine h dk H0 F0 F σ H env st x s1 g e1 _ fun v F1 H1 x1 g1 r1 => ?_
  have hx : x = .ref n := refOf_eq e3
  subst hx
  obtain ⟨a, rfl, ha⟩ := r1.refn
  obtain ⟨od, zs, vs, dd, h2, h3, h4, h5⟩ := g1.wd.nklAt ha e4
  have hm := List.mem_of_getElem? ha
  obtain ⟨n1, n2⟩ := g1.wd.ndk hm
  refine ⟨a, od, zs, rfl, dd.h, q _ F1 H1 x1 g1 fun F3 H3 st3 le x3 w3 i => ?_⟩
  have hs : H3 a = some (.frz od (.ext (NkAt a zs))) := x3.h _ _ dd.h n1 n2 (.inr ⟨_, _, rfl⟩)
  have hlen : zs.length = z.1.length := by
    have := congrArg List.length h3
    simpa using this.symm
  refine ⟨fun d hd => ?_, fun h => ⟨hs, by rw [hlen]; exact h⟩⟩
  obtain ⟨v, h1, h2⟩ := (h2.mono le).get hd
  have hi : i < zs.length := by
    rw [hlen]
    exact (List.getElem?_eq_some_iff.mp hd).1
  refine ⟨⟨hs, hi⟩, fun y H4 hy => ?_⟩
  obtain ⟨rfl, zz, hz, rfl⟩ := hy
  rw [List.getElem?_map, hz] at h1
  cases h1
  exact ⟨F3, Px.refl w3.sub, h2⟩
/-- [x for p in d if ..], d a dict of the store with nested keys -/
def compN (f : ME) (t : MG) (c : MT) (fv : ME) (vs : List Nat) : MA := fun env st => (f env st).bind fun p => match p.1 with
  | .ref n => match st.ob[n]? with
    | some (.nkd _ _) => (compM (keysL f) t c fv vs env (lckN st n)).map fun r => (r.1, unlN r.2 n)
    | _ => none
  | _ => none
theorem if_compN {te : TE} {f : ME} {g : TG} {tt : TT} {tv : TE} {vs : List Nat} {t : MG} {c : MT} {fv : ME} {is : List Nat} (hp : PthN K te f) (hq : Im K te f) (hg : ImG K g t is) (ht : ImT K tt c) (he : Im K tv fv) (hv : ∀ i ∈ is, i ∈ vs) :
    ImF K (tLockE (tLc (iKeysN te) g tt tv vs)) (compN f t c fv vs) := fun dk H0 F0 F σ H env st out st' gd e Q qq => by
  obtain ⟨⟨d, s1⟩, e1, e⟩ := bnd e
  obtain ⟨es, v, r, q2⟩ := hp dk H0 F0 F σ H env st d s1 gd e1
  dsimp only at e
  split at e
  · rename_i n
    cases r with
    | @ref a _ hn =>
      have hm := List.mem_of_getElem? hn
      obtain ⟨n1, n2⟩ := gd.wd.ndk hm
      have no : ∀ (i : Nat) (ds : Own), env[i]? = some (.own ds) → σ[i]? ≠ some (some (.ref a)) := fun i ds hi hs => by
        obtain ⟨p, _, h1, _, h3, _⟩ := gd.sl i _ hi
        rw [hs] at h1
        cases h1
        exact h3.2 hm
      split at e
      · rename_i ks ds ho
        obtain ⟨⟨o2, s2⟩, e2, e⟩ := mpd e
        cases e
        obtain ⟨_, ob⟩ := gd.wd.ob n a _ hn ho
        cases ob with
        | @nkd zs us _ _ hH k q vv rr nn dd =>
          refine ⟨a, _, hH, trivial, fun od => ?_⟩
          have wl : Wd K dk F (L2.upd H a (.frz od (.ext (NkAt a zs)))) (lckN st n) := by
            unfold lckN
            rw [ho]
            exact gd.wd.put hn (.nkl upd_same k q vv rr nn dd)
          have gl := gd.lock (od := od) no wl
          refine if_compX (iix_keysL hq) hg ht he hv dk _ F F σ _ env (lckN st n) _ s2 gl e2 _ fun p ws F' H' x g' hp' fp' hl' r' => ?_
          have hk : H' a = some (.frz od (.ext (NkAt a zs))) := x.h _ _ upd_same n1 n2 (.inr ⟨_, _, rfl⟩)
          have np : p ≠ a := fun z => by rw [z, upd_same] at hp'; cases hp'
          have hpH : H p = none := by rw [upd_ne np] at hp'; exact hp'
          refine ⟨hk, qq p ws F' _ ((Ext.refl F H).unlock hH nfx x) (gd.unlock hH nfx g' (g'.wd.unlNS (x.f.at hn) hk)) hpH fp' (by rw [upd_ne np]; exact hl') r'⟩
      · cases e
  · cases e
end
end MD

set_option Elab.async false
set_option linter.all false
set_option maxRecDepth 100000
set_option maxHeartbeats 1000000
namespace MD
open PySem PySem.Spec PyProof.Rows L2
variable {ww : WW}
/-! ### x in a list of data of any depth -/
theorem units65 {k : Nat} {A : Around} (r : Room k A) : A.units + 65 < cLine := by
  have := r.un
  omega
def inDD (neg : Bool) : D → D → Option D
  | x, .lst ds => if okD x && okD (.lst ds) then some (.bl (if neg = true then !((pyAll ds).any fun z => PyData.eqv z x.py) else (pyAll ds).any fun z => PyData.eqv z x.py)) else none
  | _, _ => none
section
variable {K : Fg}
theorem ro_inDD : RO K (rInD K) (inDD false) := by
  intro dk F H st x y d e z w rx ry hz Q q
  unfold inDD at hz
  split at hz
  · split at hz
    · rename_i ho
      cases hz
      rw [Bool.and_eq_true, okD, okD, Bool.and_eq_true, Bool.and_eq_true] at ho
      exact ⟨_, _, rx.dp w.sub ho.1.1, ry.dp w.sub ho.2.1, ho.1.2, ho.2.2, q _ F H (Px.refl w.sub) (.bl _)⟩
    · cases hz
  · cases hz
theorem ro_notInDD : RO K (rNotInD K) (inDD true) := by
  intro dk F H st x y d e z w rx ry hz Q q
  unfold inDD at hz
  split at hz
  · split at hz
    · rename_i ho
      cases hz
      rw [Bool.and_eq_true, okD, okD, Bool.and_eq_true, Bool.and_eq_true] at ho
      exact ⟨_, _, rx.dp w.sub ho.1.1, ry.dp w.sub ho.2.1, ho.1.2, ho.2.2, q _ F H (Px.refl w.sub) (.bl _)⟩
    · cases hz
  · cases hz
end
end MD

set_option Elab.async false
set_option linter.all false
set_option maxRecDepth 100000
set_option maxHeartbeats 1000000
namespace MD
open PySem PySem.Spec PyProof.Rows L2
variable {ww : WW}
section
variable {K : Fg}
/-! ### a statement that is never come to -/
def tStuck : TS := fun _ _ _ => False
theorem ps_stuck {X : Cx} {x : Stmt} : PS X x tStuck := ⟨fun _ _ _ _ _ _ h => h.elim⟩
def stkM : MS := fun _ _ => none
theorem is_stuck : ImS K tStuck stkM := fun dk H0 F0 F σ H env st fl st' g e E hd => by cases e
/-! ### f-strings -/
def fmtM (f : ME) : ME := fun env st => (f env st).bind fun p => match p.1 with
  | .str y => if y.length ≤ sizeLine then some (.str y, p.2) else none
  | .int i => if i.natAbs.log2 < 1920 then some (.str (toString i), p.2) else none
  | _ => none
theorem im_fmt {te : TE} {f : ME} (h : Im K te f) : Im K (tFmt te) (fmtM f) := fun dk H0 F0 F σ H env st d st' g e Q q => by
  obtain ⟨⟨x, s1⟩, e1, e⟩ := bnd e
  refine h dk H0 F0 F σ H env st x s1 g e1 _ fun v F1 H1 x1 g1 r1 => ?_
  dsimp only at e
  split at e
  · split at e
    · rename_i hz
      cases e
      cases r1
      exact .inl ⟨_, rfl, hz, q _ F1 H1 x1 g1 (.str _)⟩
    · cases e
  · split at e
    · rename_i hz
      cases e
      cases r1
      exact .inr ⟨_, rfl, hz, q _ F1 H1 x1 g1 (.str _)⟩
    · cases e
  · cases e
def jsF : List ME → Str → Sg → S → Option (Str × S)
  | [], acc, _, st => some (acc, st)
  | f :: fs, acc, env, st => (f env st).bind fun p => match p.1 with
    | .str y => if (acc ++ y).length ≤ sizeLine then jsF fs (acc ++ y) env p.2 else none
    | _ => none
inductive ImJ [WW] (K : Fg) : List TE → List ME → Prop
  | nil : ImJ K [] []
  | cons {t : TE} {ts : List TE} {f : ME} {fs : List ME} : Im K t f → ImJ K ts fs → ImJ K (t :: ts) (f :: fs)
def joinedM (fs : List ME) : ME := fun env st => (jsF fs Str.empty env st).map fun p => (.str p.1, p.2)
theorem imJ_run {ts : List TE} {fs : List ME} (h : ImJ K ts fs) : ∀ (acc : Str) (dk : Dk) (H0 : Hp) (F0 F : Fz) (σ : L2.St) (H : Hp) (env : Sg) (st : S) (out : Str) (st' : S), Good K dk H0 F0 F σ H env st → jsF fs acc env st = some (out, st') →
    ∀ Q : Str → Hp → Prop, (∀ F' H', Ext dk F H F' H' → Good K dk H0 F0 F' σ H' env st' → Q out H') → tJs ts acc σ H Q := by
  induction h with
  | nil =>
    intro acc dk H0 F0 F σ H env st out st' g e Q q
    cases e
    exact q F H (Ext.refl F H) g
  | @cons t ts f fs h1 _ ih =>
    intro acc dk H0 F0 F σ H env st out st' g e Q q
    obtain ⟨⟨x, s1⟩, e1, e⟩ := bnd e
    refine h1 dk H0 F0 F σ H env st x s1 g e1 _ fun v F1 H1 x1 g1 r1 => ?_
    dsimp only at e
    split at e
    · split at e
      · rename_i hz
        cases r1
        exact ⟨_, rfl, hz, ih _ dk H0 F0 F1 σ H1 env s1 out st' g1 e Q fun F' H' x' g' => q F' H' (x1.trans x') g'⟩
      · cases e
    · cases e
theorem im_joined {ts : List TE} {fs : List ME} (h : ImJ K ts fs) : Im K (fun σ H Q => tJs ts Str.empty σ H fun out H1 => Q (.str out) H1) (joinedM fs) := fun dk H0 F0 F σ H env st d st' g e Q q => by
  obtain ⟨⟨out, s1⟩, e1, e⟩ := mpd e
  cases e
  exact imJ_run h Str.empty dk H0 F0 F σ H env st out _ g e1 _ fun F' H' x' g' => q _ F' H' x' g' (.str out)
/-! ### text.split(text) -/
def splM (f h : ME) : MA := fun env st => (f env st).bind fun p => (h env p.2).bind fun q => match p.1, q.1 with
  | .str a, .str b => if (b.length == 0) = false ∧ a.length + 2 ≤ sizeLine then some ((Txt.split a b).map D.str, q.2) else none
  | _, _ => none
theorem rps_strs {dk : Dk} {F : Fz} : ∀ l : List Str, Rps K dk F (l.map V.str) (l.map D.str)
  | [] => .nil
  | y :: l => .cons (.str y) (rps_strs l)
theorem if_split {to te : TE} {f h : ME} (hf : Im K to f) (hh : Im K te h) : ImF K (tM1 (fun x xs H Q => ∃ a b, x = .str a ∧ xs = [.str b] ∧ (b.length == 0) = false ∧ a.length + 2 ≤ sizeLine ∧ rNewStrs (Txt.split a b) H Q) to te) (splM f h) := fun dk H0 F0 F σ H env st ds st' g e Q q => by
  obtain ⟨⟨x, s1⟩, e1, e⟩ := bnd e
  obtain ⟨⟨y, s2⟩, e2, e⟩ := bnd e
  dsimp only at e
  split at e
  · split at e
    · rename_i hz
      cases e
      refine hf dk H0 F0 F σ H env st _ s1 g e1 _ fun v F1 H1 x1 g1 r1 => ?_
      cases r1
      refine ⟨⟨_, rfl⟩, ?_⟩
      refine hh dk H0 F0 F1 σ H1 env s1 _ _ g1 e2 _ fun u F2 H2 x2 g2 r2 => ?_
      cases r2
      refine ⟨_, _, rfl, rfl, hz.1, hz.2, fun p hp => ?_⟩
      exact q p _ F2 _ ((x1.trans x2).trans (Px.lay g2.wd.sub hp).ext) (g2.px (Px.lay g2.wd.sub hp)) ((x1.trans x2).back hp) (g2.wd.out hp) upd_same (rps_strs _)
    · cases e
  · cases e
/-! ### text.startswith(text), int(text) -/
def startsM : D → List D → Option D
  | .str a, [.str b] => some (.bl (Txt.startswith a b))
  | _, _ => none
theorem rm_starts : RM K (fun x xs H Q => ∃ a b, x = .str a ∧ xs = [.str b] ∧ Q (.bl (Txt.startswith a b)) H) startsM := by
  intro dk F H st x d vs ds z w rx rs hz Q q
  unfold startsM at hz
  split at hz
  · cases hz
    obtain ⟨v, rfl, r⟩ := rs.one
    cases r.str
    exact ⟨_, _, rx.str, rfl, q _ F H (Px.refl w.sub) (.bl _)⟩
  · cases hz
def intSM : List D → Option D
  | [.str a] => if a.length ≤ 640 then (PySem.intText? a).map D.int else none
  | _ => none
theorem rc_intS : RC K (fun xs H Q => ∃ a n, xs = [.str a] ∧ PySem.intText? a = some n ∧ a.length ≤ 640 ∧ Q (.int n) H) intSM := by
  intro dk F H st vs ds z w rx hz Q q
  unfold intSM at hz
  split at hz
  · split at hz
    · rename_i ho
      obtain ⟨n, hn, rfl⟩ := mpd hz
      obtain ⟨v, rfl, r⟩ := rx.one
      cases r.str
      exact ⟨_, n, rfl, hn, ho, q _ F H (Px.refl w.sub) (.int _)⟩
    · cases hz
  · cases hz
end
section
variable {K : Fg}
/-- list + list, a new list -/
theorem rof_addL : ROF K (rAddA K) lstCat := fun dk F H st x y d e z w rx ry hz Q q => .inr (.inr (.inr (rof_lstCat dk F H st x y d e z w rx ry hz Q q)))
end
/-! ### C() -/
section
variable {X : Cx} {k j : Nat} {c : Str} {ps : List Str} {sp : Sp} {p pos : Pos}
theorem pe_makeC0 (C : CalK X.prog X.w X.K X.mg X.base j c ps sp) (hr : Room k X.A) (gd : X.A.guards = some []) (hg : Gl X c) (hj : j + 1 ≤ k := by decide) (hdb : (c == ("__debug__" : Str)) = false := by decide) :
    PE X (.Call (.Name c p) [] [] pos) (tMake C.choose sp [] E0 tNil) := by
  obtain ⟨_, hm, f, fd, F, M, hb⟩ := C.choose_spec
  refine ⟨fun pins s σ H Q I h => ?_⟩
  refine wpAny_Call_Name_kw (ld_glob I hg hm ?_ hdb)
  refine PySem.W.callWith_K0 I.kIn M.kp (run_makeG (us := []) M F (hr.mono hj) gd hb I .nil fun x dx h1 h2 h3 => ?_)
  have := h x dx h1 h2 h3
  rw [List.append_nil] at this
  exact this
end
end MD

set_option Elab.async false
set_option linter.all false
set_option maxRecDepth 100000
set_option maxHeartbeats 4000000
namespace Lw
open PySem PySem.Spec PyProof.Rows L2 MD
/-! ### the text -/
def topS (i : Nat) : Stmt := PySem.Challenge.pw_unitlimits_k01_texts_there_and_back.main.body.getD i (.Pass ⟨0, 0, 0, 0⟩)
abbrev s__law_deck : Stmt := topS 46
theorem sc__law_deck : FnScope ["_law_script", "_law_cell"] ["_law_script"] (defScope s__law_deck) := ⟨rfl, rfl, rfl, by decide +kernel, rfl, by decide +kernel, by decide +kernel⟩
abbrev s__law_draw : Stmt := topS 47
theorem sc__law_draw : FnScope ["_law_deck_here", "_law_many", "_law_cell", "_law_at", "_law_mixed"] ["_law_deck_here", "_law_many"] (defScope s__law_draw) := ⟨rfl, rfl, rfl, by decide +kernel, rfl, by decide +kernel, by decide +kernel⟩
abbrev s__law_kind : Stmt := topS 49
theorem sc__law_kind : FnScope ["_law_deck_here", "_law_letters", "_law_most", "_law_many", "_law_rows", "_law_ends", "_law_k", "_law_row", "_law_j"] ["_law_deck_here", "_law_letters", "_law_most"] (defScope s__law_kind) := ⟨rfl, rfl, rfl, by decide +kernel, rfl, by decide +kernel, by decide +kernel⟩
abbrev s__law_one : Stmt := topS 48
theorem sc__law_one : FnScope ["_law_deck_here", "_law_items"] ["_law_deck_here", "_law_items"] (defScope s__law_one) := ⟨rfl, rfl, rfl, by decide +kernel, rfl, by decide +kernel, by decide +kernel⟩
abbrev s__law_units : Stmt := topS 50
theorem sc__law_units : FnScope ["_law_deck_here", "_law_letters", "_law_found", "_law_k", "_law_j"] ["_law_deck_here", "_law_letters"] (defScope s__law_units) := ⟨rfl, rfl, rfl, by decide +kernel, rfl, by decide +kernel, by decide +kernel⟩
abbrev s__law_cut : Stmt := topS 51
theorem sc__law_cut : FnScope ["_law_deck_here", "_law_letters", "_law_units_here", "_law_most", "_law_clings", "_law_letter"] ["_law_deck_here", "_law_letters", "_law_units_here", "_law_most"] (defScope s__law_cut) := ⟨rfl, rfl, rfl, by decide +kernel, rfl, by decide +kernel, by decide +kernel⟩
abbrev s__law_scheme : Stmt := topS 52
theorem sc__law_scheme : FnScope ["_law_deck_here", "_law_states", "_law_most", "_law_letters", "_law_kind_here", "_law_units_here", "_law_k"] ["_law_deck_here", "_law_states", "_law_most"] (defScope s__law_scheme) := ⟨rfl, rfl, rfl, by decide +kernel, rfl, by decide +kernel, by decide +kernel⟩
abbrev s__law_text : Stmt := topS 53
theorem sc__law_text : FnScope ["_law_scheme_here", "_law_kind_here", "_law_units_here", "_law_cuts", "_law_found", "_law_row", "_law_is_end", "_law_items", "_law_unit", "_law_most", "_law_clings", "_law_item", "_law_number"] ["_law_scheme_here"] (defScope s__law_text) := ⟨rfl, rfl, rfl, by decide +kernel, rfl, by decide +kernel, by decide +kernel⟩
abbrev s_state_line : Stmt := topS 35
theorem sc_state_line : FnScope ["row", "is_end", "items", "item"] ["row", "is_end"] (defScope s_state_line) := ⟨rfl, rfl, rfl, by decide +kernel, rfl, by decide +kernel, by decide +kernel⟩
abbrev s_cut_line : Stmt := topS 36
theorem sc_cut_line : FnScope ["cut", "unit", "most", "clings"] ["cut"] (defScope s_cut_line) := ⟨rfl, rfl, rfl, by decide +kernel, rfl, by decide +kernel, by decide +kernel⟩
abbrev s_scheme_text : Stmt := topS 37
theorem sc_scheme_text : FnScope ["scheme", "kind", "units", "cuts", "lines", "row", "is_end", "unit", "number", "cut"] ["scheme"] (defScope s_scheme_text) := ⟨rfl, rfl, rfl, by decide +kernel, rfl, by decide +kernel, by decide +kernel⟩
abbrev s_is_integer_words : Stmt := topS 20
theorem sc_is_integer_words : FnScope ["value", "least", "most"] ["value", "least", "most"] (defScope s_is_integer_words) := ⟨rfl, rfl, rfl, by decide +kernel, rfl, by decide +kernel, by decide +kernel⟩
abbrev s_is_row : Stmt := topS 22
theorem sc_is_row : FnScope ["value", "letters", "many", "item"] ["value", "letters", "many"] (defScope s_is_row) := ⟨rfl, rfl, rfl, by decide +kernel, rfl, by decide +kernel, by decide +kernel⟩
abbrev s_are_rows : Stmt := topS 23
theorem sc_are_rows : FnScope ["value", "letters", "row"] ["value", "letters"] (defScope s_are_rows) := ⟨rfl, rfl, rfl, by decide +kernel, rfl, by decide +kernel, by decide +kernel⟩
abbrev s_are_ends : Stmt := topS 24
theorem sc_are_ends : FnScope ["value", "many", "end"] ["value", "many"] (defScope s_are_ends) := ⟨rfl, rfl, rfl, by decide +kernel, rfl, by decide +kernel, by decide +kernel⟩
abbrev s_kind_error : Stmt := topS 25
theorem sc_kind_error : FnScope ["value"] ["value"] (defScope s_kind_error) := ⟨rfl, rfl, rfl, by decide +kernel, rfl, by decide +kernel, by decide +kernel⟩
abbrev s_is_integer_cuts : Stmt := topS 7
theorem sc_is_integer_cuts : FnScope ["value", "least", "most"] ["value", "least", "most"] (defScope s_is_integer_cuts) := ⟨rfl, rfl, rfl, by decide +kernel, rfl, by decide +kernel, by decide +kernel⟩
abbrev s_is_cut_limit : Stmt := topS 11
theorem sc_is_cut_limit : FnScope ["units", "value"] ["units", "value"] (defScope s_is_cut_limit) := ⟨rfl, rfl, rfl, by decide +kernel, rfl, by decide +kernel, by decide +kernel⟩
abbrev s_are_clinging : Stmt := topS 12
theorem sc_are_clinging : FnScope ["letters", "value", "letter"] ["letters", "value"] (defScope s_are_clinging) := ⟨rfl, rfl, rfl, by decide +kernel, rfl, by decide +kernel, by decide +kernel⟩
abbrev s_is_cut : Stmt := topS 13
theorem sc_is_cut : FnScope ["letters", "units", "value"] ["letters", "units", "value"] (defScope s_is_cut) := ⟨rfl, rfl, rfl, by decide +kernel, rfl, by decide +kernel, by decide +kernel⟩
abbrev s_cuts_error : Stmt := topS 14
theorem sc_cuts_error : FnScope ["letters", "units", "value", "index", "cut"] ["letters", "units", "value"] (defScope s_cuts_error) := ⟨rfl, rfl, rfl, by decide +kernel, rfl, by decide +kernel, by decide +kernel⟩
abbrev s_is_unit : Stmt := topS 9
theorem sc_is_unit : FnScope ["letters", "value", "item"] ["letters", "value"] (defScope s_is_unit) := ⟨rfl, rfl, rfl, by decide +kernel, rfl, by decide +kernel, by decide +kernel⟩
abbrev s_are_units : Stmt := topS 10
theorem sc_are_units : FnScope ["letters", "value", "unit"] ["letters", "value"] (defScope s_are_units) := ⟨rfl, rfl, rfl, by decide +kernel, rfl, by decide +kernel, by decide +kernel⟩
abbrev s_scheme_error : Stmt := topS 34
theorem sc_scheme_error : FnScope ["value", "kind", "units", "cuts", "error"] ["value"] (defScope s_scheme_error) := ⟨rfl, rfl, rfl, by decide +kernel, rfl, by decide +kernel, by decide +kernel⟩
abbrev s_SchemeReader___init__ : Stmt := inClass (topS 43) 0
theorem sc_SchemeReader___init__ : FnScope ["self"] ["self"] (defScope s_SchemeReader___init__) := ⟨rfl, rfl, rfl, by decide +kernel, rfl, by decide +kernel, by decide +kernel⟩
abbrev s_SchemeReader_scheme : Stmt := inClass (topS 43) 6
theorem sc_SchemeReader_scheme : FnScope ["self"] ["self"] (defScope s_SchemeReader_scheme) := ⟨rfl, rfl, rfl, by decide +kernel, rfl, by decide +kernel, by decide +kernel⟩
abbrev s_SchemeReader_read_letters : Stmt := inClass (topS 43) 2
theorem sc_SchemeReader_read_letters : FnScope ["self", "words"] ["self", "words"] (defScope s_SchemeReader_read_letters) := ⟨rfl, rfl, rfl, by decide +kernel, rfl, by decide +kernel, by decide +kernel⟩
abbrev s_is_made_of : Stmt := topS 38
theorem sc_is_made_of : FnScope ["text", "signs", "most", "sign"] ["text", "signs", "most"] (defScope s_is_made_of) := ⟨rfl, rfl, rfl, by decide +kernel, rfl, by decide +kernel, by decide +kernel⟩
abbrev s_is_figures : Stmt := topS 39
theorem sc_is_figures : FnScope ["text", "most"] ["text", "most"] (defScope s_is_figures) := ⟨rfl, rfl, rfl, by decide +kernel, rfl, by decide +kernel, by decide +kernel⟩
abbrev s_items_of : Stmt := topS 42
theorem sc_items_of : FnScope ["words", "nothing", "word"] ["words", "nothing"] (defScope s_items_of) := ⟨rfl, rfl, rfl, by decide +kernel, rfl, by decide +kernel, by decide +kernel⟩
abbrev s_SchemeReader_read_state : Stmt := inClass (topS 43) 3
theorem sc_SchemeReader_read_state : FnScope ["self", "words", "is_end", "row"] ["self", "words"] (defScope s_SchemeReader_read_state) := ⟨rfl, rfl, rfl, by decide +kernel, rfl, by decide +kernel, by decide +kernel⟩
abbrev s_SchemeReader_read_unit : Stmt := inClass (topS 43) 4
theorem sc_SchemeReader_read_unit : FnScope ["self", "words", "unit"] ["self", "words"] (defScope s_SchemeReader_read_unit) := ⟨rfl, rfl, rfl, by decide +kernel, rfl, by decide +kernel, by decide +kernel⟩
abbrev s_are_clings : Stmt := topS 40
theorem sc_are_clings : FnScope ["text"] ["text"] (defScope s_are_clings) := ⟨rfl, rfl, rfl, by decide +kernel, rfl, by decide +kernel, by decide +kernel⟩
abbrev s_clings_of : Stmt := topS 41
theorem sc_clings_of : FnScope ["text"] ["text"] (defScope s_clings_of) := ⟨rfl, rfl, rfl, by decide +kernel, rfl, by decide +kernel, by decide +kernel⟩
abbrev s_SchemeReader_read_cut : Stmt := inClass (topS 43) 5
theorem sc_SchemeReader_read_cut : FnScope ["self", "words"] ["self", "words"] (defScope s_SchemeReader_read_cut) := ⟨rfl, rfl, rfl, by decide +kernel, rfl, by decide +kernel, by decide +kernel⟩
abbrev s_SchemeReader_read : Stmt := inClass (topS 43) 1
theorem sc_SchemeReader_read : FnScope ["self", "number", "line", "words"] ["self", "number", "line"] (defScope s_SchemeReader_read) := ⟨rfl, rfl, rfl, by decide +kernel, rfl, by decide +kernel, by decide +kernel⟩
abbrev s_parse_scheme : Stmt := topS 44
theorem sc_parse_scheme : FnScope ["value", "lines", "reader", "number", "line", "scheme", "error"] ["value"] (defScope s_parse_scheme) := ⟨rfl, rfl, rfl, by decide +kernel, rfl, by decide +kernel, by decide +kernel⟩
abbrev s_law : Stmt := topS 54
theorem sc_law : FnScope ["_law_script", "_law_deck_here", "_law_turn", "_law_scheme_here", "_law_other", "_law_kind_here", "_law_units_here", "_law_cuts", "_law_turned", "_law_value", "_law_due"] ["_law_script"] (defScope s_law) := ⟨rfl, rfl, rfl, by decide +kernel, rfl, by decide +kernel, by decide +kernel⟩
structure Txt (K : Fg) (mg : Str → Option Value) : Prop where
  n_range : mg "range" = none
  n_tuple : mg "tuple" = none
  n_len : mg "len" = none
  n_zip : mg "zip" = none
  n_str : mg "str" = none
  c_NOTHING : ∃ t, mg "NOTHING" = some (.str "." t)
  c_END : ∃ t, mg "END" = some (.str "end" t)
  n_int : mg "int" = none
  c_NO_LETTERS : ∃ t, mg "NO_LETTERS" = some (.str "-" t)
  c_LETTERS_texts : ∃ t, mg "LETTERS_texts" = some (.str "abcd" t)
  n_isinstance : mg "isinstance" = none
  n_bool : mg "bool" = none
  c_MAX_STATES : ∃ t, mg "MAX_STATES" = some (.int 8 t)
  c_MAX_LETTERS : ∃ t, mg "MAX_LETTERS" = some (.int 4 t)
  c_MAX_CUT : ∃ t, mg "MAX_CUT" = some (.int 20 t)
  c_LETTERS_limits : ∃ t, mg "LETTERS_limits" = some (.str "abcd" t)
  n_enumerate : mg "enumerate" = none
  c_MAX_CUTS : ∃ t, mg "MAX_CUTS" = some (.int 3 t)
  c_MAX_COUNT : ∃ t, mg "MAX_COUNT" = some (.int 9 t)
  cl_SchemeReader : ClsOk K "SchemeReader" ["letters", "rows", "ends", "units", "cuts"]
  c_FIGURES : ∃ t, mg "FIGURES" = some (.str "0123456789" t)
  c_MOST_FIGURES : ∃ t, mg "MOST_FIGURES" = some (.int 9 t)
  c_MOST_LETTERS : ∃ t, mg "MOST_LETTERS" = some (.int 9 t)
  n_repr : mg "repr" = none
  n_abs : mg "abs" = none
/-! ### mirrors -/
def dc : DC := ⟨2147483563, 8117, 3, 2147483629⟩
def m__law_draw : MF := drawM dc
noncomputable def b__law_kind : MS :=
 (seqM (asgM (tupT 3 (consT (nameT 3) (consT (nameT 4) (consT (nameT 5) nilT)))) (tupM (aCons (opM addM (cst (.int 1)) (callM m__law_draw (aCons (rd 0) (aCons (rd 2) aNil)))) (aCons (stoL (lstM aNil)) (aCons (stoL (lstM aNil)) aNil)))))
 (seqM (forM (r1M (aCons (rd 3) aNil)) (nameT 6)
 (seqM (asgM (nameT 7) (frz (compM (r1M (aCons (rd 1) aNil)) (nameT 8) yesM (ifM (tstM (opM eqM (callM m__law_draw (aCons (rd 0) (aCons (cst (.int 5)) aNil))) (cst (.int 0)))) (cst .non) (callM m__law_draw (aCons (rd 0) (aCons (rd 3) aNil)))) [8])))
 (seqM (sappM (rd 4) (cbM tupleM (aCons (rd 7) aNil)))
 (sappM (rd 5) (opM gtM (callM m__law_draw (aCons (rd 0) (aCons (cst (.int 3)) aNil))) (cst (.int 0)))))))
 (retM (tupM (aCons (rd 1) (aCons (cbM tupleM (aCons (rd 4) aNil)) (aCons (cbM tupleM (aCons (rd 5) aNil)) aNil)))))))
noncomputable def m__law_kind : MF := runM 9 b__law_kind
noncomputable def b__law_one : MS :=
 (retM (opM subD (rd 1) (callM m__law_draw (aCons (rd 0) (aCons (cbM lenA (aCons (rd 1) aNil)) aNil)))))
noncomputable def m__law_one : MF := runM 2 b__law_one
noncomputable def b__law_units : MS :=
 (seqM (ownM 2 (lstM aNil))
 (seqM (forM (r1M (aCons (opM addM (cst (.int 1)) (callM m__law_draw (aCons (rd 0) (aCons (cst (.int 2)) aNil)))) aNil)) (nameT 3)
 (appM 2 (cbM tupleM (aCons (frz (compM (r1M (aCons (rd 1) aNil)) (nameT 4) yesM (callM m__law_one (aCons (rd 0) (aCons (frz (lstM (aCons (cst (.int 1)) (aCons (cst (.int 1)) (aCons (cst (.int 1)) (aCons (cst (.int 2)) (aCons (cst (.int 3)) (aCons (cst (.int 0)) (aCons (cst (.int 4)) (aCons (cst (.int 9)) aNil)))))))))) aNil))) [4])) aNil))))
 (retM (cbM tupleM (aCons (rdW 2) aNil)))))
noncomputable def m__law_units : MF := runM 5 b__law_units
noncomputable def b__law_cut : MS :=
 (seqM (asgM (nameT 4) (m1M joinM (cst (.str "")) (frz (compM (seqI (slM slAny (cst (.str "abcd")) noP (prt (rd 1)))) (nameT 5) (tstM (opM eqM (callM m__law_draw (aCons (rd 0) (aCons (cst (.int 4)) aNil))) (cst (.int 0)))) (rd 5) [5]))))
 (retM (tupM (aCons (callM m__law_draw (aCons (rd 0) (aCons (cbM lenA (aCons (rd 2) aNil)) aNil))) (aCons (callM m__law_draw (aCons (rd 0) (aCons (opM addM (rd 3) (cst (.int 1))) aNil))) (aCons (rd 4) aNil))))))
noncomputable def m__law_cut : MF := runM 6 b__law_cut
noncomputable def b__law_scheme : MS :=
 (seqM (asgM (nameT 3) (opM addM (cst (.int 1)) (callM m__law_draw (aCons (rd 0) (aCons (cst (.int 4)) aNil)))))
 (seqM (asgM (tupT 2 (consT (nameT 4) (consT (nameT 5) nilT))) (tupM (aCons (callM m__law_kind (aCons (rd 0) (aCons (rd 3) (aCons (rd 1) aNil)))) (aCons (callM m__law_units (aCons (rd 0) (aCons (rd 3) aNil))) aNil))))
 (retM (tupM (aCons (rd 4) (aCons (rd 5) (aCons (cbM tupleM (aCons (frz (compM (r1M (aCons (callM m__law_draw (aCons (rd 0) (aCons (cst (.int 4)) aNil))) aNil)) (nameT 6) yesM (callM m__law_cut (aCons (rd 0) (aCons (rd 3) (aCons (rd 5) (aCons (rd 2) aNil))))) [6])) aNil)) aNil)))))))
noncomputable def m__law_scheme : MF := runM 7 b__law_scheme
noncomputable def b__law_text : MS :=
 (seqM (asgM (tupT 3 (consT (nameT 1) (consT (nameT 2) (consT (nameT 3) nilT)))) (rd 0))
 (seqM (ownM 4 (lstM (aCons (opM addM (cst (.str "letters ")) (slM slAny (cst (.str "abcd")) noP (prt (opM subD (rd 1) (cst (.int 0)))))) aNil)))
 (seqM (forM (zipI (opM subD (rd 1) (cst (.int 1))) (opM subD (rd 1) (cst (.int 2)))) (tupT 2 (consT (nameT 5) (consT (nameT 6) nilT)))
 (seqM (asgM (nameT 7) (frz (compM (seqI (rd 5)) (nameT 11) yesM (ifM (tstM (opM isM (rd 11) (cst .non))) (cst (.str ".")) (cbM strIntM (aCons (rd 11) aNil))) [11])))
 (appM 4 (m1M joinM (cst (.str " ")) (opM addM (opM addM (frz (lstM (aCons (cst (.str "state")) aNil))) (rd 7)) (ifM (truM (rd 6)) (frz (lstM (aCons (cst (.str "end")) aNil))) (frz (lstM aNil))))))))
 (seqM (ownM 4 (opF lstCat (rdW 4) (frz (compM (seqI (rd 2)) (nameT 8) yesM (m1M joinM (cst (.str " ")) (opM addM (frz (lstM (aCons (cst (.str "unit")) aNil))) (frz (compM (seqI (rd 8)) (nameT 12) yesM (cbM strIntM (aCons (rd 12) aNil)) [12])))) [8]))))
 (seqM (forM (seqI (rd 3)) (tupT 3 (consT (nameT 8) (consT (nameT 9) (consT (nameT 10) nilT))))
 (appM 4 (m1M joinM (cst (.str " ")) (frz (lstM (aCons (cst (.str "cut")) (aCons (cbM strIntM (aCons (rd 8) aNil)) (aCons (cbM strIntM (aCons (rd 9) aNil)) (aCons (ifM (tstM (opM neM (rd 10) (cst (.str "")))) (rd 10) (cst (.str "-"))) aNil)))))))))
 (retM (m1M joinM (cst (.str "\n")) (rdW 4))))))))
noncomputable def m__law_text : MF := runM 13 b__law_text
noncomputable def b_state_line : MS :=
 (seqM (asgM (nameT 2) (frz (compM (seqI (rd 0)) (nameT 3) yesM (ifM (tstM (opM isM (rd 3) (cst .non))) (cst (.str ".")) (cbM strIntM (aCons (rd 3) aNil))) [3])))
 (retM (m1M joinM (cst (.str " ")) (opM addM (opM addM (frz (lstM (aCons (cst (.str "state")) aNil))) (rd 2)) (frz (opF lstMul (frz (lstM (aCons (cst (.str "end")) aNil))) (cbM int1M (aCons (rd 1) aNil))))))))
noncomputable def m_state_line : MF := runM 4 b_state_line
noncomputable def b_cut_line : MS :=
 (seqM (asgM (tupT 3 (consT (nameT 1) (consT (nameT 2) (consT (nameT 3) nilT)))) (rd 0))
 (retM (opM addM (joinedM [(cst (.str "cut ")), (fmtM (rd 1)), (cst (.str " ")), (fmtM (rd 2)), (cst (.str " "))]) (ifM (tstM (opM eqM (rd 3) (cst (.str "")))) (cst (.str "-")) (rd 3)))))
noncomputable def m_cut_line : MF := runM 4 b_cut_line
noncomputable def b_scheme_text : MS :=
 (seqM (asgM (tupT 3 (consT (nameT 1) (consT (nameT 2) (consT (nameT 3) nilT)))) (rd 0))
 (seqM (asgM (nameT 4) (opM addM (frz (lstM (aCons (opM addM (cst (.str "letters ")) (slM slAny (cst (.str "abcd")) noP (prt (opM subD (rd 1) (cst (.int 0)))))) aNil))) (frz (compM (zipI (opM subD (rd 1) (cst (.int 1))) (opM subD (rd 1) (cst (.int 2)))) (tupT 2 (consT (nameT 5) (consT (nameT 6) nilT))) yesM (callM m_state_line (aCons (rd 5) (aCons (rd 6) aNil))) [5, 6]))))
 (seqM (asgM (nameT 4) (opM addM (rd 4) (frz (compM (seqI (rd 2)) (nameT 7) yesM (m1M joinM (cst (.str " ")) (opM addM (frz (lstM (aCons (cst (.str "unit")) aNil))) (frz (compM (seqI (rd 7)) (nameT 8) yesM (cbM strIntM (aCons (rd 8) aNil)) [8])))) [7]))))
 (retM (m1M joinM (cst (.str "\n")) (opM addM (rd 4) (frz (compM (seqI (rd 3)) (nameT 9) yesM (callM m_cut_line (aCons (rd 9) aNil)) [9]))))))))
noncomputable def m_scheme_text : MF := runM 10 b_scheme_text
noncomputable def b_is_integer_words : MS :=
 (retM (andV (isiM "int" (rd 0)) (andV (notV (isiM "bool" (rd 0))) (chM leM leM (rd 1) (rd 0) (rd 2)))))
noncomputable def m_is_integer_words : MF := runM 3 b_is_integer_words
noncomputable def b_is_row : MS :=
 (seqM (ifS (orM (notM (truM (isiM "tuple" (rd 0)))) (tstM (opM neM (cbM lenA (aCons (rd 0) aNil)) (rd 1))))
 (retM (cst (.bl false)))
 nxM)
 (retM (opM eqM (frz (compM (seqI (rd 0)) (nameT 3) (andM (tstM (opM isNotM (rd 3) (cst .non))) (notM (truM (callM m_is_integer_words (aCons (rd 3) (aCons (cst (.int 0)) (aCons (opM subM (rd 2) (cst (.int 1))) aNil))))))) (rd 3) [3])) (frz (lstM aNil)))))
noncomputable def m_is_row : MF := runM 4 b_is_row
noncomputable def b_are_rows : MS :=
 (seqM (ifS (orM (notM (truM (isiM "tuple" (rd 0)))) (notM (tstM (chM leM leM (cst (.int 1)) (cbM lenA (aCons (rd 0) aNil)) (cst (.int 8))))))
 (retM (cst (.bl false)))
 nxM)
 (retM (opM eqM (frz (compM (seqI (rd 0)) (nameT 2) (notM (truM (callM m_is_row (aCons (rd 2) (aCons (rd 1) (aCons (cbM lenA (aCons (rd 0) aNil)) aNil)))))) (rd 2) [2])) (frz (lstM aNil)))))
noncomputable def m_are_rows : MF := runM 3 b_are_rows
noncomputable def b_are_ends : MS :=
 (seqM (ifS (orM (notM (truM (isiM "tuple" (rd 0)))) (tstM (opM neM (cbM lenA (aCons (rd 0) aNil)) (rd 1))))
 (retM (cst (.bl false)))
 nxM)
 (retM (opM eqM (frz (compM (seqI (rd 0)) (nameT 2) (notM (truM (isiM "bool" (rd 2)))) (rd 2) [2])) (frz (lstM aNil)))))
noncomputable def m_are_ends : MF := runM 3 b_are_ends
noncomputable def b_kind_error : MS :=
 (seqM (ifS (orM (notM (truM (isiM "tuple" (rd 0)))) (tstM (opM neM (cbM lenA (aCons (rd 0) aNil)) (cst (.int 3)))))
 (retM (cst (.str "kind")))
 nxM)
 (seqM (ifS (notM (truM (callM m_is_integer_words (aCons (opM subD (rd 0) (cst (.int 0))) (aCons (cst (.int 1)) (aCons (cst (.int 4)) aNil))))))
 (retM (cst (.str "letters")))
 nxM)
 (seqM (ifS (notM (truM (callM m_are_rows (aCons (opM subD (rd 0) (cst (.int 1))) (aCons (opM subD (rd 0) (cst (.int 0))) aNil)))))
 (retM (cst (.str "rows")))
 nxM)
 (retM (ifM (truM (callM m_are_ends (aCons (opM subD (rd 0) (cst (.int 2))) (aCons (cbM lenA (aCons (opM subD (rd 0) (cst (.int 1))) aNil)) aNil)))) (cst .non) (cst (.str "ends")))))))
noncomputable def m_kind_error : MF := runM 1 b_kind_error
noncomputable def b_is_integer_cuts : MS :=
 (retM (andV (isiM "int" (rd 0)) (andV (notV (isiM "bool" (rd 0))) (chM leM leM (rd 1) (rd 0) (rd 2)))))
noncomputable def m_is_integer_cuts : MF := runM 3 b_is_integer_cuts
noncomputable def b_is_cut_limit : MS :=
 (seqM (ifS (orM (notM (truM (isiM "tuple" (rd 1)))) (tstM (opM neM (cbM lenA (aCons (rd 1) aNil)) (cst (.int 2)))))
 (retM (cst (.bl false)))
 nxM)
 (retM (andV (callM m_is_integer_cuts (aCons (opM subD (rd 1) (cst (.int 0))) (aCons (cst (.int 0)) (aCons (opM subM (cbM lenA (aCons (rd 0) aNil)) (cst (.int 1))) aNil)))) (callM m_is_integer_cuts (aCons (opM subD (rd 1) (cst (.int 1))) (aCons (cst (.int 0)) (aCons (cst (.int 20)) aNil)))))))
noncomputable def m_is_cut_limit : MF := runM 2 b_is_cut_limit
noncomputable def b_are_clinging : MS :=
 (seqM (ifS (notM (truM (isiM "str" (rd 1))))
 (retM (cst (.bl false)))
 nxM)
 (retM (opM eqM (rd 1) (m1M joinM (cst (.str "")) (frz (compM (seqI (slM slAny (cst (.str "abcd")) noP (prt (rd 0)))) (nameT 2) (tstM (opM (cntD false) (rd 2) (rd 1))) (rd 2) [2]))))))
noncomputable def m_are_clinging : MF := runM 3 b_are_clinging
noncomputable def b_is_cut : MS :=
 (seqM (ifS (orM (notM (truM (isiM "tuple" (rd 2)))) (tstM (opM neM (cbM lenA (aCons (rd 2) aNil)) (cst (.int 3)))))
 (retM (cst (.bl false)))
 nxM)
 (retM (andV (callM m_is_cut_limit (aCons (rd 1) (aCons (slM slAny (rd 2) noP (prt (cst (.int 2)))) aNil))) (callM m_are_clinging (aCons (rd 0) (aCons (opM subD (rd 2) (cst (.int 2))) aNil))))))
noncomputable def m_is_cut : MF := runM 3 b_is_cut
noncomputable def b_cuts_error : MS :=
 (seqM (ifS (notM (truM (isiM "tuple" (rd 2))))
 (retM (tupM (aCons (cst .non) (aCons (cst (.str "cuts")) aNil))))
 nxM)
 (seqM (forM (enumI (rd 2)) (tupT 2 (consT (nameT 3) (consT (nameT 4) nilT)))
 (ifS (notM (truM (callM m_is_cut (aCons (rd 0) (aCons (rd 1) (aCons (rd 4) aNil))))))
 (retM (tupM (aCons (rd 3) (aCons (cst (.str "cut")) aNil))))
 nxM))
 (retM (ifM (tstM (opM gtM (cbM lenA (aCons (rd 2) aNil)) (cst (.int 3)))) (tupM (aCons (cst .non) (aCons (cst (.str "many")) aNil))) (cst .non)))))
noncomputable def m_cuts_error : MF := runM 5 b_cuts_error
noncomputable def b_is_unit : MS :=
 (seqM (ifS (orM (notM (truM (isiM "tuple" (rd 1)))) (tstM (opM neM (cbM lenA (aCons (rd 1) aNil)) (rd 0))))
 (retM (cst (.bl false)))
 nxM)
 (retM (opM eqM (frz (compM (seqI (rd 1)) (nameT 2) (notM (truM (callM m_is_integer_cuts (aCons (rd 2) (aCons (cst (.int 0)) (aCons (cst (.int 9)) aNil)))))) (rd 2) [2])) (frz (lstM aNil)))))
noncomputable def m_is_unit : MF := runM 3 b_is_unit
noncomputable def b_are_units : MS :=
 (seqM (ifS (orM (notM (truM (isiM "tuple" (rd 1)))) (notM (tstM (chM leM leM (cst (.int 1)) (cbM lenA (aCons (rd 1) aNil)) (cst (.int 2))))))
 (retM (cst (.bl false)))
 nxM)
 (retM (opM eqM (frz (compM (seqI (rd 1)) (nameT 2) (notM (truM (callM m_is_unit (aCons (rd 0) (aCons (rd 2) aNil))))) (rd 2) [2])) (frz (lstM aNil)))))
noncomputable def m_are_units : MF := runM 3 b_are_units
noncomputable def b_scheme_error : MS :=
 (seqM (ifS (orM (notM (truM (isiM "tuple" (rd 0)))) (tstM (opM neM (cbM lenA (aCons (rd 0) aNil)) (cst (.int 3)))))
 (retM (tupM (aCons (cst (.str "scheme")) (aCons (cst .non) aNil))))
 nxM)
 (seqM (asgM (tupT 3 (consT (nameT 1) (consT (nameT 2) (consT (nameT 3) nilT)))) (rd 0))
 (seqM (asgM (nameT 4) (callM m_kind_error (aCons (rd 1) aNil)))
 (seqM (ifS (tstM (opM isNotM (rd 4) (cst .non)))
 (retM (tupM (aCons (cst (.str "kind")) (aCons (rd 4) aNil))))
 nxM)
 (seqM (ifS (notM (truM (callM m_are_units (aCons (opM subD (rd 1) (cst (.int 0))) (aCons (rd 2) aNil)))))
 (retM (tupM (aCons (cst (.str "units")) (aCons (cst .non) aNil))))
 nxM)
 (seqM (asgM (nameT 4) (callM m_cuts_error (aCons (opM subD (rd 1) (cst (.int 0))) (aCons (rd 2) (aCons (rd 3) aNil)))))
 (retM (ifM (tstM (opM isM (rd 4) (cst .non))) (cst .non) (tupM (aCons (cst (.str "cuts")) (aCons (rd 4) aNil)))))))))))
noncomputable def m_scheme_error : MF := runM 5 b_scheme_error
noncomputable def b_SchemeReader___init__ : MS :=
 (seqM (setM ["SchemeReader"] "letters" (rd 0) (cst (.int 0)))
 (seqM (setM ["SchemeReader"] "rows" (rd 0) (stoL (lstM aNil)))
 (seqM (setM ["SchemeReader"] "ends" (rd 0) (stoL (lstM aNil)))
 (seqM (setM ["SchemeReader"] "units" (rd 0) (stoL (lstM aNil)))
 (setM ["SchemeReader"] "cuts" (rd 0) (stoL (lstM aNil)))))))
noncomputable def m_SchemeReader___init__ : MF := runM 1 b_SchemeReader___init__
noncomputable def b_SchemeReader_scheme : MS :=
 (retM (tupM (aCons (tupM (aCons (fldM ["SchemeReader"] "letters" (rd 0)) (aCons (cbM tupleM (aCons (fldM ["SchemeReader"] "rows" (rd 0)) aNil)) (aCons (cbM tupleM (aCons (fldM ["SchemeReader"] "ends" (rd 0)) aNil)) aNil)))) (aCons (cbM tupleM (aCons (fldM ["SchemeReader"] "units" (rd 0)) aNil)) (aCons (cbM tupleM (aCons (fldM ["SchemeReader"] "cuts" (rd 0)) aNil)) aNil)))))
noncomputable def m_SchemeReader_scheme : MF := runM 1 b_SchemeReader_scheme
noncomputable def b_SchemeReader_read_letters : MS :=
 (seqM (ifS (orM (tstM (opM neM (cbM lenA (aCons (rd 1) aNil)) (cst (.int 2)))) (orM (tstM (opM neM (opM subD (rd 1) (cst (.int 0))) (cst (.str "letters")))) (orM (tstM (opM eqM (opM subD (rd 1) (cst (.int 1))) (cst (.str "")))) (notM (truM (m1M startsM (cst (.str "abcd")) (opM subD (rd 1) (cst (.int 1)))))))))
 (retM (cst (.bl false)))
 nxM)
 (seqM (setM ["SchemeReader"] "letters" (rd 0) (cbM lenA (aCons (opM subD (rd 1) (cst (.int 1))) aNil)))
 (retM (cst (.bl true)))))
noncomputable def m_SchemeReader_read_letters : MF := runM 2 b_SchemeReader_read_letters
noncomputable def b_is_made_of : MS :=
 (retM (andV (chM leM leM (cst (.int 1)) (cbM lenA (aCons (rd 0) aNil)) (rd 2)) (opM eqM (frz (compM (seqI (rd 0)) (nameT 3) (tstM (opM (cntD true) (rd 3) (rd 1))) (rd 3) [3])) (frz (lstM aNil)))))
noncomputable def m_is_made_of : MF := runM 4 b_is_made_of
noncomputable def b_is_figures : MS :=
 (retM (andV (callM m_is_made_of (aCons (rd 0) (aCons (cst (.str "0123456789")) (aCons (rd 1) aNil)))) (orV (opM eqM (rd 0) (cst (.str "0"))) (opM neM (opM subD (rd 0) (cst (.int 0))) (cst (.str "0"))))))
noncomputable def m_is_figures : MF := runM 2 b_is_figures
noncomputable def b_items_of : MS :=
 (seqM (ifS (notM (tstM (chM leM leM (cst (.int 1)) (cbM lenA (aCons (rd 0) aNil)) (cbM lenA (aCons (cst (.str "abcd")) aNil)))))
 (retM (cst .non))
 nxM)
 (seqM (ifS (tstM (opM neM (frz (compM (seqI (rd 0)) (nameT 2) (andM (tstM (opM neM (rd 2) (rd 1))) (notM (truM (callM m_is_figures (aCons (rd 2) (aCons (cst (.int 9)) aNil)))))) (rd 2) [2])) (frz (lstM aNil))))
 (retM (cst .non))
 nxM)
 (retM (cbM tupleM (aCons (frz (compM (seqI (rd 0)) (nameT 2) yesM (ifM (tstM (opM eqM (rd 2) (rd 1))) (cst .non) (cbM intSM (aCons (rd 2) aNil))) [2])) aNil)))))
noncomputable def m_items_of : MF := runM 3 b_items_of
noncomputable def b_SchemeReader_read_state : MS :=
 (seqM (asgM (nameT 2) (opM eqM (slM slAny (rd 1) (prt (unM (unI fun i => .int (-i)) (cst (.int 1)))) noP) (frz (lstM (aCons (cst (.str "end")) aNil)))))
 (seqM (asgM (nameT 3) (callM m_items_of (aCons (ifM (truM (rd 2)) (slM slAny (rd 1) noP (prt (unM (unI fun i => .int (-i)) (cst (.int 1))))) (rd 1)) (aCons (cst (.str ".")) aNil))))
 (seqM (ifS (tstM (opM isM (rd 3) (cst .non)))
 (retM (cst (.bl false)))
 nxM)
 (seqM (sappM (fldM ["SchemeReader"] "rows" (rd 0)) (rd 3))
 (seqM (sappM (fldM ["SchemeReader"] "ends" (rd 0)) (rd 2))
 (retM (cst (.bl true))))))))
noncomputable def m_SchemeReader_read_state : MF := runM 4 b_SchemeReader_read_state
noncomputable def b_SchemeReader_read_unit : MS :=
 (seqM (asgM (nameT 2) (callM m_items_of (aCons (rd 1) (aCons (cst (.str "")) aNil))))
 (seqM (ifS (orM (tstM (opM isM (rd 2) (cst .non))) (tstM (opM (cntD false) (cst .non) (rd 2))))
 (retM (cst (.bl false)))
 nxM)
 (seqM (sappM (fldM ["SchemeReader"] "units" (rd 0)) (rd 2))
 (retM (cst (.bl true))))))
noncomputable def m_SchemeReader_read_unit : MF := runM 3 b_SchemeReader_read_unit
noncomputable def b_are_clings : MS :=
 (retM (orV (opM eqM (rd 0) (cst (.str "-"))) (callM m_is_made_of (aCons (rd 0) (aCons (cst (.str "abcd")) (aCons (cst (.int 9)) aNil))))))
noncomputable def m_are_clings : MF := runM 1 b_are_clings
noncomputable def b_clings_of : MS :=
 (retM (ifM (tstM (opM eqM (rd 0) (cst (.str "-")))) (cst (.str "")) (rd 0)))
noncomputable def m_clings_of : MF := runM 1 b_clings_of
noncomputable def b_SchemeReader_read_cut : MS :=
 (seqM (ifS (orM (tstM (opM neM (cbM lenA (aCons (rd 1) aNil)) (cst (.int 3)))) (notM (truM (callM m_are_clings (aCons (opM subD (rd 1) (cst (.int 2))) aNil)))))
 (retM (cst (.bl false)))
 nxM)
 (seqM (ifS (orM (notM (truM (callM m_is_figures (aCons (opM subD (rd 1) (cst (.int 0))) (aCons (cst (.int 9)) aNil))))) (notM (truM (callM m_is_figures (aCons (opM subD (rd 1) (cst (.int 1))) (aCons (cst (.int 9)) aNil))))))
 (retM (cst (.bl false)))
 nxM)
 (seqM (sappM (fldM ["SchemeReader"] "cuts" (rd 0)) (tupM (aCons (cbM intSM (aCons (opM subD (rd 1) (cst (.int 0))) aNil)) (aCons (cbM intSM (aCons (opM subD (rd 1) (cst (.int 1))) aNil)) (aCons (callM m_clings_of (aCons (opM subD (rd 1) (cst (.int 2))) aNil)) aNil)))))
 (retM (cst (.bl true))))))
noncomputable def m_SchemeReader_read_cut : MF := runM 2 b_SchemeReader_read_cut
noncomputable def b_SchemeReader_read : MS :=
 (seqM (asgM (nameT 3) (frz (splM (rd 2) (cst (.str " ")))))
 (seqM (ifS (tstM (opM eqM (rd 1) (cst (.int 0))))
 (retM (methM "SchemeReader" "read_letters" m_SchemeReader_read_letters (rd 0) (aCons (rd 3) aNil)))
 nxM)
 (seqM (ifS (andM (tstM (opM eqM (opM subD (rd 3) (cst (.int 0))) (cst (.str "state")))) (tstM (opM eqM (fldM ["SchemeReader"] "units" (rd 0)) (frz (lstM aNil)))))
 (retM (methM "SchemeReader" "read_state" m_SchemeReader_read_state (rd 0) (aCons (slM slAny (rd 3) (prt (cst (.int 1))) noP) aNil)))
 nxM)
 (seqM (ifS (andM (tstM (opM eqM (opM subD (rd 3) (cst (.int 0))) (cst (.str "unit")))) (andM (tstM (opM neM (fldM ["SchemeReader"] "rows" (rd 0)) (frz (lstM aNil)))) (tstM (opM eqM (fldM ["SchemeReader"] "cuts" (rd 0)) (frz (lstM aNil))))))
 (retM (methM "SchemeReader" "read_unit" m_SchemeReader_read_unit (rd 0) (aCons (slM slAny (rd 3) (prt (cst (.int 1))) noP) aNil)))
 nxM)
 (retM (andV (opM eqM (opM subD (rd 3) (cst (.int 0))) (cst (.str "cut"))) (andV (opM neM (fldM ["SchemeReader"] "units" (rd 0)) (frz (lstM aNil))) (methM "SchemeReader" "read_cut" m_SchemeReader_read_cut (rd 0) (aCons (slM slAny (rd 3) (prt (cst (.int 1))) noP) aNil)))))))))
noncomputable def m_SchemeReader_read : MF := runM 4 b_SchemeReader_read
noncomputable def b_parse_scheme : MS :=
 (seqM (ifS (notM (truM (isiM "str" (rd 0))))
 stkM
 nxM)
 (seqM (asgM (nameT 1) (frz (splM (rd 0) (cst (.str "\n")))))
 (seqM (asgM (nameT 2) (makeM "SchemeReader" m_SchemeReader___init__ aNil))
 (seqM (forM (enumI (rd 1)) (tupT 2 (consT (nameT 3) (consT (nameT 4) nilT)))
 (ifS (notM (truM (methM "SchemeReader" "read" m_SchemeReader_read (rd 2) (aCons (rd 3) (aCons (rd 4) aNil)))))
 stkM
 nxM))
 (seqM (ifS (tstM (opM eqM (fldM ["SchemeReader"] "units" (rd 2)) (frz (lstM aNil))))
 stkM
 nxM)
 (seqM (asgM (nameT 5) (methM "SchemeReader" "scheme" m_SchemeReader_scheme (rd 2) aNil))
 (seqM (asgM (nameT 6) (callM m_scheme_error (aCons (rd 5) aNil)))
 (seqM (ifS (tstM (opM isNotM (rd 6) (cst .non)))
 stkM
 nxM)
 (retM (rd 5))))))))))
noncomputable def m_parse_scheme : MF := runM 7 b_parse_scheme
noncomputable def b_law : MS :=
 (seqM (forM (r1M (aCons (cst (.int 8)) aNil)) (nameT 2)
 (seqM (parM 3 4 (aCons (callM m__law_scheme (aCons (rd 1) (aCons (cst (.int 8)) (aCons (cst (.int 20)) aNil)))) (aCons (callM m__law_scheme (aCons (rd 1) (aCons (cst (.int 8)) (aCons (cst (.int 20)) aNil)))) aNil)))
 (seqM (ifS (tstM (opM eqM (callM m__law_draw (aCons (rd 1) (aCons (cst (.int 2)) aNil))) (cst (.int 0))))
 (seqM (asgM (tupT 3 (consT (nameT 5) (consT (nameT 6) (consT (nameT 7) nilT)))) (rd 3))
 (seqM (asgM (nameT 8) (tupM (aCons (opM subD (rd 5) (cst (.int 0))) (aCons (opM subD (rd 5) (cst (.int 1))) (aCons (revT (opM subD (rd 5) (cst (.int 2)))) aNil)))))
 (asgM (nameT 4) (callM m__law_one (aCons (rd 1) (aCons (frz (lstM (aCons (tupM (aCons (rd 5) (aCons (rd 6) (aCons (slM slAny (rd 7) (prt (cst (.int 1))) noP) aNil)))) (aCons (tupM (aCons (rd 8) (aCons (rd 6) (aCons (rd 7) aNil)))) (aCons (tupM (aCons (rd 5) (aCons (revT (rd 6)) (aCons (revT (rd 7)) aNil)))) aNil))))) aNil))))))
 nxM)
 (seqM (forM (seqI (frz (lstM (aCons (rd 3) (aCons (rd 4) aNil))))) (nameT 9)
 (seqM (asgM (nameT 10) (callM m__law_text (aCons (rd 9) aNil)))
 (seqM (ifS (orM (tstM (opM isNotM (callM m_scheme_error (aCons (rd 9) aNil)) (cst .non))) (tstM (opM neM (cbM reprM (aCons (frz (opF lstMul (frz (lstM (aCons (callM m_scheme_text (aCons (rd 9) aNil)) aNil))) (cst (.int 2)))) aNil)) (cbM reprM (aCons (frz (lstM (aCons (rd 10) (aCons (callM m_scheme_text (aCons (rd 9) aNil)) aNil)))) aNil)))))
 (retM (cst (.bl false)))
 nxM)
 (ifS (tstM (opM neM (cbM reprM (aCons (frz (lstM (aCons (callM m_parse_scheme (aCons (rd 10) aNil)) (aCons (callM m_parse_scheme (aCons (rd 10) aNil)) aNil)))) aNil)) (cbM reprM (aCons (frz (lstM (aCons (rd 9) (aCons (rd 9) aNil)))) aNil))))
 (retM (cst (.bl false)))
 nxM))))
 (ifS (tstM (opM neM (opM eqM (callM m_scheme_text (aCons (rd 3) aNil)) (callM m_scheme_text (aCons (rd 4) aNil))) (opM eqM (rd 3) (rd 4))))
 (retM (cst (.bl false)))
 nxM)))))
 (retM (cst (.bl true))))
/-! ### the defs keep them -/
section
variable {P : Program} {ww : WW} {K : Fg} {mg : Str → Option Value} {base : Heap}
theorem ok__law_deck (T : Txt K mg) {f : Addr} {fd : FuncData} (Fn : Fun K "_law_deck" "_law_deck" s__law_deck f fd)  : FnG P WW.w K mg base 1 f fd ["_law_script"] (spDeck K) :=
  fn_deck Fn sc__law_deck rfl rfl fun cdv A outer s H E => by
  refine (pss_one (ps_ret (pe_lst (pa_cons (pe_lc (own := [("_law_cell", 1)]) (g := gName 1) rfl sc__law_deck.nd (pi_list (pe_slice sl_list (pv 0) po_none (po_some pe_int))) (blkOk_by (own := [("_law_cell", 1)]) (N := ["_law_script", "_law_cell"]) (sc := defScope s__law_deck) (by decide +kernel)) (fun _ _ _ _ _ => pg_name (i := 1) sc__law_deck.nd rfl (Or.inl rfl)) (fun _ _ _ _ _ => pts_nil) (fun _ _ _ _ _ => pe_callB call_abs (by rfl) T.n_abs (by decide +kernel) (pa_cons (pv 1) pa_nil))) (pa_cons pe_int pa_nil)))))
theorem ok__law_draw (T : Txt K mg) {f : Addr} {fd : FuncData} (Fn : Fun K "_law_draw" "_law_draw" s__law_draw f fd)  : FnG P WW.w K mg base 1 f fd ["_law_deck_here", "_law_many"] (spD K 2 m__law_draw) :=
  fn_draw (c := dc) (by unfold DC.ok dc; decide) Fn sc__law_draw rfl rfl fun cdv A outer s H E => by
  refine (pss_cons (ps_asg (pe_op op_add (pe_ix ix_seq (pv 0) pe_int (fun _ _ => rfl)) pe_int) (pg_sub (pv 0) pe_int set_list))
 (pss_cons (ps_asg (pe_tup (pa_cons pe_int (pa_cons (pe_un un_neg pe_int) pa_nil))) (pg_tup rfl (pgs_cons (pg_name (i := 2) sc__law_draw.nd rfl (Or.inl rfl)) (pgs_cons (pg_name (i := 3) sc__law_draw.nd rfl (Or.inl rfl)) pgs_nil))))
 (pss_cons (ps_if (pt_cmpR op_gt (pe_callB call_len (by rfl) T.n_len (by decide +kernel) (pa_cons (pe_ix ix_seq (pv 0) pe_int (fun _ _ => rfl)) pa_nil)) pe_int (nomark _))
   (pss_cons (ps_set (i := 3) sc__law_draw.nd rfl (Or.inl rfl) (pe_op op_mod (pe_callTy call_int1 (by rfl) T.n_int (by decide +kernel) (pa_cons (pe_ix ix_seq (pv 0) pe_int (fun _ _ => rfl)) pa_nil)) (pe_callB call_len (by rfl) T.n_len (by decide +kernel) (pa_cons (pe_ix ix_seq (pv 0) pe_int (fun _ _ => rfl)) pa_nil)))) (pss_one (ps_set (i := 2) sc__law_draw.nd rfl (Or.inl rfl) (pe_ix ix_seq (pe_ix ix_seq (pv 0) pe_int (fun _ _ => rfl)) (pv 3) (fun _ _ => rfl))))) pss_nil)
 (pss_cons (ps_if (pt_cmpR op_ge (pv 2) (pe_op op_pow pe_int pe_int) (nomark _))
   (pss_cons (ps_asg (pe_op op_fdiv (pe_callTy call_int1 (by rfl) T.n_int (by decide +kernel) (pa_cons (pv 2) pa_nil)) (pv 1)) (pg_sub (pe_ix ix_seq (pv 0) pe_int (fun _ _ => rfl)) (pv 3) set_list)) (pss_one (ps_ret (pe_op op_mod (pe_callTy call_int1 (by rfl) T.n_int (by decide +kernel) (pa_cons (pv 2) pa_nil)) (pv 1))))) pss_nil)
 (pss_cons (ps_set (i := 4) sc__law_draw.nd rfl (Or.inl rfl) (pe_op op_add (pe_op op_add (pe_op op_mod (pe_callTy call_int1 (by rfl) T.n_int (by decide +kernel) (pa_cons (pv 2) pa_nil)) pe_int) (pe_op op_mul pe_int (pe_ix ix_seq (pv 0) pe_int (fun _ _ => rfl)))) pe_int))
 (pss_one (ps_ret (pe_op op_mod (pe_callTy call_int1 (by rfl) T.n_int (by decide +kernel) (pa_cons (pe_op op_mod (pe_callTy call_int1 (by rfl) T.n_int (by decide +kernel) (pa_cons (pe_op op_pow (pv 4) pe_int) pa_nil)) pe_int) pa_nil)) (pv 1)))))))))
theorem ok__law_kind (T : Txt K mg) {f : Addr} {fd : FuncData} (Fn : Fun K "_law_kind" "_law_kind" s__law_kind f fd) (c__law_draw : Cal P WW.w K mg base 1 "_law_draw" ["_law_deck_here", "_law_many"] (spD K 2 m__law_draw)) : FnG P WW.w K mg base 2 f fd ["_law_deck_here", "_law_letters", "_law_most"] (spD K 3 m__law_kind) :=
  fnD Fn sc__law_kind (by decide) fun cdv A outer s H E hr gd => ⟨_, (pss_cons (ps_asg (pe_tup (pa_cons (pe_op op_addA pe_int (pe_callC c__law_draw hr gd (by rfl) (pa_cons (pv 0) (pa_cons (pv 2) pa_nil)))) (pa_cons (pe_lst pa_nil) (pa_cons (pe_lst pa_nil) pa_nil)))) (pg_tup rfl (pgs_cons (pg_name (i := 3) sc__law_kind.nd rfl (Or.inr rfl)) (pgs_cons (pg_name (i := 4) sc__law_kind.nd rfl (Or.inl rfl)) (pgs_cons (pg_name (i := 5) sc__law_kind.nd rfl (Or.inl rfl)) pgs_nil)))))
 (pss_cons (ps_for PassesOwn.never rfl (pi_range1 (by rfl) T.n_range (pa_cons (pv 3) pa_nil)) (pg_name (i := 6) sc__law_kind.nd rfl (Or.inl rfl))
 (pss_cons (ps_setLc (i := 7) (own := [("_law_j", 8)]) (g := (gName 8)) rfl sc__law_kind.nd rfl rfl (sw_true rfl rfl rfl (by decide +kernel)) (pi_range1 (by rfl) T.n_range (pa_cons (pv 1) pa_nil)) (blkOk_by (own := [("_law_j", 8)]) (N := ["_law_deck_here", "_law_letters", "_law_most", "_law_many", "_law_rows", "_law_ends", "_law_k", "_law_row", "_law_j"]) (sc := defScope s__law_kind) (by decide +kernel)) (fun _ _ _ _ _ => (pg_name (i := 8) sc__law_kind.nd rfl (Or.inl rfl))) (fun _ _ _ _ _ => pts_nil) (fun _ _ _ _ _ => (pe_ifExp (pt_cmpR (op_eqA hr.units) (pe_callC c__law_draw hr gd (by rfl) (pa_cons (pv 0) (pa_cons pe_int pa_nil))) pe_int (nomark _)) pe_non (pe_callC c__law_draw hr gd (by rfl) (pa_cons (pv 0) (pa_cons (pv 3) pa_nil))))))
 (pss_cons (ps_expr (pe_bm PySem.F.plainAttrs_list PySem.F.slot_list_append PySem.F.type_list_append mt_append (pv 4) (pa_cons (pe_callTy (call_tupA rfl) (by rfl) T.n_tuple (by decide +kernel) (pa_cons (pv 7) pa_nil)) pa_nil)))
 (pss_one (ps_expr (pe_bm PySem.F.plainAttrs_list PySem.F.slot_list_append PySem.F.type_list_append mt_append (pv 5) (pa_cons (pe_cmpR op_gt (pe_callC c__law_draw hr gd (by rfl) (pa_cons (pv 0) (pa_cons pe_int pa_nil))) pe_int (nomark _)) pa_nil)))))))
 (pss_one (ps_ret (pe_tup (pa_cons (pv 1) (pa_cons (pe_callTy (call_tupA rfl) (by rfl) T.n_tuple (by decide +kernel) (pa_cons (pv 4) pa_nil)) (pa_cons (pe_callTy (call_tupA rfl) (by rfl) T.n_tuple (by decide +kernel) (pa_cons (pv 5) pa_nil)) pa_nil)))))))),
 (is_seq (is_asg (im_tup (ia_cons (im_op ro_addA (im_int).w ((im_call (ia_cons (im_var 0) (ia_cons (im_var 2) ia_nil)) (an_cons (an_cons an_nil)))).w) (ia_cons ((if_lst ia_nil)).sto (ia_cons ((if_lst ia_nil)).sto ia_nil)))) (ig_tup (igs_cons (ig_name 3) (igs_cons (ig_name 4) (igs_cons (ig_name 5) igs_nil)))))
 (is_seq (is_for (ii_range1 (iaw_cons ((im_var 3)).w iaw_nil)) (ig_name 6)
 (is_seq (is_asg ((if_comp (vs := [8]) (ii_range1 (iaw_cons ((im_var 1)).w iaw_nil)) (ig_name 8) it_yes (im_if (it_test (im_op ro_eq ((im_call (ia_cons (im_var 0) (ia_cons im_int ia_nil)) (an_cons (an_cons an_nil)))).w (im_int).w)) im_non (im_call (ia_cons (im_var 0) (ia_cons (im_var 3) ia_nil)) (an_cons (an_cons an_nil)))) (by decide))).im (ig_name 7))
 (is_seq (is_sapp (im_var 4) (im_cb rc_tupA (iaw_cons ((im_var 7)).w iaw_nil)))
 (is_sapp (im_var 5) (im_op ro_gt ((im_call (ia_cons (im_var 0) (ia_cons im_int ia_nil)) (an_cons (an_cons an_nil)))).w (im_int).w)))))
 (is_ret (im_tup (ia_cons (im_var 1) (ia_cons (im_cb rc_tupA (iaw_cons ((im_var 4)).w iaw_nil)) (ia_cons (im_cb rc_tupA (iaw_cons ((im_var 5)).w iaw_nil)) ia_nil)))))))⟩
theorem ok__law_one (T : Txt K mg) {f : Addr} {fd : FuncData} (Fn : Fun K "_law_one" "_law_one" s__law_one f fd) (c__law_draw : Cal P WW.w K mg base 1 "_law_draw" ["_law_deck_here", "_law_many"] (spD K 2 m__law_draw)) : FnG P WW.w K mg base 2 f fd ["_law_deck_here", "_law_items"] (spD K 2 m__law_one) :=
  fnD Fn sc__law_one (by decide) fun cdv A outer s H E hr gd => ⟨_, (pss_one (ps_ret (pe_sub (units1 hr.units) (pv 1) (pe_callC c__law_draw hr gd (by rfl) (pa_cons (pv 0) (pa_cons (pe_callB call_lenA (by rfl) T.n_len (by decide +kernel) (pa_cons (pv 1) pa_nil)) pa_nil)))))),
 (is_ret (im_sub ((im_var 1)).w ((im_call (ia_cons (im_var 0) (ia_cons (im_cb rc_lenA (iaw_cons ((im_var 1)).w iaw_nil)) ia_nil)) (an_cons (an_cons an_nil)))).w))⟩
theorem ok__law_units (T : Txt K mg) {f : Addr} {fd : FuncData} (Fn : Fun K "_law_units" "_law_units" s__law_units f fd) (c__law_draw : Cal P WW.w K mg base 1 "_law_draw" ["_law_deck_here", "_law_many"] (spD K 2 m__law_draw)) (c__law_one : Cal P WW.w K mg base 2 "_law_one" ["_law_deck_here", "_law_items"] (spD K 2 m__law_one)) : FnG P WW.w K mg base 3 f fd ["_law_deck_here", "_law_letters"] (spD K 2 m__law_units) :=
  fnD Fn sc__law_units (by decide) fun cdv A outer s H E hr gd => ⟨_, (pss_cons (ps_set (i := 2) sc__law_units.nd rfl (Or.inl rfl) (pe_lst pa_nil))
 (pss_cons (ps_for PassesOwn.never rfl (pi_range1 (by rfl) T.n_range (pa_cons (pe_op op_addA pe_int (pe_callC c__law_draw hr gd (by rfl) (pa_cons (pv 0) (pa_cons pe_int pa_nil)))) pa_nil)) (pg_name (i := 3) sc__law_units.nd rfl (Or.inl rfl))
 (pss_one (ps_expr (pe_bm PySem.F.plainAttrs_list PySem.F.slot_list_append PySem.F.type_list_append mt_append (pv 2) (pa_cons (pe_callTy (call_tupA rfl) (by rfl) T.n_tuple (by decide +kernel) (pa_cons (pe_lc (own := [("_law_j", 4)]) (g := (gName 4)) rfl sc__law_units.nd (pi_range1 (by rfl) T.n_range (pa_cons (pv 1) pa_nil)) (blkOk_by (own := [("_law_j", 4)]) (N := ["_law_deck_here", "_law_letters", "_law_found", "_law_k", "_law_j"]) (sc := defScope s__law_units) (by decide +kernel)) (fun _ _ _ _ _ => (pg_name (i := 4) sc__law_units.nd rfl (Or.inl rfl))) (fun _ _ _ _ _ => pts_nil) (fun _ _ _ _ _ => (pe_callC c__law_one hr gd (by rfl) (pa_cons (pv 0) (pa_cons (pe_lst (pa_cons pe_int (pa_cons pe_int (pa_cons pe_int (pa_cons pe_int (pa_cons pe_int (pa_cons pe_int (pa_cons pe_int (pa_cons pe_int pa_nil))))))))) pa_nil))))) pa_nil)) pa_nil)))))
 (pss_one (ps_ret (pe_callTy (call_tupA rfl) (by rfl) T.n_tuple (by decide +kernel) (pa_cons (pv 2) pa_nil)))))),
 (is_seq (is_own 2 (if_lst ia_nil))
 (is_seq (is_for (ii_range1 (iaw_cons ((im_op ro_addA (im_int).w ((im_call (ia_cons (im_var 0) (ia_cons im_int ia_nil)) (an_cons (an_cons an_nil)))).w)).w iaw_nil)) (ig_name 3)
 (is_app 2 (im_cb rc_tupA (iaw_cons ((if_comp (vs := [4]) (ii_range1 (iaw_cons ((im_var 1)).w iaw_nil)) (ig_name 4) it_yes (im_call (ia_cons (im_var 0) (ia_cons ((if_lst (ia_cons im_int (ia_cons im_int (ia_cons im_int (ia_cons im_int (ia_cons im_int (ia_cons im_int (ia_cons im_int (ia_cons im_int ia_nil)))))))))).im ia_nil)) (an_cons (an_cons an_nil))) (by decide))).w iaw_nil))))
 (is_ret (im_cb rc_tupA (iaw_cons (im_own 2) iaw_nil)))))⟩
theorem ok__law_cut (T : Txt K mg) {f : Addr} {fd : FuncData} (Fn : Fun K "_law_cut" "_law_cut" s__law_cut f fd) (c__law_draw : Cal P WW.w K mg base 1 "_law_draw" ["_law_deck_here", "_law_many"] (spD K 2 m__law_draw)) : FnG P WW.w K mg base 2 f fd ["_law_deck_here", "_law_letters", "_law_units_here", "_law_most"] (spD K 4 m__law_cut) :=
  fnD Fn sc__law_cut (by decide) fun cdv A outer s H E hr gd => ⟨_, (pss_cons (ps_set (i := 4) sc__law_cut.nd rfl (Or.inl rfl) (pe_join pe_str (pe_lc (own := [("_law_letter", 5)]) (g := (gName 5)) rfl sc__law_cut.nd (pi_seq (pe_slice sl_any pe_str po_none (po_some (pv 1)))) (blkOk_by (own := [("_law_letter", 5)]) (N := ["_law_deck_here", "_law_letters", "_law_units_here", "_law_most", "_law_clings", "_law_letter"]) (sc := defScope s__law_cut) (by decide +kernel)) (fun _ _ _ _ _ => (pg_name (i := 5) sc__law_cut.nd rfl (Or.inl rfl))) (fun _ _ _ _ _ => (pts_one (pt_cmpR (op_eqA hr.units) (pe_callC c__law_draw hr gd (by rfl) (pa_cons (pv 0) (pa_cons pe_int pa_nil))) pe_int (nomark _)))) (fun _ _ _ _ _ => (pv 5)))))
 (pss_one (ps_ret (pe_tup (pa_cons (pe_callC c__law_draw hr gd (by rfl) (pa_cons (pv 0) (pa_cons (pe_callB call_lenA (by rfl) T.n_len (by decide +kernel) (pa_cons (pv 2) pa_nil)) pa_nil))) (pa_cons (pe_callC c__law_draw hr gd (by rfl) (pa_cons (pv 0) (pa_cons (pe_op op_addA (pv 3) pe_int) pa_nil))) (pa_cons (pv 4) pa_nil))))))),
 (is_seq (is_asg (im_m1 rm_join (im_str).w ((if_comp (vs := [5]) (ii_seq (im_sl rs_any (im_str).w io_none (io_some ((im_var 1)).w))) (ig_name 5) (it_test (im_op ro_eq ((im_call (ia_cons (im_var 0) (ia_cons im_int ia_nil)) (an_cons (an_cons an_nil)))).w (im_int).w)) (im_var 5) (by decide))).w) (ig_name 4))
 (is_ret (im_tup (ia_cons (im_call (ia_cons (im_var 0) (ia_cons (im_cb rc_lenA (iaw_cons ((im_var 2)).w iaw_nil)) ia_nil)) (an_cons (an_cons an_nil))) (ia_cons (im_call (ia_cons (im_var 0) (ia_cons (im_op ro_addA ((im_var 3)).w (im_int).w) ia_nil)) (an_cons (an_cons an_nil))) (ia_cons (im_var 4) ia_nil))))))⟩
theorem ok__law_scheme (T : Txt K mg) {f : Addr} {fd : FuncData} (Fn : Fun K "_law_scheme" "_law_scheme" s__law_scheme f fd) (c__law_draw : Cal P WW.w K mg base 1 "_law_draw" ["_law_deck_here", "_law_many"] (spD K 2 m__law_draw)) (c__law_kind : Cal P WW.w K mg base 2 "_law_kind" ["_law_deck_here", "_law_letters", "_law_most"] (spD K 3 m__law_kind)) (c__law_units : Cal P WW.w K mg base 3 "_law_units" ["_law_deck_here", "_law_letters"] (spD K 2 m__law_units)) (c__law_cut : Cal P WW.w K mg base 2 "_law_cut" ["_law_deck_here", "_law_letters", "_law_units_here", "_law_most"] (spD K 4 m__law_cut)) : FnG P WW.w K mg base 4 f fd ["_law_deck_here", "_law_states", "_law_most"] (spD K 3 m__law_scheme) :=
  fnD Fn sc__law_scheme (by decide) fun cdv A outer s H E hr gd => ⟨_, (pss_cons (ps_set (i := 3) sc__law_scheme.nd rfl (Or.inr rfl) (pe_op op_addA pe_int (pe_callC c__law_draw hr gd (by rfl) (pa_cons (pv 0) (pa_cons pe_int pa_nil)))))
 (pss_cons (ps_asg (pe_tup (pa_cons (pe_callC c__law_kind hr gd (by rfl) (pa_cons (pv 0) (pa_cons (pv 3) (pa_cons (pv 1) pa_nil)))) (pa_cons (pe_callC c__law_units hr gd (by rfl) (pa_cons (pv 0) (pa_cons (pv 3) pa_nil))) pa_nil))) (pg_tup rfl (pgs_cons (pg_name (i := 4) sc__law_scheme.nd rfl (Or.inl rfl)) (pgs_cons (pg_name (i := 5) sc__law_scheme.nd rfl (Or.inr rfl)) pgs_nil))))
 (pss_one (ps_ret (pe_tup (pa_cons (pv 4) (pa_cons (pv 5) (pa_cons (pe_callTy (call_tupA rfl) (by rfl) T.n_tuple (by decide +kernel) (pa_cons (pe_lc (own := [("_law_k", 6)]) (g := (gName 6)) rfl sc__law_scheme.nd (pi_range1 (by rfl) T.n_range (pa_cons (pe_callC c__law_draw hr gd (by rfl) (pa_cons (pv 0) (pa_cons pe_int pa_nil))) pa_nil)) (blkOk_by (own := [("_law_k", 6)]) (N := ["_law_deck_here", "_law_states", "_law_most", "_law_letters", "_law_kind_here", "_law_units_here", "_law_k"]) (sc := defScope s__law_scheme) (by decide +kernel)) (fun _ _ _ _ _ => (pg_name (i := 6) sc__law_scheme.nd rfl (Or.inl rfl))) (fun _ _ _ _ _ => pts_nil) (fun _ _ _ _ _ => (pe_callC c__law_cut hr gd (by rfl) (pa_cons (pv 0) (pa_cons (pv 3) (pa_cons (pv 5) (pa_cons (pv 2) pa_nil))))))) pa_nil)) pa_nil)))))))),
 (is_seq (is_asg (im_op ro_addA (im_int).w ((im_call (ia_cons (im_var 0) (ia_cons im_int ia_nil)) (an_cons (an_cons an_nil)))).w) (ig_name 3))
 (is_seq (is_asg (im_tup (ia_cons (im_call (ia_cons (im_var 0) (ia_cons (im_var 3) (ia_cons (im_var 1) ia_nil))) (an_cons (an_cons (an_cons an_nil)))) (ia_cons (im_call (ia_cons (im_var 0) (ia_cons (im_var 3) ia_nil)) (an_cons (an_cons an_nil))) ia_nil))) (ig_tup (igs_cons (ig_name 4) (igs_cons (ig_name 5) igs_nil))))
 (is_ret (im_tup (ia_cons (im_var 4) (ia_cons (im_var 5) (ia_cons (im_cb rc_tupA (iaw_cons ((if_comp (vs := [6]) (ii_range1 (iaw_cons ((im_call (ia_cons (im_var 0) (ia_cons im_int ia_nil)) (an_cons (an_cons an_nil)))).w iaw_nil)) (ig_name 6) it_yes (im_call (ia_cons (im_var 0) (ia_cons (im_var 3) (ia_cons (im_var 5) (ia_cons (im_var 2) ia_nil)))) (an_cons (an_cons (an_cons (an_cons an_nil))))) (by decide))).w iaw_nil)) ia_nil)))))))⟩
theorem ok__law_text (T : Txt K mg) {f : Addr} {fd : FuncData} (Fn : Fun K "_law_text" "_law_text" s__law_text f fd)  : FnG P WW.w K mg base 1 f fd ["_law_scheme_here"] (spD K 1 m__law_text) :=
  fnD Fn sc__law_text (by decide) fun cdv A outer s H E hr gd => ⟨_, (pss_cons (ps_asg (pv 0) (pg_tup rfl (pgs_cons (pg_name (i := 1) sc__law_text.nd rfl (Or.inl rfl)) (pgs_cons (pg_name (i := 2) sc__law_text.nd rfl (Or.inl rfl)) (pgs_cons (pg_name (i := 3) sc__law_text.nd rfl (Or.inl rfl)) pgs_nil)))))
 (pss_cons (ps_set (i := 4) sc__law_text.nd rfl (Or.inl rfl) (pe_lst (pa_cons (pe_op op_addA pe_str (pe_slice sl_any pe_str po_none (po_some (pe_sub (units1 hr.units) (pv 1) pe_int)))) pa_nil)))
 (pss_cons (ps_for PassesOwn.never rfl (RZ.pi_zipA (by rfl) T.n_zip (pa_cons (pe_sub (units1 hr.units) (pv 1) pe_int) (pa_cons (pe_sub (units1 hr.units) (pv 1) pe_int) pa_nil))) (pg_tup rfl (pgs_cons (pg_name (i := 5) sc__law_text.nd rfl (Or.inl rfl)) (pgs_cons (pg_name (i := 6) sc__law_text.nd rfl (Or.inl rfl)) pgs_nil)))
 (pss_cons (ps_setLc (i := 7) (own := [("_law_item", 11)]) (g := (gName 11)) rfl sc__law_text.nd rfl rfl (sw_true rfl rfl rfl (by decide +kernel)) (pi_seq (pv 5)) (blkOk_by (own := [("_law_item", 11)]) (N := ["_law_scheme_here", "_law_kind_here", "_law_units_here", "_law_cuts", "_law_found", "_law_row", "_law_is_end", "_law_items", "_law_unit", "_law_most", "_law_clings", "_law_item", "_law_number"]) (sc := defScope s__law_text) (by decide +kernel)) (fun _ _ _ _ _ => (pg_name (i := 11) sc__law_text.nd rfl (Or.inl rfl))) (fun _ _ _ _ _ => pts_nil) (fun _ _ _ _ _ => (pe_ifExp (pt_cmpR op_isN (pv 11) pe_non (nomark _)) pe_str (pe_callTy call_str_int (by rfl) T.n_str (by decide +kernel) (pa_cons (pv 11) pa_nil)))))
 (pss_one (ps_expr (pe_bm PySem.F.plainAttrs_list PySem.F.slot_list_append PySem.F.type_list_append mt_append (pv 4) (pa_cons (pe_join pe_str (pe_op op_addA (pe_op op_addA (pe_lst (pa_cons pe_str pa_nil)) (pv 7)) (pe_ifExp (pt_truth (pv 6) (by intro _; rfl)) (pe_lst (pa_cons pe_str pa_nil)) (pe_lst pa_nil)))) pa_nil))))))
 (pss_cons (ps_set (i := 4) sc__law_text.nd rfl (Or.inl rfl) (pe_op op_addA (pv 4) (pe_lc (own := [("_law_unit", 8)]) (g := (gName 8)) rfl sc__law_text.nd (pi_seq (pv 2)) (blkOk_by (own := [("_law_unit", 8)]) (N := ["_law_scheme_here", "_law_kind_here", "_law_units_here", "_law_cuts", "_law_found", "_law_row", "_law_is_end", "_law_items", "_law_unit", "_law_most", "_law_clings", "_law_item", "_law_number"]) (sc := defScope s__law_text) (by decide +kernel)) (fun _ _ _ _ _ => (pg_name (i := 8) sc__law_text.nd rfl (Or.inl rfl))) (fun _ _ _ _ _ => pts_nil) (fun _ _ _ _ _ => (pe_join pe_str (pe_op op_addA (pe_lst (pa_cons pe_str pa_nil)) (pe_lc (own := [("_law_number", 12)]) (g := (gName 12)) rfl sc__law_text.nd (pi_seq (pv 8)) (blkOk_by (own := [("_law_number", 12)]) (by kernel_rfl)) (fun _ _ _ _ _ => (pg_name (i := 12) sc__law_text.nd rfl (Or.inl rfl))) (fun _ _ _ _ _ => pts_nil) (fun _ _ _ _ _ => (pe_callTy call_str_int (by rfl) T.n_str (by decide +kernel) (pa_cons (pv 12) pa_nil))))))))))
 (pss_cons (ps_for PassesOwn.never rfl (pi_seq (pv 3)) (pg_tup rfl (pgs_cons (pg_name (i := 8) sc__law_text.nd rfl (Or.inl rfl)) (pgs_cons (pg_name (i := 9) sc__law_text.nd rfl (Or.inl rfl)) (pgs_cons (pg_name (i := 10) sc__law_text.nd rfl (Or.inl rfl)) pgs_nil))))
 (pss_one (ps_expr (pe_bm PySem.F.plainAttrs_list PySem.F.slot_list_append PySem.F.type_list_append mt_append (pv 4) (pa_cons (pe_join pe_str (pe_lst (pa_cons pe_str (pa_cons (pe_callTy call_str_int (by rfl) T.n_str (by decide +kernel) (pa_cons (pv 8) pa_nil)) (pa_cons (pe_callTy call_str_int (by rfl) T.n_str (by decide +kernel) (pa_cons (pv 9) pa_nil)) (pa_cons (pe_ifExp (pt_cmpR (op_neA hr.units) (pv 10) pe_str (nomark _)) (pv 10) pe_str) pa_nil)))))) pa_nil)))))
 (pss_one (ps_ret (pe_join pe_str (pv 4))))))))),
 (is_seq (is_asg (im_var 0) (ig_tup (igs_cons (ig_name 1) (igs_cons (ig_name 2) (igs_cons (ig_name 3) igs_nil)))))
 (is_seq (is_own 4 (if_lst (ia_cons (im_op ro_addA (im_str).w ((im_sl rs_any (im_str).w io_none (io_some ((im_sub ((im_var 1)).w (im_int).w)).w))).w) ia_nil)))
 (is_seq (is_for (ii_zip (im_sub ((im_var 1)).w (im_int).w) (im_sub ((im_var 1)).w (im_int).w)) (ig_tup (igs_cons (ig_name 5) (igs_cons (ig_name 6) igs_nil)))
 (is_seq (is_asg ((if_comp (vs := [11]) (ii_seq (im_var 5)) (ig_name 11) it_yes (im_if (it_test (im_op ro_is ((im_var 11)).w (im_non).w)) im_str (im_cb rc_strInt (iaw_cons ((im_var 11)).w iaw_nil))) (by decide))).im (ig_name 7))
 (is_app 4 (im_m1 rm_join (im_str).w ((im_op ro_addA ((im_op ro_addA ((if_lst (ia_cons im_str ia_nil))).w ((im_var 7)).w)).w ((im_if (it_truth ((im_var 6)).w) ((if_lst (ia_cons im_str ia_nil))).im ((if_lst ia_nil)).im)).w)).w))))
 (is_seq (is_own 4 (im_opF rof_addL (im_own 4) ((if_comp (vs := [8]) (ii_seq (im_var 2)) (ig_name 8) it_yes (im_m1 rm_join (im_str).w ((im_op ro_addA ((if_lst (ia_cons im_str ia_nil))).w ((if_comp (vs := [12]) (ii_seq (im_var 8)) (ig_name 12) it_yes (im_cb rc_strInt (iaw_cons ((im_var 12)).w iaw_nil)) (by decide))).w)).w) (by decide))).w))
 (is_seq (is_for (ii_seq (im_var 3)) (ig_tup (igs_cons (ig_name 8) (igs_cons (ig_name 9) (igs_cons (ig_name 10) igs_nil))))
 (is_app 4 (im_m1 rm_join (im_str).w ((if_lst (ia_cons im_str (ia_cons (im_cb rc_strInt (iaw_cons ((im_var 8)).w iaw_nil)) (ia_cons (im_cb rc_strInt (iaw_cons ((im_var 9)).w iaw_nil)) (ia_cons (im_if (it_test (im_op ro_ne ((im_var 10)).w (im_str).w)) (im_var 10) im_str) ia_nil)))))).w)))
 (is_ret (im_m1 rm_join (im_str).w (im_own 4))))))))⟩
theorem ok_state_line (T : Txt K mg) {f : Addr} {fd : FuncData} (Fn : Fun K "state_line" "state_line" s_state_line f fd)  : FnG P WW.w K mg base 1 f fd ["row", "is_end"] (spD K 2 m_state_line) :=
  fnD Fn sc_state_line (by decide) fun cdv A outer s H E hr gd => ⟨_, (pss_cons (ps_setLc (i := 2) (own := [("item", 3)]) (g := (gName 3)) rfl sc_state_line.nd rfl rfl (sw_true rfl rfl rfl (by decide +kernel)) (pi_seq (pv 0)) (blkOk_by (own := [("item", 3)]) (N := ["row", "is_end", "items", "item"]) (sc := defScope s_state_line) (by decide +kernel)) (fun _ _ _ _ _ => (pg_name (i := 3) sc_state_line.nd rfl (Or.inl rfl))) (fun _ _ _ _ _ => pts_nil) (fun _ _ _ _ _ => (pe_ifExp (pt_cmpR op_isN (pv 3) pe_non (nomark _)) (pe_gstr (by rfl) T.c_NOTHING) (pe_callTy call_str_int (by rfl) T.n_str (by decide +kernel) (pa_cons (pv 3) pa_nil)))))
 (pss_one (ps_ret (pe_join pe_str (pe_op op_addA (pe_op op_addA (pe_lst (pa_cons pe_str pa_nil)) (pv 2)) (pe_op op_rep (pe_lst (pa_cons (pe_gstr (by rfl) T.c_END) pa_nil)) (pe_callTy call_int1 (by rfl) T.n_int (by decide +kernel) (pa_cons (pv 1) pa_nil)))))))),
 (is_seq (is_asg ((if_comp (vs := [3]) (ii_seq (im_var 0)) (ig_name 3) it_yes (im_if (it_test (im_op ro_is ((im_var 3)).w (im_non).w)) im_str (im_cb rc_strInt (iaw_cons ((im_var 3)).w iaw_nil))) (by decide))).im (ig_name 2))
 (is_ret (im_m1 rm_join (im_str).w ((im_op ro_addA ((im_op ro_addA ((if_lst (ia_cons im_str ia_nil))).w ((im_var 2)).w)).w ((im_opF rof_mul ((if_lst (ia_cons im_str ia_nil))).w ((im_cb rc_int1 (iaw_cons ((im_var 1)).w iaw_nil))).w)).w)).w)))⟩
theorem ok_cut_line (T : Txt K mg) {f : Addr} {fd : FuncData} (Fn : Fun K "cut_line" "cut_line" s_cut_line f fd)  : FnG P WW.w K mg base 1 f fd ["cut"] (spD K 1 m_cut_line) :=
  fnD Fn sc_cut_line (by decide) fun cdv A outer s H E hr gd => ⟨_, (pss_cons (ps_asg (pv 0) (pg_tup rfl (pgs_cons (pg_name (i := 1) sc_cut_line.nd rfl (Or.inl rfl)) (pgs_cons (pg_name (i := 2) sc_cut_line.nd rfl (Or.inl rfl)) (pgs_cons (pg_name (i := 3) sc_cut_line.nd rfl (Or.inl rfl)) pgs_nil)))))
 (pss_one (ps_ret (pe_op op_addA (pe_joined (.cons pe_str (.cons (pe_fmt (pv 1)) (.cons pe_str (.cons (pe_fmt (pv 2)) (.cons pe_str .nil)))))) (pe_ifExp (pt_cmpR (op_eqA hr.units) (pv 3) pe_str (nomark _)) (pe_gstr (by rfl) T.c_NO_LETTERS) (pv 3)))))),
 (is_seq (is_asg (im_var 0) (ig_tup (igs_cons (ig_name 1) (igs_cons (ig_name 2) (igs_cons (ig_name 3) igs_nil)))))
 (is_ret (im_op ro_addA ((im_joined (.cons im_str (.cons (im_fmt (im_var 1)) (.cons im_str (.cons (im_fmt (im_var 2)) (.cons im_str .nil))))))).w ((im_if (it_test (im_op ro_eq ((im_var 3)).w (im_str).w)) im_str (im_var 3))).w)))⟩
theorem ok_scheme_text (T : Txt K mg) {f : Addr} {fd : FuncData} (Fn : Fun K "scheme_text" "scheme_text" s_scheme_text f fd) (c_state_line : Cal P WW.w K mg base 1 "state_line" ["row", "is_end"] (spD K 2 m_state_line)) (c_cut_line : Cal P WW.w K mg base 1 "cut_line" ["cut"] (spD K 1 m_cut_line)) : FnG P WW.w K mg base 2 f fd ["scheme"] (spD K 1 m_scheme_text) :=
  fnD Fn sc_scheme_text (by decide) fun cdv A outer s H E hr gd => ⟨_, (pss_cons (ps_asg (pv 0) (pg_tup rfl (pgs_cons (pg_name (i := 1) sc_scheme_text.nd rfl (Or.inl rfl)) (pgs_cons (pg_name (i := 2) sc_scheme_text.nd rfl (Or.inl rfl)) (pgs_cons (pg_name (i := 3) sc_scheme_text.nd rfl (Or.inl rfl)) pgs_nil)))))
 (pss_cons (ps_set (i := 4) sc_scheme_text.nd rfl (Or.inl rfl) (pe_op op_addA (pe_lst (pa_cons (pe_op op_addA pe_str (pe_slice sl_any (pe_gstr (by rfl) T.c_LETTERS_texts) po_none (po_some (pe_sub (units1 hr.units) (pv 1) pe_int)))) pa_nil)) (pe_lc (own := [("row", 5), ("is_end", 6)]) (g := (gTup _ 2 (gCons (gName 5) (gCons (gName 6) gNil)))) rfl sc_scheme_text.nd (RZ.pi_zipA (by rfl) T.n_zip (pa_cons (pe_sub (units1 hr.units) (pv 1) pe_int) (pa_cons (pe_sub (units1 hr.units) (pv 1) pe_int) pa_nil))) (blkOk_by (own := [("row", 5), ("is_end", 6)]) (N := ["scheme", "kind", "units", "cuts", "lines", "row", "is_end", "unit", "number", "cut"]) (sc := defScope s_scheme_text) (by decide +kernel)) (fun _ _ _ _ _ => (pg_tup rfl (pgs_cons (pg_name (i := 5) sc_scheme_text.nd rfl (Or.inl rfl)) (pgs_cons (pg_name (i := 6) sc_scheme_text.nd rfl (Or.inl rfl)) pgs_nil)))) (fun _ _ _ _ _ => pts_nil) (fun _ _ _ _ _ => (pe_callC c_state_line hr gd (by rfl) (pa_cons (pv 5) (pa_cons (pv 6) pa_nil)))))))
 (pss_cons (ps_set (i := 4) sc_scheme_text.nd rfl (Or.inl rfl) (pe_op op_addA (pv 4) (pe_lc (own := [("unit", 7)]) (g := (gName 7)) rfl sc_scheme_text.nd (pi_seq (pv 2)) (blkOk_by (own := [("unit", 7)]) (N := ["scheme", "kind", "units", "cuts", "lines", "row", "is_end", "unit", "number", "cut"]) (sc := defScope s_scheme_text) (by decide +kernel)) (fun _ _ _ _ _ => (pg_name (i := 7) sc_scheme_text.nd rfl (Or.inl rfl))) (fun _ _ _ _ _ => pts_nil) (fun _ _ _ _ _ => (pe_join pe_str (pe_op op_addA (pe_lst (pa_cons pe_str pa_nil)) (pe_lc (own := [("number", 8)]) (g := (gName 8)) rfl sc_scheme_text.nd (pi_seq (pv 7)) (blkOk_by (own := [("number", 8)]) (by kernel_rfl)) (fun _ _ _ _ _ => (pg_name (i := 8) sc_scheme_text.nd rfl (Or.inl rfl))) (fun _ _ _ _ _ => pts_nil) (fun _ _ _ _ _ => (pe_callTy call_str_int (by rfl) T.n_str (by decide +kernel) (pa_cons (pv 8) pa_nil))))))))))
 (pss_one (ps_ret (pe_join pe_str (pe_op op_addA (pv 4) (pe_lc (own := [("cut", 9)]) (g := (gName 9)) rfl sc_scheme_text.nd (pi_seq (pv 3)) (blkOk_by (own := [("cut", 9)]) (N := ["scheme", "kind", "units", "cuts", "lines", "row", "is_end", "unit", "number", "cut"]) (sc := defScope s_scheme_text) (by decide +kernel)) (fun _ _ _ _ _ => (pg_name (i := 9) sc_scheme_text.nd rfl (Or.inl rfl))) (fun _ _ _ _ _ => pts_nil) (fun _ _ _ _ _ => (pe_callC c_cut_line hr gd (by rfl) (pa_cons (pv 9) pa_nil))))))))))),
 (is_seq (is_asg (im_var 0) (ig_tup (igs_cons (ig_name 1) (igs_cons (ig_name 2) (igs_cons (ig_name 3) igs_nil)))))
 (is_seq (is_asg (im_op ro_addA ((if_lst (ia_cons (im_op ro_addA (im_str).w ((im_sl rs_any (im_str).w io_none (io_some ((im_sub ((im_var 1)).w (im_int).w)).w))).w) ia_nil))).w ((if_comp (vs := [5, 6]) (ii_zip (im_sub ((im_var 1)).w (im_int).w) (im_sub ((im_var 1)).w (im_int).w)) (ig_tup (igs_cons (ig_name 5) (igs_cons (ig_name 6) igs_nil))) it_yes (im_call (ia_cons (im_var 5) (ia_cons (im_var 6) ia_nil)) (an_cons (an_cons an_nil))) (by decide))).w) (ig_name 4))
 (is_seq (is_asg (im_op ro_addA ((im_var 4)).w ((if_comp (vs := [7]) (ii_seq (im_var 2)) (ig_name 7) it_yes (im_m1 rm_join (im_str).w ((im_op ro_addA ((if_lst (ia_cons im_str ia_nil))).w ((if_comp (vs := [8]) (ii_seq (im_var 7)) (ig_name 8) it_yes (im_cb rc_strInt (iaw_cons ((im_var 8)).w iaw_nil)) (by decide))).w)).w) (by decide))).w) (ig_name 4))
 (is_ret (im_m1 rm_join (im_str).w ((im_op ro_addA ((im_var 4)).w ((if_comp (vs := [9]) (ii_seq (im_var 3)) (ig_name 9) it_yes (im_call (ia_cons (im_var 9) ia_nil) (an_cons an_nil)) (by decide))).w)).w)))))⟩
theorem ok_is_integer_words (T : Txt K mg) {f : Addr} {fd : FuncData} (Fn : Fun K "is_integer" "is_integer" s_is_integer_words f fd)  : FnG P WW.w K mg base 1 f fd ["value", "least", "most"] (spD K 3 m_is_integer_words) :=
  fnD Fn sc_is_integer_words (by decide) fun cdv A outer s H E hr gd => ⟨_, (pss_one (ps_ret (L2.pe_and (pe_callB call_isi (by rfl) T.n_isinstance (by decide +kernel) (pa_cons (pv 0) (pa_cons (pe_tyName (by rfl) T.n_int (by decide +kernel)) pa_nil))) (L2.pe_and (pe_not (pe_callB call_isi (by rfl) T.n_isinstance (by decide +kernel) (pa_cons (pv 0) (pa_cons (pe_tyName (by rfl) T.n_bool (by decide +kernel)) pa_nil)))) (pe_one (pe_chain op_le op_le (pv 1) (pv 0) (pv 2))))))),
 (is_ret (im_andV (im_isi "int" ((im_var 0)).w) (im_andV (im_notV (im_isi "bool" ((im_var 0)).w)) (im_chain ro_le ro_le ((im_var 1)).w ((im_var 0)).w ((im_var 2)).w))))⟩
theorem ok_is_row (T : Txt K mg) {f : Addr} {fd : FuncData} (Fn : Fun K "is_row" "is_row" s_is_row f fd) (c_is_integer_words : Cal P WW.w K mg base 1 "is_integer_words" ["value", "least", "most"] (spD K 3 m_is_integer_words)) : FnG P WW.w K mg base 2 f fd ["value", "letters", "many"] (spD K 3 m_is_row) :=
  fnD Fn sc_is_row (by decide) fun cdv A outer s H E hr gd => ⟨_, (pss_cons (ps_if (PW.pt (pw_or (pt_not (pt_truth (pe_callB call_isi (by rfl) T.n_isinstance (by decide +kernel) (pa_cons (pv 0) (pa_cons (pe_tyName (by rfl) T.n_tuple (by decide +kernel)) pa_nil))) (by intro _; rfl))) (pw_or1 (pt_cmpR (op_neA hr.units) (pe_callB call_lenA (by rfl) T.n_len (by decide +kernel) (pa_cons (pv 0) pa_nil)) (pv 1) (nomark _)))))
 (pss_one (ps_ret pe_bl))
 pss_nil)
 (pss_one (ps_ret (pe_cmpR (op_eqA hr.units) (pe_lc (own := [("item", 3)]) (g := (gName 3)) rfl sc_is_row.nd (pi_seq (pv 0)) (blkOk_by (own := [("item", 3)]) (N := ["value", "letters", "many", "item"]) (sc := defScope s_is_row) (by decide +kernel)) (fun _ _ _ _ _ => (pg_name (i := 3) sc_is_row.nd rfl (Or.inl rfl))) (fun _ _ _ _ _ => (pts_one (PW.pt (pw_and (pt_cmpR op_notN (pv 3) pe_non (nomark _)) (pw_and1 (pt_not (pt_truth (pe_callC c_is_integer_words hr gd (by rfl) (pa_cons (pv 3) (pa_cons pe_int (pa_cons (pe_op op_sub (pv 2) pe_int) pa_nil)))) (by intro _; rfl)))))))) (fun _ _ _ _ _ => (pv 3))) (pe_lst pa_nil) (nomark _))))),
 (is_seq (is_if (it_or (it_not (it_truth ((im_isi "tuple" ((im_var 0)).w)).w)) (it_test (im_op ro_ne ((im_cb rc_lenA (iaw_cons ((im_var 0)).w iaw_nil))).w ((im_var 1)).w)))
 (is_ret im_bl)
 is_next)
 (is_ret (im_op ro_eq ((if_comp (vs := [3]) (ii_seq (im_var 0)) (ig_name 3) (it_and (it_test (im_op ro_isNot ((im_var 3)).w (im_non).w)) (it_not (it_truth ((im_call (ia_cons (im_var 3) (ia_cons im_int (ia_cons (im_op ro_sub ((im_var 2)).w (im_int).w) ia_nil))) (an_cons (an_cons (an_cons an_nil))))).w))) (im_var 3) (by decide))).w ((if_lst ia_nil)).w)))⟩
theorem ok_are_rows (T : Txt K mg) {f : Addr} {fd : FuncData} (Fn : Fun K "are_rows" "are_rows" s_are_rows f fd) (c_is_row : Cal P WW.w K mg base 2 "is_row" ["value", "letters", "many"] (spD K 3 m_is_row)) : FnG P WW.w K mg base 3 f fd ["value", "letters"] (spD K 2 m_are_rows) :=
  fnD Fn sc_are_rows (by decide) fun cdv A outer s H E hr gd => ⟨_, (pss_cons (ps_if (PW.pt (pw_or (pt_not (pt_truth (pe_callB call_isi (by rfl) T.n_isinstance (by decide +kernel) (pa_cons (pv 0) (pa_cons (pe_tyName (by rfl) T.n_tuple (by decide +kernel)) pa_nil))) (by intro _; rfl))) (pw_or1 (pt_not (pt_chain op_le op_le pe_int (pe_callB call_lenA (by rfl) T.n_len (by decide +kernel) (pa_cons (pv 0) pa_nil)) (pe_gint (by rfl) T.c_MAX_STATES))))))
 (pss_one (ps_ret pe_bl))
 pss_nil)
 (pss_one (ps_ret (pe_cmpR (op_eqA hr.units) (pe_lc (own := [("row", 2)]) (g := (gName 2)) rfl sc_are_rows.nd (pi_seq (pv 0)) (blkOk_by (own := [("row", 2)]) (N := ["value", "letters", "row"]) (sc := defScope s_are_rows) (by decide +kernel)) (fun _ _ _ _ _ => (pg_name (i := 2) sc_are_rows.nd rfl (Or.inl rfl))) (fun _ _ _ _ _ => (pts_one (pt_not (pt_truth (pe_callC c_is_row hr gd (by rfl) (pa_cons (pv 2) (pa_cons (pv 1) (pa_cons (pe_callB call_lenA (by rfl) T.n_len (by decide +kernel) (pa_cons (pv 0) pa_nil)) pa_nil)))) (by intro _; rfl))))) (fun _ _ _ _ _ => (pv 2))) (pe_lst pa_nil) (nomark _))))),
 (is_seq (is_if (it_or (it_not (it_truth ((im_isi "tuple" ((im_var 0)).w)).w)) (it_not (it_test (im_chain ro_le ro_le (im_int).w ((im_cb rc_lenA (iaw_cons ((im_var 0)).w iaw_nil))).w (im_int).w))))
 (is_ret im_bl)
 is_next)
 (is_ret (im_op ro_eq ((if_comp (vs := [2]) (ii_seq (im_var 0)) (ig_name 2) (it_not (it_truth ((im_call (ia_cons (im_var 2) (ia_cons (im_var 1) (ia_cons (im_cb rc_lenA (iaw_cons ((im_var 0)).w iaw_nil)) ia_nil))) (an_cons (an_cons (an_cons an_nil))))).w)) (im_var 2) (by decide))).w ((if_lst ia_nil)).w)))⟩
theorem ok_are_ends (T : Txt K mg) {f : Addr} {fd : FuncData} (Fn : Fun K "are_ends" "are_ends" s_are_ends f fd)  : FnG P WW.w K mg base 1 f fd ["value", "many"] (spD K 2 m_are_ends) :=
  fnD Fn sc_are_ends (by decide) fun cdv A outer s H E hr gd => ⟨_, (pss_cons (ps_if (PW.pt (pw_or (pt_not (pt_truth (pe_callB call_isi (by rfl) T.n_isinstance (by decide +kernel) (pa_cons (pv 0) (pa_cons (pe_tyName (by rfl) T.n_tuple (by decide +kernel)) pa_nil))) (by intro _; rfl))) (pw_or1 (pt_cmpR (op_neA hr.units) (pe_callB call_lenA (by rfl) T.n_len (by decide +kernel) (pa_cons (pv 0) pa_nil)) (pv 1) (nomark _)))))
 (pss_one (ps_ret pe_bl))
 pss_nil)
 (pss_one (ps_ret (pe_cmpR (op_eqA hr.units) (pe_lc (own := [("end", 2)]) (g := (gName 2)) rfl sc_are_ends.nd (pi_seq (pv 0)) (blkOk_by (own := [("end", 2)]) (N := ["value", "many", "end"]) (sc := defScope s_are_ends) (by decide +kernel)) (fun _ _ _ _ _ => (pg_name (i := 2) sc_are_ends.nd rfl (Or.inl rfl))) (fun _ _ _ _ _ => (pts_one (pt_not (pt_truth (pe_callB call_isi (by rfl) T.n_isinstance (by decide +kernel) (pa_cons (pv 2) (pa_cons (pe_tyName (by rfl) T.n_bool (by decide +kernel)) pa_nil))) (by intro _; rfl))))) (fun _ _ _ _ _ => (pv 2))) (pe_lst pa_nil) (nomark _))))),
 (is_seq (is_if (it_or (it_not (it_truth ((im_isi "tuple" ((im_var 0)).w)).w)) (it_test (im_op ro_ne ((im_cb rc_lenA (iaw_cons ((im_var 0)).w iaw_nil))).w ((im_var 1)).w)))
 (is_ret im_bl)
 is_next)
 (is_ret (im_op ro_eq ((if_comp (vs := [2]) (ii_seq (im_var 0)) (ig_name 2) (it_not (it_truth ((im_isi "bool" ((im_var 2)).w)).w)) (im_var 2) (by decide))).w ((if_lst ia_nil)).w)))⟩
theorem ok_kind_error (T : Txt K mg) {f : Addr} {fd : FuncData} (Fn : Fun K "kind_error" "kind_error" s_kind_error f fd) (c_is_integer_words : Cal P WW.w K mg base 1 "is_integer_words" ["value", "least", "most"] (spD K 3 m_is_integer_words)) (c_are_rows : Cal P WW.w K mg base 3 "are_rows" ["value", "letters"] (spD K 2 m_are_rows)) (c_are_ends : Cal P WW.w K mg base 1 "are_ends" ["value", "many"] (spD K 2 m_are_ends)) : FnG P WW.w K mg base 4 f fd ["value"] (spD K 1 m_kind_error) :=
  fnD Fn sc_kind_error (by decide) fun cdv A outer s H E hr gd => ⟨_, (pss_cons (ps_if (PW.pt (pw_or (pt_not (pt_truth (pe_callB call_isi (by rfl) T.n_isinstance (by decide +kernel) (pa_cons (pv 0) (pa_cons (pe_tyName (by rfl) T.n_tuple (by decide +kernel)) pa_nil))) (by intro _; rfl))) (pw_or1 (pt_cmpR (op_neA hr.units) (pe_callB call_lenA (by rfl) T.n_len (by decide +kernel) (pa_cons (pv 0) pa_nil)) pe_int (nomark _)))))
 (pss_one (ps_ret pe_str))
 pss_nil)
 (pss_cons (ps_if (pt_not (pt_truth (pe_callC c_is_integer_words hr gd (by rfl) (pa_cons (pe_sub (units1 hr.units) (pv 0) pe_int) (pa_cons pe_int (pa_cons (pe_gint (by rfl) T.c_MAX_LETTERS) pa_nil)))) (by intro _; rfl)))
 (pss_one (ps_ret pe_str))
 pss_nil)
 (pss_cons (ps_if (pt_not (pt_truth (pe_callC c_are_rows hr gd (by rfl) (pa_cons (pe_sub (units1 hr.units) (pv 0) pe_int) (pa_cons (pe_sub (units1 hr.units) (pv 0) pe_int) pa_nil))) (by intro _; rfl)))
 (pss_one (ps_ret pe_str))
 pss_nil)
 (pss_one (ps_ret (pe_ifExp (pt_truth (pe_callC c_are_ends hr gd (by rfl) (pa_cons (pe_sub (units1 hr.units) (pv 0) pe_int) (pa_cons (pe_callB call_lenA (by rfl) T.n_len (by decide +kernel) (pa_cons (pe_sub (units1 hr.units) (pv 0) pe_int) pa_nil)) pa_nil))) (by intro _; rfl)) pe_non pe_str)))))),
 (is_seq (is_if (it_or (it_not (it_truth ((im_isi "tuple" ((im_var 0)).w)).w)) (it_test (im_op ro_ne ((im_cb rc_lenA (iaw_cons ((im_var 0)).w iaw_nil))).w (im_int).w)))
 (is_ret im_str)
 is_next)
 (is_seq (is_if (it_not (it_truth ((im_call (ia_cons (im_sub ((im_var 0)).w (im_int).w) (ia_cons im_int (ia_cons im_int ia_nil))) (an_cons (an_cons (an_cons an_nil))))).w))
 (is_ret im_str)
 is_next)
 (is_seq (is_if (it_not (it_truth ((im_call (ia_cons (im_sub ((im_var 0)).w (im_int).w) (ia_cons (im_sub ((im_var 0)).w (im_int).w) ia_nil)) (an_cons (an_cons an_nil)))).w))
 (is_ret im_str)
 is_next)
 (is_ret (im_if (it_truth ((im_call (ia_cons (im_sub ((im_var 0)).w (im_int).w) (ia_cons (im_cb rc_lenA (iaw_cons ((im_sub ((im_var 0)).w (im_int).w)).w iaw_nil)) ia_nil)) (an_cons (an_cons an_nil)))).w) im_non im_str)))))⟩
theorem ok_is_integer_cuts (T : Txt K mg) {f : Addr} {fd : FuncData} (Fn : Fun K "is_integer" "is_integer" s_is_integer_cuts f fd)  : FnG P WW.w K mg base 1 f fd ["value", "least", "most"] (spD K 3 m_is_integer_cuts) :=
  fnD Fn sc_is_integer_cuts (by decide) fun cdv A outer s H E hr gd => ⟨_, (pss_one (ps_ret (L2.pe_and (pe_callB call_isi (by rfl) T.n_isinstance (by decide +kernel) (pa_cons (pv 0) (pa_cons (pe_tyName (by rfl) T.n_int (by decide +kernel)) pa_nil))) (L2.pe_and (pe_not (pe_callB call_isi (by rfl) T.n_isinstance (by decide +kernel) (pa_cons (pv 0) (pa_cons (pe_tyName (by rfl) T.n_bool (by decide +kernel)) pa_nil)))) (pe_one (pe_chain op_le op_le (pv 1) (pv 0) (pv 2))))))),
 (is_ret (im_andV (im_isi "int" ((im_var 0)).w) (im_andV (im_notV (im_isi "bool" ((im_var 0)).w)) (im_chain ro_le ro_le ((im_var 1)).w ((im_var 0)).w ((im_var 2)).w))))⟩
theorem ok_is_cut_limit (T : Txt K mg) {f : Addr} {fd : FuncData} (Fn : Fun K "is_cut_limit" "is_cut_limit" s_is_cut_limit f fd) (c_is_integer_cuts : Cal P WW.w K mg base 1 "is_integer_cuts" ["value", "least", "most"] (spD K 3 m_is_integer_cuts)) : FnG P WW.w K mg base 2 f fd ["units", "value"] (spD K 2 m_is_cut_limit) :=
  fnD Fn sc_is_cut_limit (by decide) fun cdv A outer s H E hr gd => ⟨_, (pss_cons (ps_if (PW.pt (pw_or (pt_not (pt_truth (pe_callB call_isi (by rfl) T.n_isinstance (by decide +kernel) (pa_cons (pv 1) (pa_cons (pe_tyName (by rfl) T.n_tuple (by decide +kernel)) pa_nil))) (by intro _; rfl))) (pw_or1 (pt_cmpR (op_neA hr.units) (pe_callB call_lenA (by rfl) T.n_len (by decide +kernel) (pa_cons (pv 1) pa_nil)) pe_int (nomark _)))))
 (pss_one (ps_ret pe_bl))
 pss_nil)
 (pss_one (ps_ret (L2.pe_and (pe_callC c_is_integer_cuts hr gd (by rfl) (pa_cons (pe_sub (units1 hr.units) (pv 1) pe_int) (pa_cons pe_int (pa_cons (pe_op op_sub (pe_callB call_lenA (by rfl) T.n_len (by decide +kernel) (pa_cons (pv 0) pa_nil)) pe_int) pa_nil)))) (pe_one (pe_callC c_is_integer_cuts hr gd (by rfl) (pa_cons (pe_sub (units1 hr.units) (pv 1) pe_int) (pa_cons pe_int (pa_cons (pe_gint (by rfl) T.c_MAX_CUT) pa_nil))))))))),
 (is_seq (is_if (it_or (it_not (it_truth ((im_isi "tuple" ((im_var 1)).w)).w)) (it_test (im_op ro_ne ((im_cb rc_lenA (iaw_cons ((im_var 1)).w iaw_nil))).w (im_int).w)))
 (is_ret im_bl)
 is_next)
 (is_ret (im_andV (im_call (ia_cons (im_sub ((im_var 1)).w (im_int).w) (ia_cons im_int (ia_cons (im_op ro_sub ((im_cb rc_lenA (iaw_cons ((im_var 0)).w iaw_nil))).w (im_int).w) ia_nil))) (an_cons (an_cons (an_cons an_nil)))) (im_call (ia_cons (im_sub ((im_var 1)).w (im_int).w) (ia_cons im_int (ia_cons im_int ia_nil))) (an_cons (an_cons (an_cons an_nil)))))))⟩
theorem ok_are_clinging (T : Txt K mg) {f : Addr} {fd : FuncData} (Fn : Fun K "are_clinging" "are_clinging" s_are_clinging f fd)  : FnG P WW.w K mg base 1 f fd ["letters", "value"] (spD K 2 m_are_clinging) :=
  fnD Fn sc_are_clinging (by decide) fun cdv A outer s H E hr gd => ⟨_, (pss_cons (ps_if (pt_not (pt_truth (pe_callB call_isi (by rfl) T.n_isinstance (by decide +kernel) (pa_cons (pv 1) (pa_cons (pe_tyName (by rfl) T.n_str (by decide +kernel)) pa_nil))) (by intro _; rfl)))
 (pss_one (ps_ret pe_bl))
 pss_nil)
 (pss_one (ps_ret (pe_cmpR (op_eqA hr.units) (pv 1) (pe_join pe_str (pe_lc (own := [("letter", 2)]) (g := (gName 2)) rfl sc_are_clinging.nd (pi_seq (pe_slice sl_any (pe_gstr (by rfl) T.c_LETTERS_limits) po_none (po_some (pv 0)))) (blkOk_by (own := [("letter", 2)]) (N := ["letters", "value", "letter"]) (sc := defScope s_are_clinging) (by decide +kernel)) (fun _ _ _ _ _ => (pg_name (i := 2) sc_are_clinging.nd rfl (Or.inl rfl))) (fun _ _ _ _ _ => (pts_one (pt_in (units1 hr.units) (pv 2) (pv 1)))) (fun _ _ _ _ _ => (pv 2)))) (nomark _))))),
 (is_seq (is_if (it_not (it_truth ((im_isi "str" ((im_var 1)).w)).w))
 (is_ret im_bl)
 is_next)
 (is_ret (im_op ro_eq ((im_var 1)).w ((im_m1 rm_join (im_str).w ((if_comp (vs := [2]) (ii_seq (im_sl rs_any (im_str).w io_none (io_some ((im_var 0)).w))) (ig_name 2) (it_test (im_in ((im_var 2)).w ((im_var 1)).w)) (im_var 2) (by decide))).w)).w)))⟩
theorem ok_is_cut (T : Txt K mg) {f : Addr} {fd : FuncData} (Fn : Fun K "is_cut" "is_cut" s_is_cut f fd) (c_is_cut_limit : Cal P WW.w K mg base 2 "is_cut_limit" ["units", "value"] (spD K 2 m_is_cut_limit)) (c_are_clinging : Cal P WW.w K mg base 1 "are_clinging" ["letters", "value"] (spD K 2 m_are_clinging)) : FnG P WW.w K mg base 3 f fd ["letters", "units", "value"] (spD K 3 m_is_cut) :=
  fnD Fn sc_is_cut (by decide) fun cdv A outer s H E hr gd => ⟨_, (pss_cons (ps_if (PW.pt (pw_or (pt_not (pt_truth (pe_callB call_isi (by rfl) T.n_isinstance (by decide +kernel) (pa_cons (pv 2) (pa_cons (pe_tyName (by rfl) T.n_tuple (by decide +kernel)) pa_nil))) (by intro _; rfl))) (pw_or1 (pt_cmpR (op_neA hr.units) (pe_callB call_lenA (by rfl) T.n_len (by decide +kernel) (pa_cons (pv 2) pa_nil)) pe_int (nomark _)))))
 (pss_one (ps_ret pe_bl))
 pss_nil)
 (pss_one (ps_ret (L2.pe_and (pe_callC c_is_cut_limit hr gd (by rfl) (pa_cons (pv 1) (pa_cons (pe_slice sl_any (pv 2) po_none (po_some pe_int)) pa_nil))) (pe_one (pe_callC c_are_clinging hr gd (by rfl) (pa_cons (pv 0) (pa_cons (pe_sub (units1 hr.units) (pv 2) pe_int) pa_nil)))))))),
 (is_seq (is_if (it_or (it_not (it_truth ((im_isi "tuple" ((im_var 2)).w)).w)) (it_test (im_op ro_ne ((im_cb rc_lenA (iaw_cons ((im_var 2)).w iaw_nil))).w (im_int).w)))
 (is_ret im_bl)
 is_next)
 (is_ret (im_andV (im_call (ia_cons (im_var 1) (ia_cons (im_sl rs_any ((im_var 2)).w io_none (io_some (im_int).w)) ia_nil)) (an_cons (an_cons an_nil))) (im_call (ia_cons (im_var 0) (ia_cons (im_sub ((im_var 2)).w (im_int).w) ia_nil)) (an_cons (an_cons an_nil))))))⟩
theorem ok_cuts_error (T : Txt K mg) {f : Addr} {fd : FuncData} (Fn : Fun K "cuts_error" "cuts_error" s_cuts_error f fd) (c_is_cut : Cal P WW.w K mg base 3 "is_cut" ["letters", "units", "value"] (spD K 3 m_is_cut)) : FnG P WW.w K mg base 4 f fd ["letters", "units", "value"] (spD K 3 m_cuts_error) :=
  fnD Fn sc_cuts_error (by decide) fun cdv A outer s H E hr gd => ⟨_, (pss_cons (ps_if (pt_not (pt_truth (pe_callB call_isi (by rfl) T.n_isinstance (by decide +kernel) (pa_cons (pv 2) (pa_cons (pe_tyName (by rfl) T.n_tuple (by decide +kernel)) pa_nil))) (by intro _; rfl)))
 (pss_one (ps_ret (pe_tup (pa_cons pe_non (pa_cons pe_str pa_nil)))))
 pss_nil)
 (pss_cons (ps_for PassesOwn.never rfl (pi_enumA (by rfl) T.n_enumerate (pa_cons (pv 2) pa_nil)) (pg_tup rfl (pgs_cons (pg_name (i := 3) sc_cuts_error.nd rfl (Or.inl rfl)) (pgs_cons (pg_name (i := 4) sc_cuts_error.nd rfl (Or.inl rfl)) pgs_nil)))
 (pss_one (ps_if (pt_not (pt_truth (pe_callC c_is_cut hr gd (by rfl) (pa_cons (pv 0) (pa_cons (pv 1) (pa_cons (pv 4) pa_nil)))) (by intro _; rfl)))
 (pss_one (ps_ret (pe_tup (pa_cons (pv 3) (pa_cons pe_str pa_nil)))))
 pss_nil)))
 (pss_one (ps_ret (pe_ifExp (pt_cmpR op_gt (pe_callB call_lenA (by rfl) T.n_len (by decide +kernel) (pa_cons (pv 2) pa_nil)) (pe_gint (by rfl) T.c_MAX_CUTS) (nomark _)) (pe_tup (pa_cons pe_non (pa_cons pe_str pa_nil))) pe_non))))),
 (is_seq (is_if (it_not (it_truth ((im_isi "tuple" ((im_var 2)).w)).w))
 (is_ret (im_tup (ia_cons im_non (ia_cons im_str ia_nil))))
 is_next)
 (is_seq (is_for (ii_enum (im_var 2)) (ig_tup (igs_cons (ig_name 3) (igs_cons (ig_name 4) igs_nil)))
 (is_if (it_not (it_truth ((im_call (ia_cons (im_var 0) (ia_cons (im_var 1) (ia_cons (im_var 4) ia_nil))) (an_cons (an_cons (an_cons an_nil))))).w))
 (is_ret (im_tup (ia_cons (im_var 3) (ia_cons im_str ia_nil))))
 is_next))
 (is_ret (im_if (it_test (im_op ro_gt ((im_cb rc_lenA (iaw_cons ((im_var 2)).w iaw_nil))).w (im_int).w)) (im_tup (ia_cons im_non (ia_cons im_str ia_nil))) im_non))))⟩
theorem ok_is_unit (T : Txt K mg) {f : Addr} {fd : FuncData} (Fn : Fun K "is_unit" "is_unit" s_is_unit f fd) (c_is_integer_cuts : Cal P WW.w K mg base 1 "is_integer_cuts" ["value", "least", "most"] (spD K 3 m_is_integer_cuts)) : FnG P WW.w K mg base 2 f fd ["letters", "value"] (spD K 2 m_is_unit) :=
  fnD Fn sc_is_unit (by decide) fun cdv A outer s H E hr gd => ⟨_, (pss_cons (ps_if (PW.pt (pw_or (pt_not (pt_truth (pe_callB call_isi (by rfl) T.n_isinstance (by decide +kernel) (pa_cons (pv 1) (pa_cons (pe_tyName (by rfl) T.n_tuple (by decide +kernel)) pa_nil))) (by intro _; rfl))) (pw_or1 (pt_cmpR (op_neA hr.units) (pe_callB call_lenA (by rfl) T.n_len (by decide +kernel) (pa_cons (pv 1) pa_nil)) (pv 0) (nomark _)))))
 (pss_one (ps_ret pe_bl))
 pss_nil)
 (pss_one (ps_ret (pe_cmpR (op_eqA hr.units) (pe_lc (own := [("item", 2)]) (g := (gName 2)) rfl sc_is_unit.nd (pi_seq (pv 1)) (blkOk_by (own := [("item", 2)]) (N := ["letters", "value", "item"]) (sc := defScope s_is_unit) (by decide +kernel)) (fun _ _ _ _ _ => (pg_name (i := 2) sc_is_unit.nd rfl (Or.inl rfl))) (fun _ _ _ _ _ => (pts_one (pt_not (pt_truth (pe_callC c_is_integer_cuts hr gd (by rfl) (pa_cons (pv 2) (pa_cons pe_int (pa_cons (pe_gint (by rfl) T.c_MAX_COUNT) pa_nil)))) (by intro _; rfl))))) (fun _ _ _ _ _ => (pv 2))) (pe_lst pa_nil) (nomark _))))),
 (is_seq (is_if (it_or (it_not (it_truth ((im_isi "tuple" ((im_var 1)).w)).w)) (it_test (im_op ro_ne ((im_cb rc_lenA (iaw_cons ((im_var 1)).w iaw_nil))).w ((im_var 0)).w)))
 (is_ret im_bl)
 is_next)
 (is_ret (im_op ro_eq ((if_comp (vs := [2]) (ii_seq (im_var 1)) (ig_name 2) (it_not (it_truth ((im_call (ia_cons (im_var 2) (ia_cons im_int (ia_cons im_int ia_nil))) (an_cons (an_cons (an_cons an_nil))))).w)) (im_var 2) (by decide))).w ((if_lst ia_nil)).w)))⟩
theorem ok_are_units (T : Txt K mg) {f : Addr} {fd : FuncData} (Fn : Fun K "are_units" "are_units" s_are_units f fd) (c_is_unit : Cal P WW.w K mg base 2 "is_unit" ["letters", "value"] (spD K 2 m_is_unit)) : FnG P WW.w K mg base 3 f fd ["letters", "value"] (spD K 2 m_are_units) :=
  fnD Fn sc_are_units (by decide) fun cdv A outer s H E hr gd => ⟨_, (pss_cons (ps_if (PW.pt (pw_or (pt_not (pt_truth (pe_callB call_isi (by rfl) T.n_isinstance (by decide +kernel) (pa_cons (pv 1) (pa_cons (pe_tyName (by rfl) T.n_tuple (by decide +kernel)) pa_nil))) (by intro _; rfl))) (pw_or1 (pt_not (pt_chain op_le op_le pe_int (pe_callB call_lenA (by rfl) T.n_len (by decide +kernel) (pa_cons (pv 1) pa_nil)) pe_int)))))
 (pss_one (ps_ret pe_bl))
 pss_nil)
 (pss_one (ps_ret (pe_cmpR (op_eqA hr.units) (pe_lc (own := [("unit", 2)]) (g := (gName 2)) rfl sc_are_units.nd (pi_seq (pv 1)) (blkOk_by (own := [("unit", 2)]) (N := ["letters", "value", "unit"]) (sc := defScope s_are_units) (by decide +kernel)) (fun _ _ _ _ _ => (pg_name (i := 2) sc_are_units.nd rfl (Or.inl rfl))) (fun _ _ _ _ _ => (pts_one (pt_not (pt_truth (pe_callC c_is_unit hr gd (by rfl) (pa_cons (pv 0) (pa_cons (pv 2) pa_nil))) (by intro _; rfl))))) (fun _ _ _ _ _ => (pv 2))) (pe_lst pa_nil) (nomark _))))),
 (is_seq (is_if (it_or (it_not (it_truth ((im_isi "tuple" ((im_var 1)).w)).w)) (it_not (it_test (im_chain ro_le ro_le (im_int).w ((im_cb rc_lenA (iaw_cons ((im_var 1)).w iaw_nil))).w (im_int).w))))
 (is_ret im_bl)
 is_next)
 (is_ret (im_op ro_eq ((if_comp (vs := [2]) (ii_seq (im_var 1)) (ig_name 2) (it_not (it_truth ((im_call (ia_cons (im_var 0) (ia_cons (im_var 2) ia_nil)) (an_cons (an_cons an_nil)))).w)) (im_var 2) (by decide))).w ((if_lst ia_nil)).w)))⟩
theorem ok_scheme_error (T : Txt K mg) {f : Addr} {fd : FuncData} (Fn : Fun K "scheme_error" "scheme_error" s_scheme_error f fd) (c_kind_error : Cal P WW.w K mg base 4 "kind_error" ["value"] (spD K 1 m_kind_error)) (c_are_units : Cal P WW.w K mg base 3 "are_units" ["letters", "value"] (spD K 2 m_are_units)) (c_cuts_error : Cal P WW.w K mg base 4 "cuts_error" ["letters", "units", "value"] (spD K 3 m_cuts_error)) : FnG P WW.w K mg base 5 f fd ["value"] (spD K 1 m_scheme_error) :=
  fnD Fn sc_scheme_error (by decide) fun cdv A outer s H E hr gd => ⟨_, (pss_cons (ps_if (PW.pt (pw_or (pt_not (pt_truth (pe_callB call_isi (by rfl) T.n_isinstance (by decide +kernel) (pa_cons (pv 0) (pa_cons (pe_tyName (by rfl) T.n_tuple (by decide +kernel)) pa_nil))) (by intro _; rfl))) (pw_or1 (pt_cmpR (op_neA hr.units) (pe_callB call_lenA (by rfl) T.n_len (by decide +kernel) (pa_cons (pv 0) pa_nil)) pe_int (nomark _)))))
 (pss_one (ps_ret (pe_tup (pa_cons pe_str (pa_cons pe_non pa_nil)))))
 pss_nil)
 (pss_cons (ps_asg (pv 0) (pg_tup rfl (pgs_cons (pg_name (i := 1) sc_scheme_error.nd rfl (Or.inl rfl)) (pgs_cons (pg_name (i := 2) sc_scheme_error.nd rfl (Or.inl rfl)) (pgs_cons (pg_name (i := 3) sc_scheme_error.nd rfl (Or.inl rfl)) pgs_nil)))))
 (pss_cons (ps_set (i := 4) sc_scheme_error.nd rfl (Or.inl rfl) (pe_callC c_kind_error hr gd (by rfl) (pa_cons (pv 1) pa_nil)))
 (pss_cons (ps_if (pt_cmpR op_notN (pv 4) pe_non (nomark _))
 (pss_one (ps_ret (pe_tup (pa_cons pe_str (pa_cons (pv 4) pa_nil)))))
 pss_nil)
 (pss_cons (ps_if (pt_not (pt_truth (pe_callC c_are_units hr gd (by rfl) (pa_cons (pe_sub (units1 hr.units) (pv 1) pe_int) (pa_cons (pv 2) pa_nil))) (by intro _; rfl)))
 (pss_one (ps_ret (pe_tup (pa_cons pe_str (pa_cons pe_non pa_nil)))))
 pss_nil)
 (pss_cons (ps_set (i := 4) sc_scheme_error.nd rfl (Or.inl rfl) (pe_callC c_cuts_error hr gd (by rfl) (pa_cons (pe_sub (units1 hr.units) (pv 1) pe_int) (pa_cons (pv 2) (pa_cons (pv 3) pa_nil)))))
 (pss_one (ps_ret (pe_ifExp (pt_cmpR op_isN (pv 4) pe_non (nomark _)) pe_non (pe_tup (pa_cons pe_str (pa_cons (pv 4) pa_nil)))))))))))),
 (is_seq (is_if (it_or (it_not (it_truth ((im_isi "tuple" ((im_var 0)).w)).w)) (it_test (im_op ro_ne ((im_cb rc_lenA (iaw_cons ((im_var 0)).w iaw_nil))).w (im_int).w)))
 (is_ret (im_tup (ia_cons im_str (ia_cons im_non ia_nil))))
 is_next)
 (is_seq (is_asg (im_var 0) (ig_tup (igs_cons (ig_name 1) (igs_cons (ig_name 2) (igs_cons (ig_name 3) igs_nil)))))
 (is_seq (is_asg (im_call (ia_cons (im_var 1) ia_nil) (an_cons an_nil)) (ig_name 4))
 (is_seq (is_if (it_test (im_op ro_isNot ((im_var 4)).w (im_non).w))
 (is_ret (im_tup (ia_cons im_str (ia_cons (im_var 4) ia_nil))))
 is_next)
 (is_seq (is_if (it_not (it_truth ((im_call (ia_cons (im_sub ((im_var 1)).w (im_int).w) (ia_cons (im_var 2) ia_nil)) (an_cons (an_cons an_nil)))).w))
 (is_ret (im_tup (ia_cons im_str (ia_cons im_non ia_nil))))
 is_next)
 (is_seq (is_asg (im_call (ia_cons (im_sub ((im_var 1)).w (im_int).w) (ia_cons (im_var 2) (ia_cons (im_var 3) ia_nil))) (an_cons (an_cons (an_cons an_nil)))) (ig_name 4))
 (is_ret (im_if (it_test (im_op ro_is ((im_var 4)).w (im_non).w)) im_non (im_tup (ia_cons im_str (ia_cons (im_var 4) ia_nil)))))))))))⟩
theorem ok_SchemeReader___init__ (T : Txt K mg) {f : Addr} {fd : FuncData} (Fn : Fun K "__init__" "SchemeReader.__init__" s_SchemeReader___init__ f fd)  : FnG P WW.w K mg base 1 f fd ["self"] (spD K 1 m_SchemeReader___init__) :=
  fnD Fn sc_SchemeReader___init__ (by decide) fun cdv A outer s H E hr gd => ⟨_, (pss_cons (ps_fld (pv 0) pe_int rfl)
 (pss_cons (ps_fld (pv 0) (pe_lst pa_nil) rfl)
 (pss_cons (ps_fld (pv 0) (pe_lst pa_nil) rfl)
 (pss_cons (ps_fld (pv 0) (pe_lst pa_nil) rfl)
 (pss_one (ps_fld (pv 0) (pe_lst pa_nil) rfl)))))),
 (is_seq (is_setf (cs1 T.cl_SchemeReader) (by decide) (im_var 0) im_int)
 (is_seq (is_setf (cs1 T.cl_SchemeReader) (by decide) (im_var 0) ((if_lst ia_nil)).sto)
 (is_seq (is_setf (cs1 T.cl_SchemeReader) (by decide) (im_var 0) ((if_lst ia_nil)).sto)
 (is_seq (is_setf (cs1 T.cl_SchemeReader) (by decide) (im_var 0) ((if_lst ia_nil)).sto)
 (is_setf (cs1 T.cl_SchemeReader) (by decide) (im_var 0) ((if_lst ia_nil)).sto)))))⟩
theorem ok_SchemeReader_scheme (T : Txt K mg) {f : Addr} {fd : FuncData} (Fn : Fun K "scheme" "SchemeReader.scheme" s_SchemeReader_scheme f fd)  : FnG P WW.w K mg base 1 f fd ["self"] (spD K 1 m_SchemeReader_scheme) :=
  fnD Fn sc_SchemeReader_scheme (by decide) fun cdv A outer s H E hr gd => ⟨_, (pss_one (ps_ret (pe_tup (pa_cons (pe_tup (pa_cons (pe_fld (pv 0) rfl) (pa_cons (pe_callTy (call_tupA rfl) (by rfl) T.n_tuple (by decide +kernel) (pa_cons (pe_fld (pv 0) rfl) pa_nil)) (pa_cons (pe_callTy (call_tupA rfl) (by rfl) T.n_tuple (by decide +kernel) (pa_cons (pe_fld (pv 0) rfl) pa_nil)) pa_nil)))) (pa_cons (pe_callTy (call_tupA rfl) (by rfl) T.n_tuple (by decide +kernel) (pa_cons (pe_fld (pv 0) rfl) pa_nil)) (pa_cons (pe_callTy (call_tupA rfl) (by rfl) T.n_tuple (by decide +kernel) (pa_cons (pe_fld (pv 0) rfl) pa_nil)) pa_nil)))))),
 (is_ret (im_tup (ia_cons (im_tup (ia_cons (im_fld (cs1 T.cl_SchemeReader) (by decide) (im_var 0)) (ia_cons (im_cb rc_tupA (iaw_cons ((im_fld (cs1 T.cl_SchemeReader) (by decide) (im_var 0))).w iaw_nil)) (ia_cons (im_cb rc_tupA (iaw_cons ((im_fld (cs1 T.cl_SchemeReader) (by decide) (im_var 0))).w iaw_nil)) ia_nil)))) (ia_cons (im_cb rc_tupA (iaw_cons ((im_fld (cs1 T.cl_SchemeReader) (by decide) (im_var 0))).w iaw_nil)) (ia_cons (im_cb rc_tupA (iaw_cons ((im_fld (cs1 T.cl_SchemeReader) (by decide) (im_var 0))).w iaw_nil)) ia_nil)))))⟩
theorem ok_SchemeReader_read_letters (T : Txt K mg) {f : Addr} {fd : FuncData} (Fn : Fun K "read_letters" "SchemeReader.read_letters" s_SchemeReader_read_letters f fd)  : FnG P WW.w K mg base 1 f fd ["self", "words"] (spD K 2 m_SchemeReader_read_letters) :=
  fnD Fn sc_SchemeReader_read_letters (by decide) fun cdv A outer s H E hr gd => ⟨_, (pss_cons (ps_if (PW.pt (pw_or (pt_cmpR (op_neA hr.units) (pe_callB call_lenA (by rfl) T.n_len (by decide +kernel) (pa_cons (pv 1) pa_nil)) pe_int (nomark _)) (pw_or (pt_cmpR (op_neA hr.units) (pe_sub (units1 hr.units) (pv 1) pe_int) pe_str (nomark _)) (pw_or (pt_cmpR (op_eqA hr.units) (pe_sub (units1 hr.units) (pv 1) pe_int) pe_str (nomark _)) (pw_or1 (pt_not (pt_truth (pe_m1 PySem.F.slot_str_startswith PySem.F.type_str_startswith mt_startswith (pe_gstr (by rfl) T.c_LETTERS_texts) (pe_sub (units1 hr.units) (pv 1) pe_int)) (by intro _; rfl))))))))
 (pss_one (ps_ret pe_bl))
 pss_nil)
 (pss_cons (ps_fld (pv 0) (pe_callB call_lenA (by rfl) T.n_len (by decide +kernel) (pa_cons (pe_sub (units1 hr.units) (pv 1) pe_int) pa_nil)) rfl)
 (pss_one (ps_ret pe_bl)))),
 (is_seq (is_if (it_or (it_test (im_op ro_ne ((im_cb rc_lenA (iaw_cons ((im_var 1)).w iaw_nil))).w (im_int).w)) (it_or (it_test (im_op ro_ne ((im_sub ((im_var 1)).w (im_int).w)).w (im_str).w)) (it_or (it_test (im_op ro_eq ((im_sub ((im_var 1)).w (im_int).w)).w (im_str).w)) (it_not (it_truth ((im_m1 rm_starts (im_str).w ((im_sub ((im_var 1)).w (im_int).w)).w)).w)))))
 (is_ret im_bl)
 is_next)
 (is_seq (is_setf (cs1 T.cl_SchemeReader) (by decide) (im_var 0) (im_cb rc_lenA (iaw_cons ((im_sub ((im_var 1)).w (im_int).w)).w iaw_nil)))
 (is_ret im_bl)))⟩
theorem ok_is_made_of (T : Txt K mg) {f : Addr} {fd : FuncData} (Fn : Fun K "is_made_of" "is_made_of" s_is_made_of f fd)  : FnG P WW.w K mg base 1 f fd ["text", "signs", "most"] (spD K 3 m_is_made_of) :=
  fnD Fn sc_is_made_of (by decide) fun cdv A outer s H E hr gd => ⟨_, (pss_one (ps_ret (L2.pe_and (pe_chain op_le op_le pe_int (pe_callB call_lenA (by rfl) T.n_len (by decide +kernel) (pa_cons (pv 0) pa_nil)) (pv 2)) (pe_one (pe_cmpR (op_eqA hr.units) (pe_lc (own := [("sign", 3)]) (g := (gName 3)) rfl sc_is_made_of.nd (pi_seq (pv 0)) (blkOk_by (own := [("sign", 3)]) (N := ["text", "signs", "most", "sign"]) (sc := defScope s_is_made_of) (by decide +kernel)) (fun _ _ _ _ _ => (pg_name (i := 3) sc_is_made_of.nd rfl (Or.inl rfl))) (fun _ _ _ _ _ => (pts_one (pt_notIn (units1 hr.units) (pv 3) (pv 1)))) (fun _ _ _ _ _ => (pv 3))) (pe_lst pa_nil) (nomark _)))))),
 (is_ret (im_andV (im_chain ro_le ro_le (im_int).w ((im_cb rc_lenA (iaw_cons ((im_var 0)).w iaw_nil))).w ((im_var 2)).w) (im_op ro_eq ((if_comp (vs := [3]) (ii_seq (im_var 0)) (ig_name 3) (it_test (im_notIn ((im_var 3)).w ((im_var 1)).w)) (im_var 3) (by decide))).w ((if_lst ia_nil)).w)))⟩
theorem ok_is_figures (T : Txt K mg) {f : Addr} {fd : FuncData} (Fn : Fun K "is_figures" "is_figures" s_is_figures f fd) (c_is_made_of : Cal P WW.w K mg base 1 "is_made_of" ["text", "signs", "most"] (spD K 3 m_is_made_of)) : FnG P WW.w K mg base 2 f fd ["text", "most"] (spD K 2 m_is_figures) :=
  fnD Fn sc_is_figures (by decide) fun cdv A outer s H E hr gd => ⟨_, (pss_one (ps_ret (L2.pe_and (pe_callC c_is_made_of hr gd (by rfl) (pa_cons (pv 0) (pa_cons (pe_gstr (by rfl) T.c_FIGURES) (pa_cons (pv 1) pa_nil)))) (pe_one (L2.pe_or (pe_cmpR (op_eqA hr.units) (pv 0) pe_str (nomark _)) (pe_one (pe_cmpR (op_neA hr.units) (pe_sub (units1 hr.units) (pv 0) pe_int) pe_str (nomark _)))))))),
 (is_ret (im_andV (im_call (ia_cons (im_var 0) (ia_cons im_str (ia_cons (im_var 1) ia_nil))) (an_cons (an_cons (an_cons an_nil)))) (im_orV (im_op ro_eq ((im_var 0)).w (im_str).w) (im_op ro_ne ((im_sub ((im_var 0)).w (im_int).w)).w (im_str).w))))⟩
theorem ok_items_of (T : Txt K mg) {f : Addr} {fd : FuncData} (Fn : Fun K "items_of" "items_of" s_items_of f fd) (c_is_figures : Cal P WW.w K mg base 2 "is_figures" ["text", "most"] (spD K 2 m_is_figures)) : FnG P WW.w K mg base 3 f fd ["words", "nothing"] (spD K 2 m_items_of) :=
  fnD Fn sc_items_of (by decide) fun cdv A outer s H E hr gd => ⟨_, (pss_cons (ps_if (pt_not (pt_chain op_le op_le pe_int (pe_callB call_lenA (by rfl) T.n_len (by decide +kernel) (pa_cons (pv 0) pa_nil)) (pe_callB call_lenA (by rfl) T.n_len (by decide +kernel) (pa_cons (pe_gstr (by rfl) T.c_LETTERS_texts) pa_nil))))
 (pss_one (ps_ret pe_non))
 pss_nil)
 (pss_cons (ps_if (pt_cmpR (op_neA hr.units) (pe_lc (own := [("word", 2)]) (g := (gName 2)) rfl sc_items_of.nd (pi_seq (pv 0)) (blkOk_by (own := [("word", 2)]) (N := ["words", "nothing", "word"]) (sc := defScope s_items_of) (by decide +kernel)) (fun _ _ _ _ _ => (pg_name (i := 2) sc_items_of.nd rfl (Or.inl rfl))) (fun _ _ _ _ _ => (pts_one (PW.pt (pw_and (pt_cmpR (op_neA hr.units) (pv 2) (pv 1) (nomark _)) (pw_and1 (pt_not (pt_truth (pe_callC c_is_figures hr gd (by rfl) (pa_cons (pv 2) (pa_cons (pe_gint (by rfl) T.c_MOST_FIGURES) pa_nil))) (by intro _; rfl)))))))) (fun _ _ _ _ _ => (pv 2))) (pe_lst pa_nil) (nomark _))
 (pss_one (ps_ret pe_non))
 pss_nil)
 (pss_one (ps_ret (pe_callTy (call_tupA rfl) (by rfl) T.n_tuple (by decide +kernel) (pa_cons (pe_lc (own := [("word", 2)]) (g := (gName 2)) rfl sc_items_of.nd (pi_seq (pv 0)) (blkOk_by (own := [("word", 2)]) (N := ["words", "nothing", "word"]) (sc := defScope s_items_of) (by decide +kernel)) (fun _ _ _ _ _ => (pg_name (i := 2) sc_items_of.nd rfl (Or.inl rfl))) (fun _ _ _ _ _ => pts_nil) (fun _ _ _ _ _ => (pe_ifExp (pt_cmpR (op_eqA hr.units) (pv 2) (pv 1) (nomark _)) pe_non (pe_callTy call_int_str (by rfl) T.n_int (by decide +kernel) (pa_cons (pv 2) pa_nil))))) pa_nil)))))),
 (is_seq (is_if (it_not (it_test (im_chain ro_le ro_le (im_int).w ((im_cb rc_lenA (iaw_cons ((im_var 0)).w iaw_nil))).w ((im_cb rc_lenA (iaw_cons (im_str).w iaw_nil))).w)))
 (is_ret im_non)
 is_next)
 (is_seq (is_if (it_test (im_op ro_ne ((if_comp (vs := [2]) (ii_seq (im_var 0)) (ig_name 2) (it_and (it_test (im_op ro_ne ((im_var 2)).w ((im_var 1)).w)) (it_not (it_truth ((im_call (ia_cons (im_var 2) (ia_cons im_int ia_nil)) (an_cons (an_cons an_nil)))).w))) (im_var 2) (by decide))).w ((if_lst ia_nil)).w))
 (is_ret im_non)
 is_next)
 (is_ret (im_cb rc_tupA (iaw_cons ((if_comp (vs := [2]) (ii_seq (im_var 0)) (ig_name 2) it_yes (im_if (it_test (im_op ro_eq ((im_var 2)).w ((im_var 1)).w)) im_non (im_cb rc_intS (iaw_cons ((im_var 2)).w iaw_nil))) (by decide))).w iaw_nil)))))⟩
theorem ok_SchemeReader_read_state (T : Txt K mg) {f : Addr} {fd : FuncData} (Fn : Fun K "read_state" "SchemeReader.read_state" s_SchemeReader_read_state f fd) (c_items_of : Cal P WW.w K mg base 3 "items_of" ["words", "nothing"] (spD K 2 m_items_of)) : FnG P WW.w K mg base 4 f fd ["self", "words"] (spD K 2 m_SchemeReader_read_state) :=
  fnD Fn sc_SchemeReader_read_state (by decide) fun cdv A outer s H E hr gd => ⟨_, (pss_cons (ps_set (i := 2) sc_SchemeReader_read_state.nd rfl (Or.inl rfl) (pe_cmpR (op_eqA hr.units) (pe_slice sl_any (pv 1) (po_some (pe_un un_neg pe_int)) po_none) (pe_lst (pa_cons (pe_gstr (by rfl) T.c_END) pa_nil)) (nomark _)))
 (pss_cons (ps_set (i := 3) sc_SchemeReader_read_state.nd rfl (Or.inl rfl) (pe_callC c_items_of hr gd (by rfl) (pa_cons (pe_ifExp (pt_truth (pv 2) (by intro _; rfl)) (pe_slice sl_any (pv 1) po_none (po_some (pe_un un_neg pe_int))) (pv 1)) (pa_cons (pe_gstr (by rfl) T.c_NOTHING) pa_nil))))
 (pss_cons (ps_if (pt_cmpR op_isN (pv 3) pe_non (nomark _))
 (pss_one (ps_ret pe_bl))
 pss_nil)
 (pss_cons (ps_expr (pe_bm PySem.F.plainAttrs_list PySem.F.slot_list_append PySem.F.type_list_append mt_append (pe_fld (pv 0) rfl) (pa_cons (pv 3) pa_nil)))
 (pss_cons (ps_expr (pe_bm PySem.F.plainAttrs_list PySem.F.slot_list_append PySem.F.type_list_append mt_append (pe_fld (pv 0) rfl) (pa_cons (pv 2) pa_nil)))
 (pss_one (ps_ret pe_bl))))))),
 (is_seq (is_asg (im_op ro_eq ((im_sl rs_any ((im_var 1)).w (io_some ((im_neg (im_int).w)).w) io_none)).w ((if_lst (ia_cons im_str ia_nil))).w) (ig_name 2))
 (is_seq (is_asg (im_call (ia_cons (im_if (it_truth ((im_var 2)).w) (im_sl rs_any ((im_var 1)).w io_none (io_some ((im_neg (im_int).w)).w)) (im_var 1)) (ia_cons im_str ia_nil)) (an_cons (an_cons an_nil))) (ig_name 3))
 (is_seq (is_if (it_test (im_op ro_is ((im_var 3)).w (im_non).w))
 (is_ret im_bl)
 is_next)
 (is_seq (is_sapp (im_fld (cs1 T.cl_SchemeReader) (by decide) (im_var 0)) (im_var 3))
 (is_seq (is_sapp (im_fld (cs1 T.cl_SchemeReader) (by decide) (im_var 0)) (im_var 2))
 (is_ret im_bl))))))⟩
theorem ok_SchemeReader_read_unit (T : Txt K mg) {f : Addr} {fd : FuncData} (Fn : Fun K "read_unit" "SchemeReader.read_unit" s_SchemeReader_read_unit f fd) (c_items_of : Cal P WW.w K mg base 3 "items_of" ["words", "nothing"] (spD K 2 m_items_of)) : FnG P WW.w K mg base 4 f fd ["self", "words"] (spD K 2 m_SchemeReader_read_unit) :=
  fnD Fn sc_SchemeReader_read_unit (by decide) fun cdv A outer s H E hr gd => ⟨_, (pss_cons (ps_set (i := 2) sc_SchemeReader_read_unit.nd rfl (Or.inl rfl) (pe_callC c_items_of hr gd (by rfl) (pa_cons (pv 1) (pa_cons pe_str pa_nil))))
 (pss_cons (ps_if (PW.pt (pw_or (pt_cmpR op_isN (pv 2) pe_non (nomark _)) (pw_or1 (pt_in (units1 hr.units) pe_non (pv 2)))))
 (pss_one (ps_ret pe_bl))
 pss_nil)
 (pss_cons (ps_expr (pe_bm PySem.F.plainAttrs_list PySem.F.slot_list_append PySem.F.type_list_append mt_append (pe_fld (pv 0) rfl) (pa_cons (pv 2) pa_nil)))
 (pss_one (ps_ret pe_bl))))),
 (is_seq (is_asg (im_call (ia_cons (im_var 1) (ia_cons im_str ia_nil)) (an_cons (an_cons an_nil))) (ig_name 2))
 (is_seq (is_if (it_or (it_test (im_op ro_is ((im_var 2)).w (im_non).w)) (it_test (im_in (im_non).w ((im_var 2)).w)))
 (is_ret im_bl)
 is_next)
 (is_seq (is_sapp (im_fld (cs1 T.cl_SchemeReader) (by decide) (im_var 0)) (im_var 2))
 (is_ret im_bl))))⟩
theorem ok_are_clings (T : Txt K mg) {f : Addr} {fd : FuncData} (Fn : Fun K "are_clings" "are_clings" s_are_clings f fd) (c_is_made_of : Cal P WW.w K mg base 1 "is_made_of" ["text", "signs", "most"] (spD K 3 m_is_made_of)) : FnG P WW.w K mg base 2 f fd ["text"] (spD K 1 m_are_clings) :=
  fnD Fn sc_are_clings (by decide) fun cdv A outer s H E hr gd => ⟨_, (pss_one (ps_ret (L2.pe_or (pe_cmpR (op_eqA hr.units) (pv 0) (pe_gstr (by rfl) T.c_NO_LETTERS) (nomark _)) (pe_one (pe_callC c_is_made_of hr gd (by rfl) (pa_cons (pv 0) (pa_cons (pe_gstr (by rfl) T.c_LETTERS_texts) (pa_cons (pe_gint (by rfl) T.c_MOST_LETTERS) pa_nil)))))))),
 (is_ret (im_orV (im_op ro_eq ((im_var 0)).w (im_str).w) (im_call (ia_cons (im_var 0) (ia_cons im_str (ia_cons im_int ia_nil))) (an_cons (an_cons (an_cons an_nil))))))⟩
theorem ok_clings_of (T : Txt K mg) {f : Addr} {fd : FuncData} (Fn : Fun K "clings_of" "clings_of" s_clings_of f fd)  : FnG P WW.w K mg base 1 f fd ["text"] (spD K 1 m_clings_of) :=
  fnD Fn sc_clings_of (by decide) fun cdv A outer s H E hr gd => ⟨_, (pss_one (ps_ret (pe_ifExp (pt_cmpR (op_eqA hr.units) (pv 0) (pe_gstr (by rfl) T.c_NO_LETTERS) (nomark _)) pe_str (pv 0)))),
 (is_ret (im_if (it_test (im_op ro_eq ((im_var 0)).w (im_str).w)) im_str (im_var 0)))⟩
theorem ok_SchemeReader_read_cut (T : Txt K mg) {f : Addr} {fd : FuncData} (Fn : Fun K "read_cut" "SchemeReader.read_cut" s_SchemeReader_read_cut f fd) (c_are_clings : Cal P WW.w K mg base 2 "are_clings" ["text"] (spD K 1 m_are_clings)) (c_is_figures : Cal P WW.w K mg base 2 "is_figures" ["text", "most"] (spD K 2 m_is_figures)) (c_clings_of : Cal P WW.w K mg base 1 "clings_of" ["text"] (spD K 1 m_clings_of)) : FnG P WW.w K mg base 3 f fd ["self", "words"] (spD K 2 m_SchemeReader_read_cut) :=
  fnD Fn sc_SchemeReader_read_cut (by decide) fun cdv A outer s H E hr gd => ⟨_, (pss_cons (ps_if (PW.pt (pw_or (pt_cmpR (op_neA hr.units) (pe_callB call_lenA (by rfl) T.n_len (by decide +kernel) (pa_cons (pv 1) pa_nil)) pe_int (nomark _)) (pw_or1 (pt_not (pt_truth (pe_callC c_are_clings hr gd (by rfl) (pa_cons (pe_sub (units1 hr.units) (pv 1) pe_int) pa_nil)) (by intro _; rfl))))))
 (pss_one (ps_ret pe_bl))
 pss_nil)
 (pss_cons (ps_if (PW.pt (pw_or (pt_not (pt_truth (pe_callC c_is_figures hr gd (by rfl) (pa_cons (pe_sub (units1 hr.units) (pv 1) pe_int) (pa_cons (pe_gint (by rfl) T.c_MOST_FIGURES) pa_nil))) (by intro _; rfl))) (pw_or1 (pt_not (pt_truth (pe_callC c_is_figures hr gd (by rfl) (pa_cons (pe_sub (units1 hr.units) (pv 1) pe_int) (pa_cons (pe_gint (by rfl) T.c_MOST_FIGURES) pa_nil))) (by intro _; rfl))))))
 (pss_one (ps_ret pe_bl))
 pss_nil)
 (pss_cons (ps_expr (pe_bm PySem.F.plainAttrs_list PySem.F.slot_list_append PySem.F.type_list_append mt_append (pe_fld (pv 0) rfl) (pa_cons (pe_tup (pa_cons (pe_callTy call_int_str (by rfl) T.n_int (by decide +kernel) (pa_cons (pe_sub (units1 hr.units) (pv 1) pe_int) pa_nil)) (pa_cons (pe_callTy call_int_str (by rfl) T.n_int (by decide +kernel) (pa_cons (pe_sub (units1 hr.units) (pv 1) pe_int) pa_nil)) (pa_cons (pe_callC c_clings_of hr gd (by rfl) (pa_cons (pe_sub (units1 hr.units) (pv 1) pe_int) pa_nil)) pa_nil)))) pa_nil)))
 (pss_one (ps_ret pe_bl))))),
 (is_seq (is_if (it_or (it_test (im_op ro_ne ((im_cb rc_lenA (iaw_cons ((im_var 1)).w iaw_nil))).w (im_int).w)) (it_not (it_truth ((im_call (ia_cons (im_sub ((im_var 1)).w (im_int).w) ia_nil) (an_cons an_nil))).w)))
 (is_ret im_bl)
 is_next)
 (is_seq (is_if (it_or (it_not (it_truth ((im_call (ia_cons (im_sub ((im_var 1)).w (im_int).w) (ia_cons im_int ia_nil)) (an_cons (an_cons an_nil)))).w)) (it_not (it_truth ((im_call (ia_cons (im_sub ((im_var 1)).w (im_int).w) (ia_cons im_int ia_nil)) (an_cons (an_cons an_nil)))).w)))
 (is_ret im_bl)
 is_next)
 (is_seq (is_sapp (im_fld (cs1 T.cl_SchemeReader) (by decide) (im_var 0)) (im_tup (ia_cons (im_cb rc_intS (iaw_cons ((im_sub ((im_var 1)).w (im_int).w)).w iaw_nil)) (ia_cons (im_cb rc_intS (iaw_cons ((im_sub ((im_var 1)).w (im_int).w)).w iaw_nil)) (ia_cons (im_call (ia_cons (im_sub ((im_var 1)).w (im_int).w) ia_nil) (an_cons an_nil)) ia_nil)))))
 (is_ret im_bl))))⟩
theorem ok_SchemeReader_read (T : Txt K mg) {f : Addr} {fd : FuncData} (Fn : Fun K "read" "SchemeReader.read" s_SchemeReader_read f fd) (c_SchemeReader_read_letters : CalM P WW.w K mg base 1 "SchemeReader" "read_letters" ["self", "words"] (spD K 2 m_SchemeReader_read_letters)) (c_SchemeReader_read_state : CalM P WW.w K mg base 4 "SchemeReader" "read_state" ["self", "words"] (spD K 2 m_SchemeReader_read_state)) (c_SchemeReader_read_unit : CalM P WW.w K mg base 4 "SchemeReader" "read_unit" ["self", "words"] (spD K 2 m_SchemeReader_read_unit)) (c_SchemeReader_read_cut : CalM P WW.w K mg base 3 "SchemeReader" "read_cut" ["self", "words"] (spD K 2 m_SchemeReader_read_cut)) : FnG P WW.w K mg base 5 f fd ["self", "number", "line"] (spD K 3 m_SchemeReader_read) :=
  fnD Fn sc_SchemeReader_read (by decide) fun cdv A outer s H E hr gd => ⟨_, (pss_cons (ps_set (i := 3) sc_SchemeReader_read.nd rfl (Or.inl rfl) (pe_split (pv 2) pe_str))
 (pss_cons (ps_if (pt_cmpR (op_eqA hr.units) (pv 1) pe_int (nomark _))
 (pss_one (ps_ret (pe_methC c_SchemeReader_read_letters hr gd (pv 0) (pa_cons (pv 3) pa_nil))))
 pss_nil)
 (pss_cons (ps_if (PW.pt (pw_and (pt_cmpR (op_eqA hr.units) (pe_sub (units1 hr.units) (pv 3) pe_int) pe_str (nomark _)) (pw_and1 (pt_cmpR (op_eqA hr.units) (pe_fld (pv 0) rfl) (pe_lst pa_nil) (nomark _)))))
 (pss_one (ps_ret (pe_methC c_SchemeReader_read_state hr gd (pv 0) (pa_cons (pe_slice sl_any (pv 3) (po_some pe_int) po_none) pa_nil))))
 pss_nil)
 (pss_cons (ps_if (PW.pt (pw_and (pt_cmpR (op_eqA hr.units) (pe_sub (units1 hr.units) (pv 3) pe_int) pe_str (nomark _)) (pw_and (pt_cmpR (op_neA hr.units) (pe_fld (pv 0) rfl) (pe_lst pa_nil) (nomark _)) (pw_and1 (pt_cmpR (op_eqA hr.units) (pe_fld (pv 0) rfl) (pe_lst pa_nil) (nomark _))))))
 (pss_one (ps_ret (pe_methC c_SchemeReader_read_unit hr gd (pv 0) (pa_cons (pe_slice sl_any (pv 3) (po_some pe_int) po_none) pa_nil))))
 pss_nil)
 (pss_one (ps_ret (L2.pe_and (pe_cmpR (op_eqA hr.units) (pe_sub (units1 hr.units) (pv 3) pe_int) pe_str (nomark _)) (L2.pe_and (pe_cmpR (op_neA hr.units) (pe_fld (pv 0) rfl) (pe_lst pa_nil) (nomark _)) (pe_one (pe_methC c_SchemeReader_read_cut hr gd (pv 0) (pa_cons (pe_slice sl_any (pv 3) (po_some pe_int) po_none) pa_nil))))))))))),
 (is_seq (is_asg ((if_split (im_var 2) im_str)).im (ig_name 3))
 (is_seq (is_if (it_test (im_op ro_eq ((im_var 1)).w (im_int).w))
 (is_ret (im_methC c_SchemeReader_read_letters (im_var 0) (ia_cons (im_var 3) ia_nil) (an_cons an_nil)))
 is_next)
 (is_seq (is_if (it_and (it_test (im_op ro_eq ((im_sub ((im_var 3)).w (im_int).w)).w (im_str).w)) (it_test (im_op ro_eq ((im_fld (cs1 T.cl_SchemeReader) (by decide) (im_var 0))).w ((if_lst ia_nil)).w)))
 (is_ret (im_methC c_SchemeReader_read_state (im_var 0) (ia_cons (im_sl rs_any ((im_var 3)).w (io_some (im_int).w) io_none) ia_nil) (an_cons an_nil)))
 is_next)
 (is_seq (is_if (it_and (it_test (im_op ro_eq ((im_sub ((im_var 3)).w (im_int).w)).w (im_str).w)) (it_and (it_test (im_op ro_ne ((im_fld (cs1 T.cl_SchemeReader) (by decide) (im_var 0))).w ((if_lst ia_nil)).w)) (it_test (im_op ro_eq ((im_fld (cs1 T.cl_SchemeReader) (by decide) (im_var 0))).w ((if_lst ia_nil)).w))))
 (is_ret (im_methC c_SchemeReader_read_unit (im_var 0) (ia_cons (im_sl rs_any ((im_var 3)).w (io_some (im_int).w) io_none) ia_nil) (an_cons an_nil)))
 is_next)
 (is_ret (im_andV (im_op ro_eq ((im_sub ((im_var 3)).w (im_int).w)).w (im_str).w) (im_andV (im_op ro_ne ((im_fld (cs1 T.cl_SchemeReader) (by decide) (im_var 0))).w ((if_lst ia_nil)).w) (im_methC c_SchemeReader_read_cut (im_var 0) (ia_cons (im_sl rs_any ((im_var 3)).w (io_some (im_int).w) io_none) ia_nil) (an_cons an_nil)))))))))⟩
theorem ok_parse_scheme (T : Txt K mg) {f : Addr} {fd : FuncData} (Fn : Fun K "parse_scheme" "parse_scheme" s_parse_scheme f fd) (c_SchemeReader___init__ : CalK P WW.w K mg base 1 "SchemeReader" ["self"] (spD K 1 m_SchemeReader___init__)) (c_SchemeReader_read : CalM P WW.w K mg base 5 "SchemeReader" "read" ["self", "number", "line"] (spD K 3 m_SchemeReader_read)) (c_SchemeReader_scheme : CalM P WW.w K mg base 1 "SchemeReader" "scheme" ["self"] (spD K 1 m_SchemeReader_scheme)) (c_scheme_error : Cal P WW.w K mg base 5 "scheme_error" ["value"] (spD K 1 m_scheme_error)) : FnG P WW.w K mg base 6 f fd ["value"] (spD K 1 m_parse_scheme) :=
  fnD Fn sc_parse_scheme (by decide) fun cdv A outer s H E hr gd => ⟨_, (pss_cons (ps_if (pt_not (pt_truth (pe_callB call_isi (by rfl) T.n_isinstance (by decide +kernel) (pa_cons (pv 0) (pa_cons (pe_tyName (by rfl) T.n_str (by decide +kernel)) pa_nil))) (by intro _; rfl)))
 (pss_one ps_stuck)
 pss_nil)
 (pss_cons (ps_set (i := 1) sc_parse_scheme.nd rfl (Or.inl rfl) (pe_split (pv 0) pe_str))
 (pss_cons (ps_set (i := 2) sc_parse_scheme.nd rfl (Or.inl rfl) (pe_makeC0 c_SchemeReader___init__ hr gd (by rfl)))
 (pss_cons (ps_for PassesOwn.never rfl (pi_enumA (by rfl) T.n_enumerate (pa_cons (pv 1) pa_nil)) (pg_tup rfl (pgs_cons (pg_name (i := 3) sc_parse_scheme.nd rfl (Or.inl rfl)) (pgs_cons (pg_name (i := 4) sc_parse_scheme.nd rfl (Or.inl rfl)) pgs_nil)))
 (pss_one (ps_if (pt_not (pt_truth (pe_methC c_SchemeReader_read hr gd (pv 2) (pa_cons (pv 3) (pa_cons (pv 4) pa_nil))) (by intro _; rfl)))
 (pss_one ps_stuck)
 pss_nil)))
 (pss_cons (ps_if (pt_cmpR (op_eqA hr.units) (pe_fld (pv 2) rfl) (pe_lst pa_nil) (nomark _))
 (pss_one ps_stuck)
 pss_nil)
 (pss_cons (ps_set (i := 5) sc_parse_scheme.nd rfl (Or.inl rfl) (pe_methC0 c_SchemeReader_scheme hr gd (pv 2)))
 (pss_cons (ps_set (i := 6) sc_parse_scheme.nd rfl (Or.inl rfl) (pe_callC c_scheme_error hr gd (by rfl) (pa_cons (pv 5) pa_nil)))
 (pss_cons (ps_if (pt_cmpR op_notN (pv 6) pe_non (nomark _))
 (pss_one ps_stuck)
 pss_nil)
 (pss_one (ps_ret (pv 5))))))))))),
 (is_seq (is_if (it_not (it_truth ((im_isi "str" ((im_var 0)).w)).w))
 is_stuck
 is_next)
 (is_seq (is_asg ((if_split (im_var 0) im_str)).im (ig_name 1))
 (is_seq (is_asg (im_makeC c_SchemeReader___init__ ia_nil an_nil) (ig_name 2))
 (is_seq (is_for (ii_enum (im_var 1)) (ig_tup (igs_cons (ig_name 3) (igs_cons (ig_name 4) igs_nil)))
 (is_if (it_not (it_truth ((im_methC c_SchemeReader_read (im_var 2) (ia_cons (im_var 3) (ia_cons (im_var 4) ia_nil)) (an_cons (an_cons an_nil)))).w))
 is_stuck
 is_next))
 (is_seq (is_if (it_test (im_op ro_eq ((im_fld (cs1 T.cl_SchemeReader) (by decide) (im_var 2))).w ((if_lst ia_nil)).w))
 is_stuck
 is_next)
 (is_seq (is_asg (im_methC c_SchemeReader_scheme (im_var 2) ia_nil an_nil) (ig_name 5))
 (is_seq (is_asg (im_call (ia_cons (im_var 5) ia_nil) (an_cons an_nil)) (ig_name 6))
 (is_seq (is_if (it_test (im_op ro_isNot ((im_var 6)).w (im_non).w))
 is_stuck
 is_next)
 (is_ret (im_var 5))))))))))⟩
theorem ok_law (T : Txt K mg) {f : Addr} {fd : FuncData} (Fn : Fun K "law" "law" s_law f fd) (c__law_deck : Cal P WW.w K mg base 1 "_law_deck" ["_law_script"] (spDeck K)) (c__law_scheme : Cal P WW.w K mg base 4 "_law_scheme" ["_law_deck_here", "_law_states", "_law_most"] (spD K 3 m__law_scheme)) (c__law_draw : Cal P WW.w K mg base 1 "_law_draw" ["_law_deck_here", "_law_many"] (spD K 2 m__law_draw)) (c__law_one : Cal P WW.w K mg base 2 "_law_one" ["_law_deck_here", "_law_items"] (spD K 2 m__law_one)) (c__law_text : Cal P WW.w K mg base 1 "_law_text" ["_law_scheme_here"] (spD K 1 m__law_text)) (c_scheme_error : Cal P WW.w K mg base 5 "scheme_error" ["value"] (spD K 1 m_scheme_error)) (c_scheme_text : Cal P WW.w K mg base 2 "scheme_text" ["scheme"] (spD K 1 m_scheme_text)) (c_parse_scheme : Cal P WW.w K mg base 6 "parse_scheme" ["value"] (spD K 1 m_parse_scheme)) (hb : ∀ ns : List Int, ns.length ≤ 63 → ∃ s1, b_law (env0 11) ⟨ns.map absI, 0, []⟩ = some (.rt (.bl true), s1)) : FnG P WW.w K mg base 7 f fd ["_law_script"] (spLaw K) :=
  fn_law Fn sc_law (by decide) rfl hb fun cdv A outer s H E hr gd => ⟨_, pss_cons (ps_set (i := 1) sc_law.nd rfl (Or.inl rfl) (pe_callC c__law_deck hr gd (by rfl) (pa_cons (pv 0) pa_nil)))
 (pss_cons (ps_for PassesOwn.never rfl (pi_range1 (by rfl) T.n_range (pa_cons pe_int pa_nil)) (pg_name (i := 2) sc_law.nd rfl (Or.inl rfl))
 (pss_cons (ps_par (i := 3) (j := 4) rfl sc_law.nd rfl rfl (by decide) rfl rfl (pa_cons (pe_callC c__law_scheme hr gd (by rfl) (pa_cons (pv 1) (pa_cons pe_int (pa_cons pe_int pa_nil)))) (pa_cons (pe_callC c__law_scheme hr gd (by rfl) (pa_cons (pv 1) (pa_cons pe_int (pa_cons pe_int pa_nil)))) pa_nil)) (by rfl))
 (pss_cons (ps_if (pt_cmpR (op_eqA hr.units) (pe_callC c__law_draw hr gd (by rfl) (pa_cons (pv 1) (pa_cons pe_int pa_nil))) pe_int (nomark _))
 (pss_cons (ps_asg (pv 3) (pg_tup rfl (pgs_cons (pg_name (i := 5) sc_law.nd rfl (Or.inl rfl)) (pgs_cons (pg_name (i := 6) sc_law.nd rfl (Or.inl rfl)) (pgs_cons (pg_name (i := 7) sc_law.nd rfl (Or.inl rfl)) pgs_nil)))))
 (pss_cons (ps_set (i := 8) sc_law.nd rfl (Or.inl rfl) (pe_tup (pa_cons (pe_sub (units1 hr.units) (pv 5) pe_int) (pa_cons (pe_sub (units1 hr.units) (pv 5) pe_int) (pa_cons (pe_revT (pe_sub (units1 hr.units) (pv 5) pe_int)) pa_nil)))))
 (pss_one (ps_set (i := 4) sc_law.nd rfl (Or.inl rfl) (pe_callC c__law_one hr gd (by rfl) (pa_cons (pv 1) (pa_cons (pe_lst (pa_cons (pe_tup (pa_cons (pv 5) (pa_cons (pv 6) (pa_cons (pe_slice sl_any (pv 7) (po_some pe_int) po_none) pa_nil)))) (pa_cons (pe_tup (pa_cons (pv 8) (pa_cons (pv 6) (pa_cons (pv 7) pa_nil)))) (pa_cons (pe_tup (pa_cons (pv 5) (pa_cons (pe_revT (pv 6)) (pa_cons (pe_revT (pv 7)) pa_nil)))) pa_nil)))) pa_nil)))))))
 pss_nil)
 (pss_cons (ps_for PassesOwn.never rfl (pi_seq (pe_lst (pa_cons (pv 3) (pa_cons (pv 4) pa_nil)))) (pg_name (i := 9) sc_law.nd rfl (Or.inl rfl))
 (pss_cons (ps_set (i := 10) sc_law.nd rfl (Or.inl rfl) (pe_callC c__law_text hr gd (by rfl) (pa_cons (pv 9) pa_nil)))
 (pss_cons (ps_if (PW.pt (pw_or (pt_cmpR op_notN (pe_callC c_scheme_error hr gd (by rfl) (pa_cons (pv 9) pa_nil)) pe_non (nomark _)) (pw_or1 (pt_cmpR (op_neA hr.units) (pe_callB (call_reprD gd hr.units) (by rfl) T.n_repr (by decide +kernel) (pa_cons (pe_op op_rep (pe_lst (pa_cons (pe_callC c_scheme_text hr gd (by rfl) (pa_cons (pv 9) pa_nil)) pa_nil)) pe_int) pa_nil)) (pe_callB (call_reprD gd hr.units) (by rfl) T.n_repr (by decide +kernel) (pa_cons (pe_lst (pa_cons (pv 10) (pa_cons (pe_callC c_scheme_text hr gd (by rfl) (pa_cons (pv 9) pa_nil)) pa_nil))) pa_nil)) (nomark _)))))
 (pss_one (ps_ret pe_bl))
 pss_nil)
 (pss_one (ps_if (pt_cmpR (op_neA hr.units) (pe_callB (call_reprD gd hr.units) (by rfl) T.n_repr (by decide +kernel) (pa_cons (pe_lst (pa_cons (pe_callC c_parse_scheme hr gd (by rfl) (pa_cons (pv 10) pa_nil)) (pa_cons (pe_callC c_parse_scheme hr gd (by rfl) (pa_cons (pv 10) pa_nil)) pa_nil))) pa_nil)) (pe_callB (call_reprD gd hr.units) (by rfl) T.n_repr (by decide +kernel) (pa_cons (pe_lst (pa_cons (pv 9) (pa_cons (pv 9) pa_nil))) pa_nil)) (nomark _))
 (pss_one (ps_ret pe_bl))
 pss_nil)))))
 (pss_one (ps_if (pt_cmpR (op_neA hr.units) (pe_cmpR (op_eqA hr.units) (pe_callC c_scheme_text hr gd (by rfl) (pa_cons (pv 3) pa_nil)) (pe_callC c_scheme_text hr gd (by rfl) (pa_cons (pv 4) pa_nil)) (nomark _)) (pe_cmpR (op_eqA hr.units) (pv 3) (pv 4) (nomark _)) (nomark _))
 (pss_one (ps_ret pe_bl))
 pss_nil))))))
 (pss_one (ps_ret pe_bl))),
 (is_seq (is_for (ii_range1 (iaw_cons (im_int).w iaw_nil)) (ig_name 2)
 (is_seq (is_par 3 4 (ia_cons (im_call (ia_cons (im_var 1) (ia_cons im_int (ia_cons im_int ia_nil))) (an_cons (an_cons (an_cons an_nil)))) (ia_cons (im_call (ia_cons (im_var 1) (ia_cons im_int (ia_cons im_int ia_nil))) (an_cons (an_cons (an_cons an_nil)))) ia_nil)))
 (is_seq (is_if (it_test (im_op ro_eq ((im_call (ia_cons (im_var 1) (ia_cons im_int ia_nil)) (an_cons (an_cons an_nil)))).w (im_int).w))
 (is_seq (is_asg (im_var 3) (ig_tup (igs_cons (ig_name 5) (igs_cons (ig_name 6) (igs_cons (ig_name 7) igs_nil)))))
 (is_seq (is_asg (im_tup (ia_cons (im_sub ((im_var 5)).w (im_int).w) (ia_cons (im_sub ((im_var 5)).w (im_int).w) (ia_cons (im_revT ((im_sub ((im_var 5)).w (im_int).w)).w) ia_nil)))) (ig_name 8))
 (is_asg (im_call (ia_cons (im_var 1) (ia_cons ((if_lst (ia_cons (im_tup (ia_cons (im_var 5) (ia_cons (im_var 6) (ia_cons (im_sl rs_any ((im_var 7)).w (io_some (im_int).w) io_none) ia_nil)))) (ia_cons (im_tup (ia_cons (im_var 8) (ia_cons (im_var 6) (ia_cons (im_var 7) ia_nil)))) (ia_cons (im_tup (ia_cons (im_var 5) (ia_cons (im_revT ((im_var 6)).w) (ia_cons (im_revT ((im_var 7)).w) ia_nil)))) ia_nil))))).im ia_nil)) (an_cons (an_cons an_nil))) (ig_name 4))))
 is_next)
 (is_seq (is_for (ii_seq ((if_lst (ia_cons (im_var 3) (ia_cons (im_var 4) ia_nil)))).im) (ig_name 9)
 (is_seq (is_asg (im_call (ia_cons (im_var 9) ia_nil) (an_cons an_nil)) (ig_name 10))
 (is_seq (is_if (it_or (it_test (im_op ro_isNot ((im_call (ia_cons (im_var 9) ia_nil) (an_cons an_nil))).w (im_non).w)) (it_test (im_op ro_ne ((im_cb rc_repr (iaw_cons ((im_opF rof_mul ((if_lst (ia_cons (im_call (ia_cons (im_var 9) ia_nil) (an_cons an_nil)) ia_nil))).w (im_int).w)).w iaw_nil))).w ((im_cb rc_repr (iaw_cons ((if_lst (ia_cons (im_var 10) (ia_cons (im_call (ia_cons (im_var 9) ia_nil) (an_cons an_nil)) ia_nil)))).w iaw_nil))).w)))
 (is_ret im_bl)
 is_next)
 (is_if (it_test (im_op ro_ne ((im_cb rc_repr (iaw_cons ((if_lst (ia_cons (im_call (ia_cons (im_var 10) ia_nil) (an_cons an_nil)) (ia_cons (im_call (ia_cons (im_var 10) ia_nil) (an_cons an_nil)) ia_nil)))).w iaw_nil))).w ((im_cb rc_repr (iaw_cons ((if_lst (ia_cons (im_var 9) (ia_cons (im_var 9) ia_nil)))).w iaw_nil))).w))
 (is_ret im_bl)
 is_next))))
 (is_if (it_test (im_op ro_ne ((im_op ro_eq ((im_call (ia_cons (im_var 3) ia_nil) (an_cons an_nil))).w ((im_call (ia_cons (im_var 4) ia_nil) (an_cons an_nil))).w)).w ((im_op ro_eq ((im_var 3)).w ((im_var 4)).w)).w))
 (is_ret im_bl)
 is_next)))))
 (is_ret im_bl))⟩
end
/-! ### what the top has written -/
theorem all_mk {l : PySem.W.OpenLaw} (ww : WW) {K : Fg} {h : Heap} {mg : Str → Option Value} {fa : Addr} (hb : ∀ ns : List Int, ns.length ≤ 63 → ∃ s1, b_law (env0 11) ⟨ns.map absI, 0, []⟩ = some (.rt (.bl true), s1)) (X : K.In h) (G : h.Ns mainGlobals mg) (hfa : mg "law" = some (.ref fa))
    {f__law_deck : Addr} {odx0 anx0 : Option Addr} {slx0 : Array (Option Value)} {ocx0 kVx0 dcx0 pmx0 cdx0 ctx0 : Value} (ax0 : PySem.W.nsIn K mainGlobals "_law_deck" = some (some (.ref f__law_deck))) (lx0 : K.lookup f__law_deck = some ⟨ocx0, odx0, .func (PySem.W.fnOf "_law_deck" "_law_deck" (defArgs s__law_deck) (defBody s__law_deck) (defScope s__law_deck) .none kVx0 dcx0 pmx0 anx0 cdx0 ctx0), slx0⟩) (ccx0 : PySem.W.codeIn K cdx0 "_law_deck" = true) (kx0 : PySem.W.keepIn K (.ref f__law_deck) = true)
    {f__law_draw : Addr} {odx1 anx1 : Option Addr} {slx1 : Array (Option Value)} {ocx1 kVx1 dcx1 pmx1 cdx1 ctx1 : Value} (ax1 : PySem.W.nsIn K mainGlobals "_law_draw" = some (some (.ref f__law_draw))) (lx1 : K.lookup f__law_draw = some ⟨ocx1, odx1, .func (PySem.W.fnOf "_law_draw" "_law_draw" (defArgs s__law_draw) (defBody s__law_draw) (defScope s__law_draw) .none kVx1 dcx1 pmx1 anx1 cdx1 ctx1), slx1⟩) (ccx1 : PySem.W.codeIn K cdx1 "_law_draw" = true) (kx1 : PySem.W.keepIn K (.ref f__law_draw) = true)
    {f__law_kind : Addr} {odx2 anx2 : Option Addr} {slx2 : Array (Option Value)} {ocx2 kVx2 dcx2 pmx2 cdx2 ctx2 : Value} (ax2 : PySem.W.nsIn K mainGlobals "_law_kind" = some (some (.ref f__law_kind))) (lx2 : K.lookup f__law_kind = some ⟨ocx2, odx2, .func (PySem.W.fnOf "_law_kind" "_law_kind" (defArgs s__law_kind) (defBody s__law_kind) (defScope s__law_kind) .none kVx2 dcx2 pmx2 anx2 cdx2 ctx2), slx2⟩) (ccx2 : PySem.W.codeIn K cdx2 "_law_kind" = true) (kx2 : PySem.W.keepIn K (.ref f__law_kind) = true)
    {f__law_one : Addr} {odx3 anx3 : Option Addr} {slx3 : Array (Option Value)} {ocx3 kVx3 dcx3 pmx3 cdx3 ctx3 : Value} (ax3 : PySem.W.nsIn K mainGlobals "_law_one" = some (some (.ref f__law_one))) (lx3 : K.lookup f__law_one = some ⟨ocx3, odx3, .func (PySem.W.fnOf "_law_one" "_law_one" (defArgs s__law_one) (defBody s__law_one) (defScope s__law_one) .none kVx3 dcx3 pmx3 anx3 cdx3 ctx3), slx3⟩) (ccx3 : PySem.W.codeIn K cdx3 "_law_one" = true) (kx3 : PySem.W.keepIn K (.ref f__law_one) = true)
    {f__law_units : Addr} {odx4 anx4 : Option Addr} {slx4 : Array (Option Value)} {ocx4 kVx4 dcx4 pmx4 cdx4 ctx4 : Value} (ax4 : PySem.W.nsIn K mainGlobals "_law_units" = some (some (.ref f__law_units))) (lx4 : K.lookup f__law_units = some ⟨ocx4, odx4, .func (PySem.W.fnOf "_law_units" "_law_units" (defArgs s__law_units) (defBody s__law_units) (defScope s__law_units) .none kVx4 dcx4 pmx4 anx4 cdx4 ctx4), slx4⟩) (ccx4 : PySem.W.codeIn K cdx4 "_law_units" = true) (kx4 : PySem.W.keepIn K (.ref f__law_units) = true)
    {f__law_cut : Addr} {odx5 anx5 : Option Addr} {slx5 : Array (Option Value)} {ocx5 kVx5 dcx5 pmx5 cdx5 ctx5 : Value} (ax5 : PySem.W.nsIn K mainGlobals "_law_cut" = some (some (.ref f__law_cut))) (lx5 : K.lookup f__law_cut = some ⟨ocx5, odx5, .func (PySem.W.fnOf "_law_cut" "_law_cut" (defArgs s__law_cut) (defBody s__law_cut) (defScope s__law_cut) .none kVx5 dcx5 pmx5 anx5 cdx5 ctx5), slx5⟩) (ccx5 : PySem.W.codeIn K cdx5 "_law_cut" = true) (kx5 : PySem.W.keepIn K (.ref f__law_cut) = true)
    {f__law_scheme : Addr} {odx6 anx6 : Option Addr} {slx6 : Array (Option Value)} {ocx6 kVx6 dcx6 pmx6 cdx6 ctx6 : Value} (ax6 : PySem.W.nsIn K mainGlobals "_law_scheme" = some (some (.ref f__law_scheme))) (lx6 : K.lookup f__law_scheme = some ⟨ocx6, odx6, .func (PySem.W.fnOf "_law_scheme" "_law_scheme" (defArgs s__law_scheme) (defBody s__law_scheme) (defScope s__law_scheme) .none kVx6 dcx6 pmx6 anx6 cdx6 ctx6), slx6⟩) (ccx6 : PySem.W.codeIn K cdx6 "_law_scheme" = true) (kx6 : PySem.W.keepIn K (.ref f__law_scheme) = true)
    {f__law_text : Addr} {odx7 anx7 : Option Addr} {slx7 : Array (Option Value)} {ocx7 kVx7 dcx7 pmx7 cdx7 ctx7 : Value} (ax7 : PySem.W.nsIn K mainGlobals "_law_text" = some (some (.ref f__law_text))) (lx7 : K.lookup f__law_text = some ⟨ocx7, odx7, .func (PySem.W.fnOf "_law_text" "_law_text" (defArgs s__law_text) (defBody s__law_text) (defScope s__law_text) .none kVx7 dcx7 pmx7 anx7 cdx7 ctx7), slx7⟩) (ccx7 : PySem.W.codeIn K cdx7 "_law_text" = true) (kx7 : PySem.W.keepIn K (.ref f__law_text) = true)
    {f_state_line : Addr} {odx8 anx8 : Option Addr} {slx8 : Array (Option Value)} {ocx8 kVx8 dcx8 pmx8 cdx8 ctx8 : Value} (ax8 : PySem.W.nsIn K mainGlobals "state_line" = some (some (.ref f_state_line))) (lx8 : K.lookup f_state_line = some ⟨ocx8, odx8, .func (PySem.W.fnOf "state_line" "state_line" (defArgs s_state_line) (defBody s_state_line) (defScope s_state_line) .none kVx8 dcx8 pmx8 anx8 cdx8 ctx8), slx8⟩) (ccx8 : PySem.W.codeIn K cdx8 "state_line" = true) (kx8 : PySem.W.keepIn K (.ref f_state_line) = true)
    {f_cut_line : Addr} {odx9 anx9 : Option Addr} {slx9 : Array (Option Value)} {ocx9 kVx9 dcx9 pmx9 cdx9 ctx9 : Value} (ax9 : PySem.W.nsIn K mainGlobals "cut_line" = some (some (.ref f_cut_line))) (lx9 : K.lookup f_cut_line = some ⟨ocx9, odx9, .func (PySem.W.fnOf "cut_line" "cut_line" (defArgs s_cut_line) (defBody s_cut_line) (defScope s_cut_line) .none kVx9 dcx9 pmx9 anx9 cdx9 ctx9), slx9⟩) (ccx9 : PySem.W.codeIn K cdx9 "cut_line" = true) (kx9 : PySem.W.keepIn K (.ref f_cut_line) = true)
    {f_scheme_text : Addr} {odx10 anx10 : Option Addr} {slx10 : Array (Option Value)} {ocx10 kVx10 dcx10 pmx10 cdx10 ctx10 : Value} (ax10 : PySem.W.nsIn K mainGlobals "scheme_text" = some (some (.ref f_scheme_text))) (lx10 : K.lookup f_scheme_text = some ⟨ocx10, odx10, .func (PySem.W.fnOf "scheme_text" "scheme_text" (defArgs s_scheme_text) (defBody s_scheme_text) (defScope s_scheme_text) .none kVx10 dcx10 pmx10 anx10 cdx10 ctx10), slx10⟩) (ccx10 : PySem.W.codeIn K cdx10 "scheme_text" = true) (kx10 : PySem.W.keepIn K (.ref f_scheme_text) = true)
    {f_is_integer_words : Addr} {odx11 anx11 : Option Addr} {slx11 : Array (Option Value)} {ocx11 kVx11 dcx11 pmx11 cdx11 ctx11 : Value} (ax11 : PySem.W.nsIn K mainGlobals "is_integer_words" = some (some (.ref f_is_integer_words))) (lx11 : K.lookup f_is_integer_words = some ⟨ocx11, odx11, .func (PySem.W.fnOf "is_integer" "is_integer" (defArgs s_is_integer_words) (defBody s_is_integer_words) (defScope s_is_integer_words) .none kVx11 dcx11 pmx11 anx11 cdx11 ctx11), slx11⟩) (ccx11 : PySem.W.codeIn K cdx11 "is_integer" = true) (kx11 : PySem.W.keepIn K (.ref f_is_integer_words) = true)
    {f_is_row : Addr} {odx12 anx12 : Option Addr} {slx12 : Array (Option Value)} {ocx12 kVx12 dcx12 pmx12 cdx12 ctx12 : Value} (ax12 : PySem.W.nsIn K mainGlobals "is_row" = some (some (.ref f_is_row))) (lx12 : K.lookup f_is_row = some ⟨ocx12, odx12, .func (PySem.W.fnOf "is_row" "is_row" (defArgs s_is_row) (defBody s_is_row) (defScope s_is_row) .none kVx12 dcx12 pmx12 anx12 cdx12 ctx12), slx12⟩) (ccx12 : PySem.W.codeIn K cdx12 "is_row" = true) (kx12 : PySem.W.keepIn K (.ref f_is_row) = true)
    {f_are_rows : Addr} {odx13 anx13 : Option Addr} {slx13 : Array (Option Value)} {ocx13 kVx13 dcx13 pmx13 cdx13 ctx13 : Value} (ax13 : PySem.W.nsIn K mainGlobals "are_rows" = some (some (.ref f_are_rows))) (lx13 : K.lookup f_are_rows = some ⟨ocx13, odx13, .func (PySem.W.fnOf "are_rows" "are_rows" (defArgs s_are_rows) (defBody s_are_rows) (defScope s_are_rows) .none kVx13 dcx13 pmx13 anx13 cdx13 ctx13), slx13⟩) (ccx13 : PySem.W.codeIn K cdx13 "are_rows" = true) (kx13 : PySem.W.keepIn K (.ref f_are_rows) = true)
    {f_are_ends : Addr} {odx14 anx14 : Option Addr} {slx14 : Array (Option Value)} {ocx14 kVx14 dcx14 pmx14 cdx14 ctx14 : Value} (ax14 : PySem.W.nsIn K mainGlobals "are_ends" = some (some (.ref f_are_ends))) (lx14 : K.lookup f_are_ends = some ⟨ocx14, odx14, .func (PySem.W.fnOf "are_ends" "are_ends" (defArgs s_are_ends) (defBody s_are_ends) (defScope s_are_ends) .none kVx14 dcx14 pmx14 anx14 cdx14 ctx14), slx14⟩) (ccx14 : PySem.W.codeIn K cdx14 "are_ends" = true) (kx14 : PySem.W.keepIn K (.ref f_are_ends) = true)
    {f_kind_error : Addr} {odx15 anx15 : Option Addr} {slx15 : Array (Option Value)} {ocx15 kVx15 dcx15 pmx15 cdx15 ctx15 : Value} (ax15 : PySem.W.nsIn K mainGlobals "kind_error" = some (some (.ref f_kind_error))) (lx15 : K.lookup f_kind_error = some ⟨ocx15, odx15, .func (PySem.W.fnOf "kind_error" "kind_error" (defArgs s_kind_error) (defBody s_kind_error) (defScope s_kind_error) .none kVx15 dcx15 pmx15 anx15 cdx15 ctx15), slx15⟩) (ccx15 : PySem.W.codeIn K cdx15 "kind_error" = true) (kx15 : PySem.W.keepIn K (.ref f_kind_error) = true)
    {f_is_integer_cuts : Addr} {odx16 anx16 : Option Addr} {slx16 : Array (Option Value)} {ocx16 kVx16 dcx16 pmx16 cdx16 ctx16 : Value} (ax16 : PySem.W.nsIn K mainGlobals "is_integer_cuts" = some (some (.ref f_is_integer_cuts))) (lx16 : K.lookup f_is_integer_cuts = some ⟨ocx16, odx16, .func (PySem.W.fnOf "is_integer" "is_integer" (defArgs s_is_integer_cuts) (defBody s_is_integer_cuts) (defScope s_is_integer_cuts) .none kVx16 dcx16 pmx16 anx16 cdx16 ctx16), slx16⟩) (ccx16 : PySem.W.codeIn K cdx16 "is_integer" = true) (kx16 : PySem.W.keepIn K (.ref f_is_integer_cuts) = true)
    {f_is_cut_limit : Addr} {odx17 anx17 : Option Addr} {slx17 : Array (Option Value)} {ocx17 kVx17 dcx17 pmx17 cdx17 ctx17 : Value} (ax17 : PySem.W.nsIn K mainGlobals "is_cut_limit" = some (some (.ref f_is_cut_limit))) (lx17 : K.lookup f_is_cut_limit = some ⟨ocx17, odx17, .func (PySem.W.fnOf "is_cut_limit" "is_cut_limit" (defArgs s_is_cut_limit) (defBody s_is_cut_limit) (defScope s_is_cut_limit) .none kVx17 dcx17 pmx17 anx17 cdx17 ctx17), slx17⟩) (ccx17 : PySem.W.codeIn K cdx17 "is_cut_limit" = true) (kx17 : PySem.W.keepIn K (.ref f_is_cut_limit) = true)
    {f_are_clinging : Addr} {odx18 anx18 : Option Addr} {slx18 : Array (Option Value)} {ocx18 kVx18 dcx18 pmx18 cdx18 ctx18 : Value} (ax18 : PySem.W.nsIn K mainGlobals "are_clinging" = some (some (.ref f_are_clinging))) (lx18 : K.lookup f_are_clinging = some ⟨ocx18, odx18, .func (PySem.W.fnOf "are_clinging" "are_clinging" (defArgs s_are_clinging) (defBody s_are_clinging) (defScope s_are_clinging) .none kVx18 dcx18 pmx18 anx18 cdx18 ctx18), slx18⟩) (ccx18 : PySem.W.codeIn K cdx18 "are_clinging" = true) (kx18 : PySem.W.keepIn K (.ref f_are_clinging) = true)
    {f_is_cut : Addr} {odx19 anx19 : Option Addr} {slx19 : Array (Option Value)} {ocx19 kVx19 dcx19 pmx19 cdx19 ctx19 : Value} (ax19 : PySem.W.nsIn K mainGlobals "is_cut" = some (some (.ref f_is_cut))) (lx19 : K.lookup f_is_cut = some ⟨ocx19, odx19, .func (PySem.W.fnOf "is_cut" "is_cut" (defArgs s_is_cut) (defBody s_is_cut) (defScope s_is_cut) .none kVx19 dcx19 pmx19 anx19 cdx19 ctx19), slx19⟩) (ccx19 : PySem.W.codeIn K cdx19 "is_cut" = true) (kx19 : PySem.W.keepIn K (.ref f_is_cut) = true)
    {f_cuts_error : Addr} {odx20 anx20 : Option Addr} {slx20 : Array (Option Value)} {ocx20 kVx20 dcx20 pmx20 cdx20 ctx20 : Value} (ax20 : PySem.W.nsIn K mainGlobals "cuts_error" = some (some (.ref f_cuts_error))) (lx20 : K.lookup f_cuts_error = some ⟨ocx20, odx20, .func (PySem.W.fnOf "cuts_error" "cuts_error" (defArgs s_cuts_error) (defBody s_cuts_error) (defScope s_cuts_error) .none kVx20 dcx20 pmx20 anx20 cdx20 ctx20), slx20⟩) (ccx20 : PySem.W.codeIn K cdx20 "cuts_error" = true) (kx20 : PySem.W.keepIn K (.ref f_cuts_error) = true)
    {f_is_unit : Addr} {odx21 anx21 : Option Addr} {slx21 : Array (Option Value)} {ocx21 kVx21 dcx21 pmx21 cdx21 ctx21 : Value} (ax21 : PySem.W.nsIn K mainGlobals "is_unit" = some (some (.ref f_is_unit))) (lx21 : K.lookup f_is_unit = some ⟨ocx21, odx21, .func (PySem.W.fnOf "is_unit" "is_unit" (defArgs s_is_unit) (defBody s_is_unit) (defScope s_is_unit) .none kVx21 dcx21 pmx21 anx21 cdx21 ctx21), slx21⟩) (ccx21 : PySem.W.codeIn K cdx21 "is_unit" = true) (kx21 : PySem.W.keepIn K (.ref f_is_unit) = true)
    {f_are_units : Addr} {odx22 anx22 : Option Addr} {slx22 : Array (Option Value)} {ocx22 kVx22 dcx22 pmx22 cdx22 ctx22 : Value} (ax22 : PySem.W.nsIn K mainGlobals "are_units" = some (some (.ref f_are_units))) (lx22 : K.lookup f_are_units = some ⟨ocx22, odx22, .func (PySem.W.fnOf "are_units" "are_units" (defArgs s_are_units) (defBody s_are_units) (defScope s_are_units) .none kVx22 dcx22 pmx22 anx22 cdx22 ctx22), slx22⟩) (ccx22 : PySem.W.codeIn K cdx22 "are_units" = true) (kx22 : PySem.W.keepIn K (.ref f_are_units) = true)
    {f_scheme_error : Addr} {odx23 anx23 : Option Addr} {slx23 : Array (Option Value)} {ocx23 kVx23 dcx23 pmx23 cdx23 ctx23 : Value} (ax23 : PySem.W.nsIn K mainGlobals "scheme_error" = some (some (.ref f_scheme_error))) (lx23 : K.lookup f_scheme_error = some ⟨ocx23, odx23, .func (PySem.W.fnOf "scheme_error" "scheme_error" (defArgs s_scheme_error) (defBody s_scheme_error) (defScope s_scheme_error) .none kVx23 dcx23 pmx23 anx23 cdx23 ctx23), slx23⟩) (ccx23 : PySem.W.codeIn K cdx23 "scheme_error" = true) (kx23 : PySem.W.keepIn K (.ref f_scheme_error) = true)
    {C_SchemeReader : Addr} (aC_SchemeReader : PySem.W.nsIn K mainGlobals "SchemeReader" = some (some (.ref C_SchemeReader))) (pg_SchemeReader : PySem.W.plainGet K C_SchemeReader Str.empty = true) (hd_SchemeReader : PySem.W.hasDictIn K C_SchemeReader = true) (po_SchemeReader : PySem.W.plainOver K C_SchemeReader = true) (sa_SchemeReader : PySem.W.findIn K (.ref C_SchemeReader) "__setattr__" = some (some (.builtin "object.__setattr__"))) (mk_SchemeReader : PySem.W.makesIn K C_SchemeReader = true) (kc_SchemeReader : PySem.W.keepIn K (.ref C_SchemeReader) = true)
    (nf0_SchemeReader : PySem.W.findIn K (.ref C_SchemeReader) "letters" = some none)
    (nf1_SchemeReader : PySem.W.findIn K (.ref C_SchemeReader) "rows" = some none)
    (nf2_SchemeReader : PySem.W.findIn K (.ref C_SchemeReader) "ends" = some none)
    (nf3_SchemeReader : PySem.W.findIn K (.ref C_SchemeReader) "units" = some none)
    (nf4_SchemeReader : PySem.W.findIn K (.ref C_SchemeReader) "cuts" = some none)
    {f_SchemeReader___init__ : Addr} {odx24 anx24 : Option Addr} {slx24 : Array (Option Value)} {ocx24 kVx24 dcx24 pmx24 cdx24 ctx24 : Value} (ax24 : PySem.W.findIn K (.ref C_SchemeReader) "__init__" = some (some (.ref f_SchemeReader___init__))) (ix24 : PySem.W.isFn K (.ref f_SchemeReader___init__) = true) (lx24 : K.lookup f_SchemeReader___init__ = some ⟨ocx24, odx24, .func (PySem.W.fnOf "__init__" "SchemeReader.__init__" (defArgs s_SchemeReader___init__) (defBody s_SchemeReader___init__) (defScope s_SchemeReader___init__) .none kVx24 dcx24 pmx24 anx24 cdx24 ctx24), slx24⟩) (ccx24 : PySem.W.codeIn K cdx24 "SchemeReader.__init__" = true) (kx24 : PySem.W.keepIn K (.ref f_SchemeReader___init__) = true)
    {f_SchemeReader_scheme : Addr} {odx25 anx25 : Option Addr} {slx25 : Array (Option Value)} {ocx25 kVx25 dcx25 pmx25 cdx25 ctx25 : Value} (ax25 : PySem.W.findIn K (.ref C_SchemeReader) "scheme" = some (some (.ref f_SchemeReader_scheme))) (ix25 : PySem.W.isFn K (.ref f_SchemeReader_scheme) = true) (lx25 : K.lookup f_SchemeReader_scheme = some ⟨ocx25, odx25, .func (PySem.W.fnOf "scheme" "SchemeReader.scheme" (defArgs s_SchemeReader_scheme) (defBody s_SchemeReader_scheme) (defScope s_SchemeReader_scheme) .none kVx25 dcx25 pmx25 anx25 cdx25 ctx25), slx25⟩) (ccx25 : PySem.W.codeIn K cdx25 "SchemeReader.scheme" = true) (kx25 : PySem.W.keepIn K (.ref f_SchemeReader_scheme) = true)
    {f_SchemeReader_read_letters : Addr} {odx26 anx26 : Option Addr} {slx26 : Array (Option Value)} {ocx26 kVx26 dcx26 pmx26 cdx26 ctx26 : Value} (ax26 : PySem.W.findIn K (.ref C_SchemeReader) "read_letters" = some (some (.ref f_SchemeReader_read_letters))) (ix26 : PySem.W.isFn K (.ref f_SchemeReader_read_letters) = true) (lx26 : K.lookup f_SchemeReader_read_letters = some ⟨ocx26, odx26, .func (PySem.W.fnOf "read_letters" "SchemeReader.read_letters" (defArgs s_SchemeReader_read_letters) (defBody s_SchemeReader_read_letters) (defScope s_SchemeReader_read_letters) .none kVx26 dcx26 pmx26 anx26 cdx26 ctx26), slx26⟩) (ccx26 : PySem.W.codeIn K cdx26 "SchemeReader.read_letters" = true) (kx26 : PySem.W.keepIn K (.ref f_SchemeReader_read_letters) = true)
    {f_is_made_of : Addr} {odx27 anx27 : Option Addr} {slx27 : Array (Option Value)} {ocx27 kVx27 dcx27 pmx27 cdx27 ctx27 : Value} (ax27 : PySem.W.nsIn K mainGlobals "is_made_of" = some (some (.ref f_is_made_of))) (lx27 : K.lookup f_is_made_of = some ⟨ocx27, odx27, .func (PySem.W.fnOf "is_made_of" "is_made_of" (defArgs s_is_made_of) (defBody s_is_made_of) (defScope s_is_made_of) .none kVx27 dcx27 pmx27 anx27 cdx27 ctx27), slx27⟩) (ccx27 : PySem.W.codeIn K cdx27 "is_made_of" = true) (kx27 : PySem.W.keepIn K (.ref f_is_made_of) = true)
    {f_is_figures : Addr} {odx28 anx28 : Option Addr} {slx28 : Array (Option Value)} {ocx28 kVx28 dcx28 pmx28 cdx28 ctx28 : Value} (ax28 : PySem.W.nsIn K mainGlobals "is_figures" = some (some (.ref f_is_figures))) (lx28 : K.lookup f_is_figures = some ⟨ocx28, odx28, .func (PySem.W.fnOf "is_figures" "is_figures" (defArgs s_is_figures) (defBody s_is_figures) (defScope s_is_figures) .none kVx28 dcx28 pmx28 anx28 cdx28 ctx28), slx28⟩) (ccx28 : PySem.W.codeIn K cdx28 "is_figures" = true) (kx28 : PySem.W.keepIn K (.ref f_is_figures) = true)
    {f_items_of : Addr} {odx29 anx29 : Option Addr} {slx29 : Array (Option Value)} {ocx29 kVx29 dcx29 pmx29 cdx29 ctx29 : Value} (ax29 : PySem.W.nsIn K mainGlobals "items_of" = some (some (.ref f_items_of))) (lx29 : K.lookup f_items_of = some ⟨ocx29, odx29, .func (PySem.W.fnOf "items_of" "items_of" (defArgs s_items_of) (defBody s_items_of) (defScope s_items_of) .none kVx29 dcx29 pmx29 anx29 cdx29 ctx29), slx29⟩) (ccx29 : PySem.W.codeIn K cdx29 "items_of" = true) (kx29 : PySem.W.keepIn K (.ref f_items_of) = true)
    {f_SchemeReader_read_state : Addr} {odx30 anx30 : Option Addr} {slx30 : Array (Option Value)} {ocx30 kVx30 dcx30 pmx30 cdx30 ctx30 : Value} (ax30 : PySem.W.findIn K (.ref C_SchemeReader) "read_state" = some (some (.ref f_SchemeReader_read_state))) (ix30 : PySem.W.isFn K (.ref f_SchemeReader_read_state) = true) (lx30 : K.lookup f_SchemeReader_read_state = some ⟨ocx30, odx30, .func (PySem.W.fnOf "read_state" "SchemeReader.read_state" (defArgs s_SchemeReader_read_state) (defBody s_SchemeReader_read_state) (defScope s_SchemeReader_read_state) .none kVx30 dcx30 pmx30 anx30 cdx30 ctx30), slx30⟩) (ccx30 : PySem.W.codeIn K cdx30 "SchemeReader.read_state" = true) (kx30 : PySem.W.keepIn K (.ref f_SchemeReader_read_state) = true)
    {f_SchemeReader_read_unit : Addr} {odx31 anx31 : Option Addr} {slx31 : Array (Option Value)} {ocx31 kVx31 dcx31 pmx31 cdx31 ctx31 : Value} (ax31 : PySem.W.findIn K (.ref C_SchemeReader) "read_unit" = some (some (.ref f_SchemeReader_read_unit))) (ix31 : PySem.W.isFn K (.ref f_SchemeReader_read_unit) = true) (lx31 : K.lookup f_SchemeReader_read_unit = some ⟨ocx31, odx31, .func (PySem.W.fnOf "read_unit" "SchemeReader.read_unit" (defArgs s_SchemeReader_read_unit) (defBody s_SchemeReader_read_unit) (defScope s_SchemeReader_read_unit) .none kVx31 dcx31 pmx31 anx31 cdx31 ctx31), slx31⟩) (ccx31 : PySem.W.codeIn K cdx31 "SchemeReader.read_unit" = true) (kx31 : PySem.W.keepIn K (.ref f_SchemeReader_read_unit) = true)
    {f_are_clings : Addr} {odx32 anx32 : Option Addr} {slx32 : Array (Option Value)} {ocx32 kVx32 dcx32 pmx32 cdx32 ctx32 : Value} (ax32 : PySem.W.nsIn K mainGlobals "are_clings" = some (some (.ref f_are_clings))) (lx32 : K.lookup f_are_clings = some ⟨ocx32, odx32, .func (PySem.W.fnOf "are_clings" "are_clings" (defArgs s_are_clings) (defBody s_are_clings) (defScope s_are_clings) .none kVx32 dcx32 pmx32 anx32 cdx32 ctx32), slx32⟩) (ccx32 : PySem.W.codeIn K cdx32 "are_clings" = true) (kx32 : PySem.W.keepIn K (.ref f_are_clings) = true)
    {f_clings_of : Addr} {odx33 anx33 : Option Addr} {slx33 : Array (Option Value)} {ocx33 kVx33 dcx33 pmx33 cdx33 ctx33 : Value} (ax33 : PySem.W.nsIn K mainGlobals "clings_of" = some (some (.ref f_clings_of))) (lx33 : K.lookup f_clings_of = some ⟨ocx33, odx33, .func (PySem.W.fnOf "clings_of" "clings_of" (defArgs s_clings_of) (defBody s_clings_of) (defScope s_clings_of) .none kVx33 dcx33 pmx33 anx33 cdx33 ctx33), slx33⟩) (ccx33 : PySem.W.codeIn K cdx33 "clings_of" = true) (kx33 : PySem.W.keepIn K (.ref f_clings_of) = true)
    {f_SchemeReader_read_cut : Addr} {odx34 anx34 : Option Addr} {slx34 : Array (Option Value)} {ocx34 kVx34 dcx34 pmx34 cdx34 ctx34 : Value} (ax34 : PySem.W.findIn K (.ref C_SchemeReader) "read_cut" = some (some (.ref f_SchemeReader_read_cut))) (ix34 : PySem.W.isFn K (.ref f_SchemeReader_read_cut) = true) (lx34 : K.lookup f_SchemeReader_read_cut = some ⟨ocx34, odx34, .func (PySem.W.fnOf "read_cut" "SchemeReader.read_cut" (defArgs s_SchemeReader_read_cut) (defBody s_SchemeReader_read_cut) (defScope s_SchemeReader_read_cut) .none kVx34 dcx34 pmx34 anx34 cdx34 ctx34), slx34⟩) (ccx34 : PySem.W.codeIn K cdx34 "SchemeReader.read_cut" = true) (kx34 : PySem.W.keepIn K (.ref f_SchemeReader_read_cut) = true)
    {f_SchemeReader_read : Addr} {odx35 anx35 : Option Addr} {slx35 : Array (Option Value)} {ocx35 kVx35 dcx35 pmx35 cdx35 ctx35 : Value} (ax35 : PySem.W.findIn K (.ref C_SchemeReader) "read" = some (some (.ref f_SchemeReader_read))) (ix35 : PySem.W.isFn K (.ref f_SchemeReader_read) = true) (lx35 : K.lookup f_SchemeReader_read = some ⟨ocx35, odx35, .func (PySem.W.fnOf "read" "SchemeReader.read" (defArgs s_SchemeReader_read) (defBody s_SchemeReader_read) (defScope s_SchemeReader_read) .none kVx35 dcx35 pmx35 anx35 cdx35 ctx35), slx35⟩) (ccx35 : PySem.W.codeIn K cdx35 "SchemeReader.read" = true) (kx35 : PySem.W.keepIn K (.ref f_SchemeReader_read) = true)
    {f_parse_scheme : Addr} {odx36 anx36 : Option Addr} {slx36 : Array (Option Value)} {ocx36 kVx36 dcx36 pmx36 cdx36 ctx36 : Value} (ax36 : PySem.W.nsIn K mainGlobals "parse_scheme" = some (some (.ref f_parse_scheme))) (lx36 : K.lookup f_parse_scheme = some ⟨ocx36, odx36, .func (PySem.W.fnOf "parse_scheme" "parse_scheme" (defArgs s_parse_scheme) (defBody s_parse_scheme) (defScope s_parse_scheme) .none kVx36 dcx36 pmx36 anx36 cdx36 ctx36), slx36⟩) (ccx36 : PySem.W.codeIn K cdx36 "parse_scheme" = true) (kx36 : PySem.W.keepIn K (.ref f_parse_scheme) = true)
    {f_law : Addr} {odx37 anx37 : Option Addr} {slx37 : Array (Option Value)} {ocx37 kVx37 dcx37 pmx37 cdx37 ctx37 : Value} (ax37 : PySem.W.nsIn K mainGlobals "law" = some (some (.ref f_law))) (lx37 : K.lookup f_law = some ⟨ocx37, odx37, .func (PySem.W.fnOf "law" "law" (defArgs s_law) (defBody s_law) (defScope s_law) .none kVx37 dcx37 pmx37 anx37 cdx37 ctx37), slx37⟩) (ccx37 : PySem.W.codeIn K cdx37 "law" = true) (kx37 : PySem.W.keepIn K (.ref f_law) = true)
    (z_n_range : PySem.W.nsIn K mainGlobals "range" = some none)
    (z_n_tuple : PySem.W.nsIn K mainGlobals "tuple" = some none)
    (z_n_len : PySem.W.nsIn K mainGlobals "len" = some none)
    (z_n_zip : PySem.W.nsIn K mainGlobals "zip" = some none)
    (z_n_str : PySem.W.nsIn K mainGlobals "str" = some none)
    {t_c_NOTHING : Tok} (z_c_NOTHING : PySem.W.nsIn K mainGlobals "NOTHING" = some (some (.str "." t_c_NOTHING)))
    {t_c_END : Tok} (z_c_END : PySem.W.nsIn K mainGlobals "END" = some (some (.str "end" t_c_END)))
    (z_n_int : PySem.W.nsIn K mainGlobals "int" = some none)
    {t_c_NO_LETTERS : Tok} (z_c_NO_LETTERS : PySem.W.nsIn K mainGlobals "NO_LETTERS" = some (some (.str "-" t_c_NO_LETTERS)))
    {t_c_LETTERS_texts : Tok} (z_c_LETTERS_texts : PySem.W.nsIn K mainGlobals "LETTERS_texts" = some (some (.str "abcd" t_c_LETTERS_texts)))
    (z_n_isinstance : PySem.W.nsIn K mainGlobals "isinstance" = some none)
    (z_n_bool : PySem.W.nsIn K mainGlobals "bool" = some none)
    {t_c_MAX_STATES : Tok} (z_c_MAX_STATES : PySem.W.nsIn K mainGlobals "MAX_STATES" = some (some (.int 8 t_c_MAX_STATES)))
    {t_c_MAX_LETTERS : Tok} (z_c_MAX_LETTERS : PySem.W.nsIn K mainGlobals "MAX_LETTERS" = some (some (.int 4 t_c_MAX_LETTERS)))
    {t_c_MAX_CUT : Tok} (z_c_MAX_CUT : PySem.W.nsIn K mainGlobals "MAX_CUT" = some (some (.int 20 t_c_MAX_CUT)))
    {t_c_LETTERS_limits : Tok} (z_c_LETTERS_limits : PySem.W.nsIn K mainGlobals "LETTERS_limits" = some (some (.str "abcd" t_c_LETTERS_limits)))
    (z_n_enumerate : PySem.W.nsIn K mainGlobals "enumerate" = some none)
    {t_c_MAX_CUTS : Tok} (z_c_MAX_CUTS : PySem.W.nsIn K mainGlobals "MAX_CUTS" = some (some (.int 3 t_c_MAX_CUTS)))
    {t_c_MAX_COUNT : Tok} (z_c_MAX_COUNT : PySem.W.nsIn K mainGlobals "MAX_COUNT" = some (some (.int 9 t_c_MAX_COUNT)))
    {t_c_FIGURES : Tok} (z_c_FIGURES : PySem.W.nsIn K mainGlobals "FIGURES" = some (some (.str "0123456789" t_c_FIGURES)))
    {t_c_MOST_FIGURES : Tok} (z_c_MOST_FIGURES : PySem.W.nsIn K mainGlobals "MOST_FIGURES" = some (some (.int 9 t_c_MOST_FIGURES)))
    {t_c_MOST_LETTERS : Tok} (z_c_MOST_LETTERS : PySem.W.nsIn K mainGlobals "MOST_LETTERS" = some (some (.int 9 t_c_MOST_LETTERS)))
    (z_n_repr : PySem.W.nsIn K mainGlobals "repr" = some none)
    (z_n_abs : PySem.W.nsIn K mainGlobals "abs" = some none) :
    ∃ fd : FuncData, (∀ (s : Shared) (v : Value), BindsTo s fd ⟨[v], []⟩ [("_law_script", v)]) ∧ ∀ base : Heap, K.In base → base.Ns mainGlobals mg → FnG l.prog WW.w K mg base 7 fa fd ["_law_script"] (spLaw K) := by
  have e := hfa.symm.trans (PySem.W.mg_of X G ax37)
  cases e
  have T : Txt K mg := ⟨PySem.W.mg_none_of X G z_n_range, PySem.W.mg_none_of X G z_n_tuple, PySem.W.mg_none_of X G z_n_len, PySem.W.mg_none_of X G z_n_zip, PySem.W.mg_none_of X G z_n_str, ⟨_, PySem.W.mg_of X G z_c_NOTHING⟩, ⟨_, PySem.W.mg_of X G z_c_END⟩, PySem.W.mg_none_of X G z_n_int, ⟨_, PySem.W.mg_of X G z_c_NO_LETTERS⟩, ⟨_, PySem.W.mg_of X G z_c_LETTERS_texts⟩, PySem.W.mg_none_of X G z_n_isinstance, PySem.W.mg_none_of X G z_n_bool, ⟨_, PySem.W.mg_of X G z_c_MAX_STATES⟩, ⟨_, PySem.W.mg_of X G z_c_MAX_LETTERS⟩, ⟨_, PySem.W.mg_of X G z_c_MAX_CUT⟩, ⟨_, PySem.W.mg_of X G z_c_LETTERS_limits⟩, PySem.W.mg_none_of X G z_n_enumerate, ⟨_, PySem.W.mg_of X G z_c_MAX_CUTS⟩, ⟨_, PySem.W.mg_of X G z_c_MAX_COUNT⟩, clsOk_mk aC_SchemeReader ⟨pg_SchemeReader, hd_SchemeReader, po_SchemeReader, sa_SchemeReader⟩ (List.forall_mem_cons.mpr ⟨nf0_SchemeReader, List.forall_mem_cons.mpr ⟨nf1_SchemeReader, List.forall_mem_cons.mpr ⟨nf2_SchemeReader, List.forall_mem_cons.mpr ⟨nf3_SchemeReader, List.forall_mem_cons.mpr ⟨nf4_SchemeReader, fun _ h => nomatch h⟩⟩⟩⟩⟩), ⟨_, PySem.W.mg_of X G z_c_FIGURES⟩, ⟨_, PySem.W.mg_of X G z_c_MOST_FIGURES⟩, ⟨_, PySem.W.mg_of X G z_c_MOST_LETTERS⟩, PySem.W.mg_none_of X G z_n_repr, PySem.W.mg_none_of X G z_n_abs⟩
  refine ⟨PySem.W.fnOf "law" "law" (defArgs s_law) (defBody s_law) (defScope s_law) .none kVx37 dcx37 pmx37 anx37 cdx37 ctx37, fun s v => .of_eq rfl, fun base _ _ => ?_⟩
  have F__law_deck := fun_mk (st := s__law_deck) lx0 ccx0 kx0
  have b__law_deck := F__law_deck.binds (ps := ["_law_script"]) fun _ _ _ _ _ _ us hl => match us, hl with | [_], _ => rfl
  have C__law_deck : Cal l.prog WW.w K mg base 1 "_law_deck" ["_law_script"] (spDeck K) := ⟨_, _, ok__law_deck T F__law_deck , PySem.W.mg_of X G ax0, F__law_deck.kp, b__law_deck⟩
  have F__law_draw := fun_mk (st := s__law_draw) lx1 ccx1 kx1
  have b__law_draw := F__law_draw.binds (ps := ["_law_deck_here", "_law_many"]) fun _ _ _ _ _ _ us hl => match us, hl with | [_, _], _ => rfl
  have C__law_draw : Cal l.prog WW.w K mg base 1 "_law_draw" ["_law_deck_here", "_law_many"] (spD K 2 m__law_draw) := ⟨_, _, ok__law_draw T F__law_draw , PySem.W.mg_of X G ax1, F__law_draw.kp, b__law_draw⟩
  have F__law_kind := fun_mk (st := s__law_kind) lx2 ccx2 kx2
  have b__law_kind := F__law_kind.binds (ps := ["_law_deck_here", "_law_letters", "_law_most"]) fun _ _ _ _ _ _ us hl => match us, hl with | [_, _, _], _ => rfl
  have C__law_kind : Cal l.prog WW.w K mg base 2 "_law_kind" ["_law_deck_here", "_law_letters", "_law_most"] (spD K 3 m__law_kind) := ⟨_, _, ok__law_kind T F__law_kind C__law_draw, PySem.W.mg_of X G ax2, F__law_kind.kp, b__law_kind⟩
  have F__law_one := fun_mk (st := s__law_one) lx3 ccx3 kx3
  have b__law_one := F__law_one.binds (ps := ["_law_deck_here", "_law_items"]) fun _ _ _ _ _ _ us hl => match us, hl with | [_, _], _ => rfl
  have C__law_one : Cal l.prog WW.w K mg base 2 "_law_one" ["_law_deck_here", "_law_items"] (spD K 2 m__law_one) := ⟨_, _, ok__law_one T F__law_one C__law_draw, PySem.W.mg_of X G ax3, F__law_one.kp, b__law_one⟩
  have F__law_units := fun_mk (st := s__law_units) lx4 ccx4 kx4
  have b__law_units := F__law_units.binds (ps := ["_law_deck_here", "_law_letters"]) fun _ _ _ _ _ _ us hl => match us, hl with | [_, _], _ => rfl
  have C__law_units : Cal l.prog WW.w K mg base 3 "_law_units" ["_law_deck_here", "_law_letters"] (spD K 2 m__law_units) := ⟨_, _, ok__law_units T F__law_units C__law_draw C__law_one, PySem.W.mg_of X G ax4, F__law_units.kp, b__law_units⟩
  have F__law_cut := fun_mk (st := s__law_cut) lx5 ccx5 kx5
  have b__law_cut := F__law_cut.binds (ps := ["_law_deck_here", "_law_letters", "_law_units_here", "_law_most"]) fun _ _ _ _ _ _ us hl => match us, hl with | [_, _, _, _], _ => rfl
  have C__law_cut : Cal l.prog WW.w K mg base 2 "_law_cut" ["_law_deck_here", "_law_letters", "_law_units_here", "_law_most"] (spD K 4 m__law_cut) := ⟨_, _, ok__law_cut T F__law_cut C__law_draw, PySem.W.mg_of X G ax5, F__law_cut.kp, b__law_cut⟩
  have F__law_scheme := fun_mk (st := s__law_scheme) lx6 ccx6 kx6
  have b__law_scheme := F__law_scheme.binds (ps := ["_law_deck_here", "_law_states", "_law_most"]) fun _ _ _ _ _ _ us hl => match us, hl with | [_, _, _], _ => rfl
  have C__law_scheme : Cal l.prog WW.w K mg base 4 "_law_scheme" ["_law_deck_here", "_law_states", "_law_most"] (spD K 3 m__law_scheme) := ⟨_, _, ok__law_scheme T F__law_scheme C__law_draw C__law_kind C__law_units C__law_cut, PySem.W.mg_of X G ax6, F__law_scheme.kp, b__law_scheme⟩
  have F__law_text := fun_mk (st := s__law_text) lx7 ccx7 kx7
  have b__law_text := F__law_text.binds (ps := ["_law_scheme_here"]) fun _ _ _ _ _ _ us hl => match us, hl with | [_], _ => rfl
  have C__law_text : Cal l.prog WW.w K mg base 1 "_law_text" ["_law_scheme_here"] (spD K 1 m__law_text) := ⟨_, _, ok__law_text T F__law_text , PySem.W.mg_of X G ax7, F__law_text.kp, b__law_text⟩
  have F_state_line := fun_mk (st := s_state_line) lx8 ccx8 kx8
  have b_state_line := F_state_line.binds (ps := ["row", "is_end"]) fun _ _ _ _ _ _ us hl => match us, hl with | [_, _], _ => rfl
  have C_state_line : Cal l.prog WW.w K mg base 1 "state_line" ["row", "is_end"] (spD K 2 m_state_line) := ⟨_, _, ok_state_line T F_state_line , PySem.W.mg_of X G ax8, F_state_line.kp, b_state_line⟩
  have F_cut_line := fun_mk (st := s_cut_line) lx9 ccx9 kx9
  have b_cut_line := F_cut_line.binds (ps := ["cut"]) fun _ _ _ _ _ _ us hl => match us, hl with | [_], _ => rfl
  have C_cut_line : Cal l.prog WW.w K mg base 1 "cut_line" ["cut"] (spD K 1 m_cut_line) := ⟨_, _, ok_cut_line T F_cut_line , PySem.W.mg_of X G ax9, F_cut_line.kp, b_cut_line⟩
  have F_scheme_text := fun_mk (st := s_scheme_text) lx10 ccx10 kx10
  have b_scheme_text := F_scheme_text.binds (ps := ["scheme"]) fun _ _ _ _ _ _ us hl => match us, hl with | [_], _ => rfl
  have C_scheme_text : Cal l.prog WW.w K mg base 2 "scheme_text" ["scheme"] (spD K 1 m_scheme_text) := ⟨_, _, ok_scheme_text T F_scheme_text C_state_line C_cut_line, PySem.W.mg_of X G ax10, F_scheme_text.kp, b_scheme_text⟩
  have F_is_integer_words := fun_mk (st := s_is_integer_words) lx11 ccx11 kx11
  have b_is_integer_words := F_is_integer_words.binds (ps := ["value", "least", "most"]) fun _ _ _ _ _ _ us hl => match us, hl with | [_, _, _], _ => rfl
  have C_is_integer_words : Cal l.prog WW.w K mg base 1 "is_integer_words" ["value", "least", "most"] (spD K 3 m_is_integer_words) := ⟨_, _, ok_is_integer_words T F_is_integer_words , PySem.W.mg_of X G ax11, F_is_integer_words.kp, b_is_integer_words⟩
  have F_is_row := fun_mk (st := s_is_row) lx12 ccx12 kx12
  have b_is_row := F_is_row.binds (ps := ["value", "letters", "many"]) fun _ _ _ _ _ _ us hl => match us, hl with | [_, _, _], _ => rfl
  have C_is_row : Cal l.prog WW.w K mg base 2 "is_row" ["value", "letters", "many"] (spD K 3 m_is_row) := ⟨_, _, ok_is_row T F_is_row C_is_integer_words, PySem.W.mg_of X G ax12, F_is_row.kp, b_is_row⟩
  have F_are_rows := fun_mk (st := s_are_rows) lx13 ccx13 kx13
  have b_are_rows := F_are_rows.binds (ps := ["value", "letters"]) fun _ _ _ _ _ _ us hl => match us, hl with | [_, _], _ => rfl
  have C_are_rows : Cal l.prog WW.w K mg base 3 "are_rows" ["value", "letters"] (spD K 2 m_are_rows) := ⟨_, _, ok_are_rows T F_are_rows C_is_row, PySem.W.mg_of X G ax13, F_are_rows.kp, b_are_rows⟩
  have F_are_ends := fun_mk (st := s_are_ends) lx14 ccx14 kx14
  have b_are_ends := F_are_ends.binds (ps := ["value", "many"]) fun _ _ _ _ _ _ us hl => match us, hl with | [_, _], _ => rfl
  have C_are_ends : Cal l.prog WW.w K mg base 1 "are_ends" ["value", "many"] (spD K 2 m_are_ends) := ⟨_, _, ok_are_ends T F_are_ends , PySem.W.mg_of X G ax14, F_are_ends.kp, b_are_ends⟩
  have F_kind_error := fun_mk (st := s_kind_error) lx15 ccx15 kx15
  have b_kind_error := F_kind_error.binds (ps := ["value"]) fun _ _ _ _ _ _ us hl => match us, hl with | [_], _ => rfl
  have C_kind_error : Cal l.prog WW.w K mg base 4 "kind_error" ["value"] (spD K 1 m_kind_error) := ⟨_, _, ok_kind_error T F_kind_error C_is_integer_words C_are_rows C_are_ends, PySem.W.mg_of X G ax15, F_kind_error.kp, b_kind_error⟩
  have F_is_integer_cuts := fun_mk (st := s_is_integer_cuts) lx16 ccx16 kx16
  have b_is_integer_cuts := F_is_integer_cuts.binds (ps := ["value", "least", "most"]) fun _ _ _ _ _ _ us hl => match us, hl with | [_, _, _], _ => rfl
  have C_is_integer_cuts : Cal l.prog WW.w K mg base 1 "is_integer_cuts" ["value", "least", "most"] (spD K 3 m_is_integer_cuts) := ⟨_, _, ok_is_integer_cuts T F_is_integer_cuts , PySem.W.mg_of X G ax16, F_is_integer_cuts.kp, b_is_integer_cuts⟩
  have F_is_cut_limit := fun_mk (st := s_is_cut_limit) lx17 ccx17 kx17
  have b_is_cut_limit := F_is_cut_limit.binds (ps := ["units", "value"]) fun _ _ _ _ _ _ us hl => match us, hl with | [_, _], _ => rfl
  have C_is_cut_limit : Cal l.prog WW.w K mg base 2 "is_cut_limit" ["units", "value"] (spD K 2 m_is_cut_limit) := ⟨_, _, ok_is_cut_limit T F_is_cut_limit C_is_integer_cuts, PySem.W.mg_of X G ax17, F_is_cut_limit.kp, b_is_cut_limit⟩
  have F_are_clinging := fun_mk (st := s_are_clinging) lx18 ccx18 kx18
  have b_are_clinging := F_are_clinging.binds (ps := ["letters", "value"]) fun _ _ _ _ _ _ us hl => match us, hl with | [_, _], _ => rfl
  have C_are_clinging : Cal l.prog WW.w K mg base 1 "are_clinging" ["letters", "value"] (spD K 2 m_are_clinging) := ⟨_, _, ok_are_clinging T F_are_clinging , PySem.W.mg_of X G ax18, F_are_clinging.kp, b_are_clinging⟩
  have F_is_cut := fun_mk (st := s_is_cut) lx19 ccx19 kx19
  have b_is_cut := F_is_cut.binds (ps := ["letters", "units", "value"]) fun _ _ _ _ _ _ us hl => match us, hl with | [_, _, _], _ => rfl
  have C_is_cut : Cal l.prog WW.w K mg base 3 "is_cut" ["letters", "units", "value"] (spD K 3 m_is_cut) := ⟨_, _, ok_is_cut T F_is_cut C_is_cut_limit C_are_clinging, PySem.W.mg_of X G ax19, F_is_cut.kp, b_is_cut⟩
  have F_cuts_error := fun_mk (st := s_cuts_error) lx20 ccx20 kx20
  have b_cuts_error := F_cuts_error.binds (ps := ["letters", "units", "value"]) fun _ _ _ _ _ _ us hl => match us, hl with | [_, _, _], _ => rfl
  have C_cuts_error : Cal l.prog WW.w K mg base 4 "cuts_error" ["letters", "units", "value"] (spD K 3 m_cuts_error) := ⟨_, _, ok_cuts_error T F_cuts_error C_is_cut, PySem.W.mg_of X G ax20, F_cuts_error.kp, b_cuts_error⟩
  have F_is_unit := fun_mk (st := s_is_unit) lx21 ccx21 kx21
  have b_is_unit := F_is_unit.binds (ps := ["letters", "value"]) fun _ _ _ _ _ _ us hl => match us, hl with | [_, _], _ => rfl
  have C_is_unit : Cal l.prog WW.w K mg base 2 "is_unit" ["letters", "value"] (spD K 2 m_is_unit) := ⟨_, _, ok_is_unit T F_is_unit C_is_integer_cuts, PySem.W.mg_of X G ax21, F_is_unit.kp, b_is_unit⟩
  have F_are_units := fun_mk (st := s_are_units) lx22 ccx22 kx22
  have b_are_units := F_are_units.binds (ps := ["letters", "value"]) fun _ _ _ _ _ _ us hl => match us, hl with | [_, _], _ => rfl
  have C_are_units : Cal l.prog WW.w K mg base 3 "are_units" ["letters", "value"] (spD K 2 m_are_units) := ⟨_, _, ok_are_units T F_are_units C_is_unit, PySem.W.mg_of X G ax22, F_are_units.kp, b_are_units⟩
  have F_scheme_error := fun_mk (st := s_scheme_error) lx23 ccx23 kx23
  have b_scheme_error := F_scheme_error.binds (ps := ["value"]) fun _ _ _ _ _ _ us hl => match us, hl with | [_], _ => rfl
  have C_scheme_error : Cal l.prog WW.w K mg base 5 "scheme_error" ["value"] (spD K 1 m_scheme_error) := ⟨_, _, ok_scheme_error T F_scheme_error C_kind_error C_are_units C_cuts_error, PySem.W.mg_of X G ax23, F_scheme_error.kp, b_scheme_error⟩
  have F_SchemeReader___init__ := fun_mk (st := s_SchemeReader___init__) lx24 ccx24 kx24
  have b_SchemeReader___init__ := F_SchemeReader___init__.binds (ps := ["self"]) fun _ _ _ _ _ _ us hl => match us, hl with | [_], _ => rfl
  have C_SchemeReader___init__ : CalK l.prog WW.w K mg base 1 "SchemeReader" ["self"] (spD K 1 m_SchemeReader___init__) := calK_mk aC_SchemeReader (PySem.W.mg_of X G aC_SchemeReader) (ok_SchemeReader___init__ T F_SchemeReader___init__ ) ⟨mk_SchemeReader, ax24, ix24, kc_SchemeReader⟩ b_SchemeReader___init__
  have F_SchemeReader_scheme := fun_mk (st := s_SchemeReader_scheme) lx25 ccx25 kx25
  have b_SchemeReader_scheme := F_SchemeReader_scheme.binds (ps := ["self"]) fun _ _ _ _ _ _ us hl => match us, hl with | [_], _ => rfl
  have C_SchemeReader_scheme : CalM l.prog WW.w K mg base 1 "SchemeReader" "scheme" ["self"] (spD K 1 m_SchemeReader_scheme) := calM_mk aC_SchemeReader ⟨pg_SchemeReader, hd_SchemeReader, po_SchemeReader, sa_SchemeReader⟩ (ok_SchemeReader_scheme T F_SchemeReader_scheme ) ⟨ax25, ix25, kx25⟩ b_SchemeReader_scheme
  have F_SchemeReader_read_letters := fun_mk (st := s_SchemeReader_read_letters) lx26 ccx26 kx26
  have b_SchemeReader_read_letters := F_SchemeReader_read_letters.binds (ps := ["self", "words"]) fun _ _ _ _ _ _ us hl => match us, hl with | [_, _], _ => rfl
  have C_SchemeReader_read_letters : CalM l.prog WW.w K mg base 1 "SchemeReader" "read_letters" ["self", "words"] (spD K 2 m_SchemeReader_read_letters) := calM_mk aC_SchemeReader ⟨pg_SchemeReader, hd_SchemeReader, po_SchemeReader, sa_SchemeReader⟩ (ok_SchemeReader_read_letters T F_SchemeReader_read_letters ) ⟨ax26, ix26, kx26⟩ b_SchemeReader_read_letters
  have F_is_made_of := fun_mk (st := s_is_made_of) lx27 ccx27 kx27
  have b_is_made_of := F_is_made_of.binds (ps := ["text", "signs", "most"]) fun _ _ _ _ _ _ us hl => match us, hl with | [_, _, _], _ => rfl
  have C_is_made_of : Cal l.prog WW.w K mg base 1 "is_made_of" ["text", "signs", "most"] (spD K 3 m_is_made_of) := ⟨_, _, ok_is_made_of T F_is_made_of , PySem.W.mg_of X G ax27, F_is_made_of.kp, b_is_made_of⟩
  have F_is_figures := fun_mk (st := s_is_figures) lx28 ccx28 kx28
  have b_is_figures := F_is_figures.binds (ps := ["text", "most"]) fun _ _ _ _ _ _ us hl => match us, hl with | [_, _], _ => rfl
  have C_is_figures : Cal l.prog WW.w K mg base 2 "is_figures" ["text", "most"] (spD K 2 m_is_figures) := ⟨_, _, ok_is_figures T F_is_figures C_is_made_of, PySem.W.mg_of X G ax28, F_is_figures.kp, b_is_figures⟩
  have F_items_of := fun_mk (st := s_items_of) lx29 ccx29 kx29
  have b_items_of := F_items_of.binds (ps := ["words", "nothing"]) fun _ _ _ _ _ _ us hl => match us, hl with | [_, _], _ => rfl
  have C_items_of : Cal l.prog WW.w K mg base 3 "items_of" ["words", "nothing"] (spD K 2 m_items_of) := ⟨_, _, ok_items_of T F_items_of C_is_figures, PySem.W.mg_of X G ax29, F_items_of.kp, b_items_of⟩
  have F_SchemeReader_read_state := fun_mk (st := s_SchemeReader_read_state) lx30 ccx30 kx30
  have b_SchemeReader_read_state := F_SchemeReader_read_state.binds (ps := ["self", "words"]) fun _ _ _ _ _ _ us hl => match us, hl with | [_, _], _ => rfl
  have C_SchemeReader_read_state : CalM l.prog WW.w K mg base 4 "SchemeReader" "read_state" ["self", "words"] (spD K 2 m_SchemeReader_read_state) := calM_mk aC_SchemeReader ⟨pg_SchemeReader, hd_SchemeReader, po_SchemeReader, sa_SchemeReader⟩ (ok_SchemeReader_read_state T F_SchemeReader_read_state C_items_of) ⟨ax30, ix30, kx30⟩ b_SchemeReader_read_state
  have F_SchemeReader_read_unit := fun_mk (st := s_SchemeReader_read_unit) lx31 ccx31 kx31
  have b_SchemeReader_read_unit := F_SchemeReader_read_unit.binds (ps := ["self", "words"]) fun _ _ _ _ _ _ us hl => match us, hl with | [_, _], _ => rfl
  have C_SchemeReader_read_unit : CalM l.prog WW.w K mg base 4 "SchemeReader" "read_unit" ["self", "words"] (spD K 2 m_SchemeReader_read_unit) := calM_mk aC_SchemeReader ⟨pg_SchemeReader, hd_SchemeReader, po_SchemeReader, sa_SchemeReader⟩ (ok_SchemeReader_read_unit T F_SchemeReader_read_unit C_items_of) ⟨ax31, ix31, kx31⟩ b_SchemeReader_read_unit
  have F_are_clings := fun_mk (st := s_are_clings) lx32 ccx32 kx32
  have b_are_clings := F_are_clings.binds (ps := ["text"]) fun _ _ _ _ _ _ us hl => match us, hl with | [_], _ => rfl
  have C_are_clings : Cal l.prog WW.w K mg base 2 "are_clings" ["text"] (spD K 1 m_are_clings) := ⟨_, _, ok_are_clings T F_are_clings C_is_made_of, PySem.W.mg_of X G ax32, F_are_clings.kp, b_are_clings⟩
  have F_clings_of := fun_mk (st := s_clings_of) lx33 ccx33 kx33
  have b_clings_of := F_clings_of.binds (ps := ["text"]) fun _ _ _ _ _ _ us hl => match us, hl with | [_], _ => rfl
  have C_clings_of : Cal l.prog WW.w K mg base 1 "clings_of" ["text"] (spD K 1 m_clings_of) := ⟨_, _, ok_clings_of T F_clings_of , PySem.W.mg_of X G ax33, F_clings_of.kp, b_clings_of⟩
  have F_SchemeReader_read_cut := fun_mk (st := s_SchemeReader_read_cut) lx34 ccx34 kx34
  have b_SchemeReader_read_cut := F_SchemeReader_read_cut.binds (ps := ["self", "words"]) fun _ _ _ _ _ _ us hl => match us, hl with | [_, _], _ => rfl
  have C_SchemeReader_read_cut : CalM l.prog WW.w K mg base 3 "SchemeReader" "read_cut" ["self", "words"] (spD K 2 m_SchemeReader_read_cut) := calM_mk aC_SchemeReader ⟨pg_SchemeReader, hd_SchemeReader, po_SchemeReader, sa_SchemeReader⟩ (ok_SchemeReader_read_cut T F_SchemeReader_read_cut C_are_clings C_is_figures C_clings_of) ⟨ax34, ix34, kx34⟩ b_SchemeReader_read_cut
  have F_SchemeReader_read := fun_mk (st := s_SchemeReader_read) lx35 ccx35 kx35
  have b_SchemeReader_read := F_SchemeReader_read.binds (ps := ["self", "number", "line"]) fun _ _ _ _ _ _ us hl => match us, hl with | [_, _, _], _ => rfl
  have C_SchemeReader_read : CalM l.prog WW.w K mg base 5 "SchemeReader" "read" ["self", "number", "line"] (spD K 3 m_SchemeReader_read) := calM_mk aC_SchemeReader ⟨pg_SchemeReader, hd_SchemeReader, po_SchemeReader, sa_SchemeReader⟩ (ok_SchemeReader_read T F_SchemeReader_read C_SchemeReader_read_letters C_SchemeReader_read_state C_SchemeReader_read_unit C_SchemeReader_read_cut) ⟨ax35, ix35, kx35⟩ b_SchemeReader_read
  have F_parse_scheme := fun_mk (st := s_parse_scheme) lx36 ccx36 kx36
  have b_parse_scheme := F_parse_scheme.binds (ps := ["value"]) fun _ _ _ _ _ _ us hl => match us, hl with | [_], _ => rfl
  have C_parse_scheme : Cal l.prog WW.w K mg base 6 "parse_scheme" ["value"] (spD K 1 m_parse_scheme) := ⟨_, _, ok_parse_scheme T F_parse_scheme C_SchemeReader___init__ C_SchemeReader_read C_SchemeReader_scheme C_scheme_error, PySem.W.mg_of X G ax36, F_parse_scheme.kp, b_parse_scheme⟩
  have F_law := fun_mk (st := s_law) lx37 ccx37 kx37
  exact ok_law T F_law C__law_deck C__law_scheme C__law_draw C__law_one C__law_text C_scheme_error C_scheme_text C_parse_scheme hb
end Lw

set_option Elab.async false
set_option linter.all false
set_option maxRecDepth 100000
set_option maxHeartbeats 1000000
namespace MD
open PySem L2
variable {ww : WW}

/-! ### mirrors, evaluated -/
noncomputable def grd {α : Type} (n : Nat) (o : Option α) : Option α := cif (n ≤ sizeLine) o
theorem grd_eq {α : Type} (n : Nat) (o : Option α) : (if n ≤ sizeLine then o else none) = grd n o := cif_eq _ _
theorem grd_lt {α : Type} (n : Nat) (o : Option α) : (if n < sizeLine then o else none) = grd (n + 1) o := cif_eq _ _
theorem grd_of {α : Type} {n : Nat} {o : Option α} (h : n ≤ 1000000) : grd n o = o := if_pos (Nat.le_trans h (by decide))
noncomputable def rng1 : List D → Option (List D)
  | [.int j] => cif (-(2 ^ 62) ≤ j ∧ j < 2 ^ 62) (some (rngD 0 j.toNat))
  | _ => none
noncomputable def rng2 : List D → Option (List D)
  | [.int i, .int j] => cif (-(2 ^ 62) ≤ i ∧ i < 2 ^ 62 ∧ -(2 ^ 62) ≤ j ∧ j < 2 ^ 62) (some (rngD i (j - i).toNat))
  | _ => none
theorem rng1_of {j : Int} (h0 : -1000000 ≤ j) (h1 : j ≤ 1000000) : rng1 [.int j] = some (rngD 0 j.toNat) := cif_of ⟨by omega, by omega⟩
theorem rng2_of {i j : Int} (h0 : -1000000 ≤ i) (h1 : i ≤ 1000000) (h2 : -1000000 ≤ j) (h3 : j ≤ 1000000) : rng2 [.int i, .int j] = some (rngD i (j - i).toNat) := cif_of ⟨by omega, by omega, by omega, by omega⟩
theorem rngD_len (lo : Int) (n : Nat) : (rngD lo n).length = n := by unfold rngD; simp
theorem small_sz {n : Nat} (h : n ≤ 1000000) : n ≤ sizeLine := Nat.le_trans h (by decide)
/-! what does not stand in the store is itself -/
@[simp] theorem dr_non (st : S) : dr st .non = .non := (rfl)
@[simp] theorem dr_bl (st : S) (b : Bool) : dr st (.bl b) = .bl b := (rfl)
@[simp] theorem dr_int (st : S) (i : Int) : dr st (.int i) = .int i := (rfl)
@[simp] theorem dr_str (st : S) (x : Str) : dr st (.str x) = .str x := (rfl)
@[simp] theorem dr_lst (st : S) (ds : List D) : dr st (.lst ds) = .lst ds := (rfl)
@[simp] theorem dr_tup (st : S) (ds : List D) : dr st (.tup ds) = .tup ds := (rfl)
@[simp] theorem dr_deck (st : S) : dr st .deck = .deck := (rfl)
@[simp] theorem dr_dic (st : S) (ks : List L2.Key) (ds : List D) : dr st (.dic ks ds) = .dic ks ds := (rfl)
theorem dr_ref (st : S) (n : Nat) : dr st (.ref n) = match st.ob[n]? with | some (.lst ds) => .lst ds | some (.dic _ ks ds) => .dic ks ds | _ => .ref n := (rfl)
theorem dr_of {st : S} {d : D} (h : ∀ n, d ≠ .ref n) : dr st d = d := by
  cases d with
  | ref n => exact absurd rfl (h n)
  | _ => rfl
@[simp] theorem nonD_dr (st : S) (d : D) : nonD (dr st d) = nonD d := by
  cases d with
  | ref n =>
    rw [dr_ref]
    split <;> rfl
  | _ => rfl
@[simp] theorem map_dr_nil (st : S) : List.map (dr st) [] = [] := rfl
section
variable {env : Sg} {st : S} {f h fa fb fc fe fo : ME} {c : MT} {a r : MA} {i j n : Nat} {d e : D} {ds es : List D}
@[simp] theorem v_frz : frz a env st = (a env st).map fun p => (D.lst p.1, p.2) := (rfl)
@[simp] theorem v_rd : rd i env st = (match env[i]? with | some (.val d) => some (d, st) | _ => none) := (rfl)
@[simp] theorem v_rdW : rdW i env st = (match env[i]? with | some (.val d) => some (d, st) | some (.own (.lst, ds)) => some (D.lst ds, st) | some (.own (.dic ks, ds)) => some (D.dic ks ds, st) | _ => none) := (rfl)
@[simp] theorem v_cst : cst d env st = some (d, st) := (rfl)
@[simp] theorem v_opM {g : D → D → Option D} : opM g fa fb env st = (fa env st).bind fun p => (fb env p.2).bind fun q => (g (dr q.2 p.1) (dr q.2 q.1)).map fun z => (z, q.2) := (rfl)
@[simp] theorem v_unM {g : D → Option D} : unM g fa env st = (fa env st).bind fun p => (g p.1).map fun z => (z, p.2) := (rfl)
@[simp] theorem v_slM {g : D → Option Int → Option Int → Option D} {fl fh : MO} : slM g fe fl fh env st = (fe env st).bind fun p => (fl env p.2).bind fun l => (fh env l.2).bind fun u => (g (dr u.2 p.1) l.1 u.1).map fun z => (z, u.2) := (rfl)
@[simp] theorem v_noP : noP env st = some (none, st) := (rfl)
@[simp] theorem v_prt : prt f env st = (f env st).bind fun p => (intOf p.1).map fun i => (some i, p.2) := (rfl)
@[simp] theorem v_aNil : aNil env st = some ([], st) := (rfl)
@[simp] theorem v_aCons : aCons f r env st = (f env st).bind fun p => (r env p.2).map fun q => (p.1 :: q.1, q.2) := (rfl)
@[simp] theorem v_tupM : tupM a env st = (a env st).bind fun p => grd p.1.length (some (D.tup p.1, p.2)) := by
  unfold tupM; simp only [grd_eq]
@[simp] theorem v_lstM : lstM a env st = (a env st).bind fun p => grd p.1.length (some p) := by
  unfold lstM; simp only [grd_eq]
@[simp] theorem v_cbM {g : List D → Option D} : cbM g a env st = (a env st).bind fun p => (g (p.1.map (dr p.2))).map fun z => (z, p.2) := (rfl)
@[simp] theorem v_m1M {g : D → List D → Option D} : m1M g fo fe env st = (fo env st).bind fun p => if isStrD p.1 then (fe env p.2).bind fun q => (g p.1 [dr q.2 q.1]).map fun z => (z, q.2) else none := (rfl)
@[simp] theorem v_bmL {g : D → List D → Option D} : bmL g fo a env st = (fo env st).bind fun p => if isLstD (dr p.2 p.1) then (a env p.2).bind fun q => (g (dr q.2 p.1) (q.1.map (dr q.2))).map fun z => (z, q.2) else none := (rfl)
@[simp] theorem v_tstM : tstM f env st = (f env st).bind fun p => (blOf p.1).map fun b => (b, p.2) := (rfl)
@[simp] theorem v_truM : truM f env st = (f env st).bind fun p => (truD (dr p.2 p.1)).map fun b => (b, p.2) := (rfl)
@[simp] theorem v_andM {c' : MT} : andM c c' env st = (c env st).bind fun p => if p.1 then c' env p.2 else some (false, p.2) := (rfl)
@[simp] theorem v_orM {c' : MT} : orM c c' env st = (c env st).bind fun p => if p.1 then some (true, p.2) else c' env p.2 := (rfl)
@[simp] theorem v_notM : notM c env st = (c env st).map fun p => (!p.1, p.2) := (rfl)
@[simp] theorem v_andV : andV f h env st = (f env st).bind fun p => (blOf p.1).bind fun b => if b then h env p.2 else some (D.bl false, p.2) := (rfl)
@[simp] theorem v_orV : orV f h env st = (f env st).bind fun p => (blOf p.1).bind fun b => if b then some (D.bl true, p.2) else h env p.2 := (rfl)
@[simp] theorem v_notV : notV f env st = (f env st).bind fun p => (blOf p.1).map fun b => (D.bl (!b), p.2) := (rfl)
@[simp] theorem v_ifM : ifM c f h env st = (c env st).bind fun p => if p.1 then f env p.2 else h env p.2 := (rfl)
@[simp] theorem v_chM {g g' : D → D → Option D} : chM g g' fa fb fc env st = (fa env st).bind fun p => (fb env p.2).bind fun q => (g p.1 q.1).bind fun z => (blOf z).bind fun b =>
  if b then (fc env q.2).bind fun r => (g' q.1 r.1).map fun z => (z, r.2) else some (D.bl false, q.2) := (rfl)
@[simp] theorem v_nxM : nxM env st = some (.nx env, st) := (rfl)
@[simp] theorem v_seqM {p q : MS} : seqM p q env st = (p env st).bind fun x => match x.1 with | .nx e => q e x.2 | fl => some (fl, x.2) := (rfl)
@[simp] theorem v_retM : retM f env st = (f env st).map fun p => (.rt p.1, p.2) := (rfl)
@[simp] theorem v_retN : retN env st = some (.rt .non, st) := (rfl)
@[simp] theorem v_ifS {p q : MS} : ifS c p q env st = (c env st).bind fun x => if x.1 then p env x.2 else q env x.2 := (rfl)
@[simp] theorem v_dropM : dropM f env st = (f env st).map fun p => (.nx env, p.2) := (rfl)
@[simp] theorem v_nameT : nameT i d env = some (env.set i (.val d)) := (rfl)
@[simp] theorem v_nilT : nilT [] env = some env := (rfl)
@[simp] theorem v_consT {t : MG} {u : List D → Sg → Option Sg} : consT t u (d :: ds) env = (t d env).bind fun e => u ds e := (rfl)
@[simp] theorem v_tupT {u : List D → Sg → Option Sg} : tupT n u (.tup ds) env = if ds.length = n then u ds env else none := (rfl)
@[simp] theorem v_asgM {t : MG} : asgM t f env st = (f env st).bind fun p => (t p.1 env).map fun e => (.nx e, p.2) := (rfl)
@[simp] theorem v_ownM : ownM i a env st = (a env st).map fun p => (.nx (env.set i (.own (.lst, p.1))), p.2) := (rfl)
@[simp] theorem v_parM : parM i j a env st = (a env st).bind fun p => (two i j env p.1).map fun e => (.nx e, p.2) := (rfl)
@[simp] theorem v_two : two i j env [d, e] = some ((env.set i (.val d)).set j (.val e)) := (rfl)
@[simp] theorem v_augM {op : D → D → Option D} : augM i op f env st = (match env[i]? with | some (.val x) => (f env st).bind fun p => (op x p.1).map fun z => (.nx (env.set i (.val z)), p.2) | _ => none) := (rfl)
@[simp] theorem v_frzM {p : MS} : frzM i p env st = p (frzE i env) st := (rfl)
@[simp] theorem v_frzE : frzE i env = (match env[i]? with | some (.own (.lst, ds)) => env.set i (.val (.lst ds)) | some (.own (.dic ks, ds)) => env.set i (.val (.dic ks ds)) | _ => env) := (rfl)
@[simp] theorem v_appM : appM i f env st = (match env[i]? with | some (.own (.lst, ds)) => grd (ds.length + 1) ((f env st).map fun p => (.nx (env.set i (.own (.lst, ds ++ [p.1]))), p.2)) | _ => none) := by
  unfold appM; simp only [grd_lt] <;> rfl
@[simp] theorem v_extM : extM i f env st = (match env[i]? with | some (.own (.lst, ds)) => (f env st).bind fun p => (lstOf (dr p.2 p.1)).bind fun es => grd (ds.length + es.length) (some (.nx (env.set i (.own (.lst, ds ++ es))), p.2)) | _ => none) := by
  unfold extM; simp only [grd_eq] <;> rfl
@[simp] theorem v_yesM : yesM env st = some (true, st) := (rfl)
@[simp] theorem v_r1M : r1M a env st = (a env st).bind fun p => (rng1 p.1).map fun ds => (ds, p.2) := by
  unfold r1M
  congr 1
  funext p
  obtain ⟨l, s⟩ := p
  show (match l with | [.int j] => if -(2 ^ 62) ≤ j ∧ j < 2 ^ 62 then some (rngD 0 j.toNat, s) else none | _ => none) = (rng1 l).map fun ds => (ds, s)
  unfold rng1
  split
  · rw [cif_eq]; unfold cif; split <;> rfl
  · rfl
@[simp] theorem v_r2M : r2M a env st = (a env st).bind fun p => (rng2 p.1).map fun ds => (ds, p.2) := by
  unfold r2M
  congr 1
  funext p
  obtain ⟨l, s⟩ := p
  show (match l with | [.int i, .int j] => if -(2 ^ 62) ≤ i ∧ i < 2 ^ 62 ∧ -(2 ^ 62) ≤ j ∧ j < 2 ^ 62 then some (rngD i (j - i).toNat, s) else none | _ => none) = (rng2 l).map fun ds => (ds, s)
  unfold rng2
  split
  · rw [cif_eq]; unfold cif; split <;> rfl
  · rfl
@[simp] theorem v_seqI : seqI f env st = (f env st).bind fun p => (seqOf p.1).map fun ds => (ds, p.2) := (rfl)
@[simp] theorem v_enumI : enumI f env st = (f env st).bind fun p => (seqOf p.1).map fun ds => (enumD ds, p.2) := (rfl)
@[simp] theorem v_forM {it : MI} {t : MG} {b : MS} : forM it t b env st = (it env st).bind fun p => forL t b p.1 env p.2 := (rfl)
@[simp] theorem v_compM {it : MI} {t : MG} {vs : List Nat} : compM it t c f vs env st = (it env st).bind fun p => grd p.1.length (compL t c f (wipeE env vs) p.1 p.2) := by
  unfold compM; simp only [grd_eq]
@[simp] theorem v_callM {m : MF} : callM m a env st = (a env st).bind fun p => m p.1 p.2 := (rfl)
@[simp] theorem v_runM {b : MS} : runM n b ds st = (b (ds.map Sl.val ++ List.replicate (n - ds.length) Sl.un) st).bind fun p => match p.1 with | .rt d => some (d, p.2) | .nx _ => some (.non, p.2) | _ => none := (rfl)
@[simp] theorem v_wipe0 : wipeE env [] = env := (rfl)
@[simp] theorem v_wipe1 {v : Nat} {vs : List Nat} : wipeE env (v :: vs) = (wipeE env vs).set v .un := (rfl)
@[simp] theorem v_forL0 {t : MG} {b : MS} : forL t b [] env st = some (.nx env, st) := (rfl)
theorem v_forL {t : MG} {b : MS} : forL t b (d :: ds) env st = (t d env).bind fun env1 => (b env1 st).bind fun p => match p.1 with
    | .nx e => forL t b ds e p.2
    | .ct e => forL t b ds e p.2
    | .bk e => some (.nx e, p.2)
    | .rt r => some (.rt r, p.2) := (rfl)
@[simp] theorem v_compL0 {t : MG} : compL t c f env [] st = some ([], st) := (rfl)
theorem v_compL {t : MG} : compL t c f env (d :: ds) st = (t d env).bind fun e => (c e st).bind fun p => if p.1 then (f e p.2).bind fun q => (compL t c f env ds q.2).map fun r => (q.1 :: r.1, r.2) else compL t c f env ds p.2 := (rfl)
/-! dicts, the store -/
@[simp] theorem v_frzK {k : MK} : frzK k env st = (k env st).map fun p => (D.dic p.1.1 p.1.2, p.2) := (rfl)
@[simp] theorem v_ownK {k : MK} : ownK i k env st = (k env st).map fun p => (.nx (env.set i (.own (.dic p.1.1, p.1.2))), p.2) := (rfl)
@[simp] theorem v_newK : newK env st = some (([], []), st) := (rfl)
@[simp] theorem v_cpyK : cpyK f env st = (f env st).bind fun p => (isDicD (dr p.2 p.1)).map fun q => (q, p.2) := (rfl)
@[simp] theorem v_isDic {ks : List L2.Key} : isDicD (.dic ks ds) = some (ks, ds) := (rfl)
@[simp] theorem v_pNil : pNil env st = some ([], st) := (rfl)
@[simp] theorem v_pCons {r : MP} : pCons f h r env st = (f env st).bind fun p => (keyOf p.1).bind fun k => (h env p.2).bind fun q => (r env q.2).map fun z => ((k, q.1) :: z.1, z.2) := (rfl)
@[simp] theorem v_dispK {r : MP} : dispK r env st = (r env st).bind fun p => if p.1.length ≤ 15 then some (mrgL [] [] p.1, p.2) else none := (rfl)
@[simp] theorem v_mrg1 {k : L2.Key} : mrgL [] [] [(k, d)] = ([k], [d]) := (rfl)
@[simp] theorem v_keyI {j : Int} : keyOf (.int j) = some (.inl j) := (rfl)
@[simp] theorem v_keyS {x : Str} : keyOf (.str x) = some (.inr x) := (rfl)
@[simp] theorem v_get1M : get1M f h env st = (f env st).bind fun p => (isDicD (dr p.2 p.1)).bind fun _ => (h env p.2).bind fun q => (isDicD (dr q.2 p.1)).bind fun z => (keyOf q.1).map fun k => ((getK z.1 z.2 k).getD .non, q.2) := (rfl)
@[simp] theorem v_get2M : get2M f h fa env st = (f env st).bind fun p => (isDicD (dr p.2 p.1)).bind fun _ => (h env p.2).bind fun q => (fa env q.2).bind fun r => (isDicD (dr r.2 p.1)).bind fun z => (keyOf q.1).map fun k => ((getK z.1 z.2 k).getD r.1, r.2) := (rfl)
@[simp] theorem v_dputM : dputM i f h env st = (match env[i]? with
  | some (.own (.dic ks, ds)) => (h env st).bind fun p => (f env p.2).bind fun q => (keyOf q.1).bind fun k => grd (ds.length + 1) (some (.nx (env.set i (.own (.dic (putKs ks k), putVs ks ds k p.1))), q.2))
  | _ => none) := by
  unfold dputM; simp only [grd_lt] <;> rfl
@[simp] theorem v_subD {ks : List L2.Key} : subD (.dic ks ds) d = (keyOf d).bind fun k => getK ks ds k := (rfl)
@[simp] theorem v_subL : subD (.lst ds) d = ixM (.lst ds) d := (rfl)
@[simp] theorem v_subT : subD (.tup ds) d = ixM (.tup ds) d := (rfl)
@[simp] theorem v_subS {x : Str} : subD (.str x) d = ixM (.str x) d := (rfl)
@[simp] theorem v_cntD {n : Bool} {ks : List L2.Key} : cntD n d (.dic ks ds) = (keyOf d).map fun k => .bl (if n then !(getK ks ds k).isSome else (getK ks ds k).isSome) := (rfl)
@[simp] theorem v_cntL {n : Bool} : cntD n d (.lst ds) = if n then notInM d (.lst ds) else inM d (.lst ds) := (rfl)
@[simp] theorem v_cntT {n : Bool} : cntD n d (.tup ds) = if n then notInM d (.tup ds) else inM d (.tup ds) := (rfl)
@[simp] theorem v_cntS {n : Bool} {x : Str} : cntD n d (.str x) = if n then notInM d (.str x) else inM d (.str x) := (rfl)
@[simp] theorem v_lenAD {ks : List L2.Key} : lenA [.dic ks ds] = some (.int ks.length) := (rfl)
@[simp] theorem v_lenAL : lenA [.lst ds] = some (.int ds.length) := (rfl)
@[simp] theorem v_lenAT : lenA [.tup ds] = some (.int ds.length) := (rfl)
@[simp] theorem v_lenAS {z : Str} : lenA [.str z] = grd z.length (some (.int z.length)) := by
  show lenM [.str z] = _
  show (if z.length ≤ sizeLine then some (D.int z.length) else none) = _
  rw [grd_eq]
@[simp] theorem v_stoL : stoL a env st = (a env st).map fun p => (D.ref p.2.ob.length, p.2.ad (.lst p.1)) := (rfl)
@[simp] theorem v_stoK {k : MK} : stoK k env st = (k env st).map fun p => (D.ref p.2.ob.length, p.2.ad (.dic false p.1.1 p.1.2)) := (rfl)
@[simp] theorem v_refOf {n : Nat} : refOf (.ref n) = some n := (rfl)
@[simp] theorem v_sappM : sappM f h env st = (f env st).bind fun o => (refOf o.1).bind fun n => (lstAt o.2 n).bind fun _ => (h env o.2).bind fun p => (lstAt p.2 n).bind fun ds => grd (ds.length + 1) (some (.nx env, p.2.put n (.lst (ds ++ [p.1])))) := by
  unfold sappM; simp only [grd_lt]
@[simp] theorem v_sputM : sputM f h fa env st = (fa env st).bind fun p => (f env p.2).bind fun o => (refOf o.1).bind fun n => (h env o.2).bind fun q => (keyOf q.1).bind fun k => (dicAt q.2 n).bind fun z => grd (z.2.length + 1) (some (.nx env, q.2.put n (.dic false (putKs z.1 k) (putVs z.1 z.2 k p.1)))) := by
  unfold sputM; simp only [grd_lt]
@[simp] theorem v_spopM : spopM f env st = (f env st).bind fun o => (refOf o.1).bind fun n => (lstAt o.2 n).bind fun ds => (ds[ds.length - 1]?).map fun d => (d, o.2.put n (.lst ds.dropLast)) := (rfl)
@[simp] theorem v_listM : listM a env st = (a env st).bind fun p => (listD (p.1.map (dr p.2))).map fun z => (z, p.2) := (rfl)
@[simp] theorem v_listDL : listD [.lst ds] = some ds := (rfl)
@[simp] theorem v_listDT : listD [.tup ds] = some ds := (rfl)
@[simp] theorem v_listDD {ks : List L2.Key} : listD [.dic ks ds] = some (ks.map keyD) := (rfl)
@[simp] theorem v_isiM {T : String} : isiM T f env st = (f env st).bind fun p => (tyD (dr p.2 p.1)).bind fun t => (kitB t T).map fun b => (D.bl b, p.2) := (rfl)
@[simp] theorem v_dcM {it : MI} {t : MG} {vs : List Nat} : dcM it t c f h vs env st = (it env st).bind fun p => grd p.1.length (dcL t c f h (wipeE env vs) p.1 ([], []) p.2) := by
  unfold dcM; simp only [grd_eq]
@[simp] theorem v_mulAI {x y : Int} : mulA (.int x) (.int y) = mulM (.int x) (.int y) := (rfl)
/-! values -/
@[simp] theorem v_intOf {i : Int} : intOf (.int i) = some i := (rfl)
@[simp] theorem v_blOf {b : Bool} : blOf (.bl b) = some b := (rfl)
@[simp] theorem v_isStr {s : Str} : isStrD (.str s) = true := (rfl)
@[simp] theorem v_isLst : isLstD (.lst ds) = true := (rfl)
@[simp] theorem v_iI {g : Int → Int → D} {i j : Int} : iI g (.int i) (.int j) = some (g i j) := (rfl)
theorem v_iIC0 {C : Int → Int → Prop} [∀ i j, Decidable (C i j)] {g : Int → Int → D} {i j : Int} (h : C i j) : iIC C g (.int i) (.int j) = some (g i j) := if_pos h
@[simp] theorem v_unI {g : Int → D} {i : Int} : unI g (.int i) = some (g i) := (rfl)
@[simp] theorem v_addI {i j : Int} : addM (.int i) (.int j) = some (.int (i + j)) := (rfl)
@[simp] theorem v_addS {i j : Str} : addM (.str i) (.str j) = grd (i.length + j.length) (some (.str (i ++ j))) := by
  rw [← grd_eq]; rfl
@[simp] theorem v_addT {i j : List D} : addM (.tup i) (.tup j) = grd (i.length + j.length) (some (.tup (i ++ j))) := by
  rw [← grd_eq]; rfl
@[simp] theorem v_addL {i j : List D} : addM (.lst i) (.lst j) = grd (i.length + j.length) (some (.lst (i ++ j))) := by
  rw [← grd_eq]; rfl
@[simp] theorem v_ixL {i : Int} : ixM (.lst ds) (.int i) = L2.atI ds i := (rfl)
@[simp] theorem v_ixT {i : Int} : ixM (.tup ds) (.int i) = L2.atI ds i := (rfl)
@[simp] theorem v_ixS {z : Str} {i : Int} : ixM (.str z) (.int i) = grd z.length ((L2.atI z.cps.toList i).map fun c => .str ⟨#[c]⟩) := by
  rw [← grd_eq]; rfl
@[simp] theorem v_lenS {z : Str} : lenM [.str z] = grd z.length (some (.int z.length)) := by
  rw [← grd_eq]; rfl
@[simp] theorem v_lenL : lenM [.lst ds] = some (.int ds.length) := (rfl)
@[simp] theorem v_lenT : lenM [.tup ds] = some (.int ds.length) := (rfl)
@[simp] theorem v_seqL : seqOf (.lst ds) = some ds := (rfl)
@[simp] theorem v_seqT : seqOf (.tup ds) = some ds := (rfl)
@[simp] theorem v_seqS {x : Str} : seqOf (.str x) = some ((signs x).map D.str) := (rfl)
@[simp] theorem v_tupleL : tupleM [.lst ds] = some (.tup ds) := (rfl)
@[simp] theorem v_tupleT : tupleM [.tup ds] = some (.tup ds) := (rfl)
@[simp] theorem v_tupleS {x : Str} : tupleM [.str x] = grd x.cps.size (some (.tup ((signs x).map D.str))) := by
  rw [← grd_eq]; rfl
@[simp] theorem v_slT {lo hi : Option Int} : slAny (.tup ds) lo hi = some (.tup (cutD ds lo hi)) := (rfl)
@[simp] theorem v_slS {z : Str} {lo hi : Option Int} : slAny (.str z) lo hi = grd z.length (some (.str (cutS z lo hi))) := by
  rw [← grd_eq]
  unfold slAny slTup slStr slLst
  by_cases h : z.length ≤ sizeLine <;> simp [h, Option.orElse]
@[simp] theorem v_slL {lo hi : Option Int} : slAny (.lst ds) lo hi = some (.lst (cutD ds lo hi)) := (rfl)
@[simp] theorem v_sumM : sumM [.lst ds] = (intsOf ds).map fun ns => .int ns.sum := (rfl)
@[simp] theorem v_maxM : maxM [.lst (d :: ds)] = (intsOf (d :: ds)).map fun ns => .int (topI ns) := (rfl)
@[simp] theorem v_minM : minM [.lst (d :: ds)] = (intsOf (d :: ds)).map fun ns => .int (botI ns) := (rfl)
@[simp] theorem v_int1 {i : Int} : int1M [.int i] = some (.int i) := (rfl)
@[simp] theorem v_lstOf : lstOf (.lst ds) = some ds := (rfl)
@[simp] theorem intsOf_map (ns : List Int) : intsOf (ns.map D.int) = some ns := by
  induction ns with
  | nil => rfl
  | cons x r ih => show (intsOf (r.map D.int)).map (x :: ·) = _; rw [ih]; rfl
@[simp] theorem strsOf_map (ns : List Str) : strsOf (ns.map D.str) = some ns := by
  induction ns with
  | nil => rfl
  | cons x r ih => show (strsOf (r.map D.str)).map (x :: ·) = _; rw [ih]; rfl
end

/-! ### words as lists of codes -/
def W (ws : List Nat) : Str := ⟨ws.toArray⟩
@[simp] theorem W_len (ws : List Nat) : (W ws).length = ws.length := by show ws.toArray.size = _; simp
@[simp] theorem W_size (ws : List Nat) : (W ws).cps.size = ws.length := by show ws.toArray.size = _; simp
@[simp] theorem W_list (ws : List Nat) : (W ws).cps.toList = ws := by show ws.toArray.toList = _; simp
theorem W_inj {a b : List Nat} (h : W a = W b) : a = b := by
  have := congrArg (fun s : Str => s.cps.toList) h
  simpa using this
theorem W_of (s : Str) : W s.cps.toList = s := by
  obtain ⟨⟨l⟩⟩ := s
  rfl
@[simp] theorem W_signs (ws : List Nat) : signs (W ws) = ws.map fun c => W [c] := by
  unfold signs
  rw [W_list]
  rfl
theorem W_app (a b : List Nat) : W a ++ W b = W (a ++ b) := by
  show (⟨(W a).cps ++ (W b).cps⟩ : Str) = _
  unfold W
  simp
theorem sIx_some {n : Nat} {i : Int} (h0 : 0 ≤ i) (h1 : i ≤ n) (d : Nat) : HT.sIx n d (some i) = i.toNat := by
  have e := HT.sIx_nat n d i.toNat
  rw [Int.toNat_of_nonneg h0] at e
  rw [e]
  omega
theorem cutW_to {ws : List Nat} {n : Int} (h0 : 0 ≤ n) (h1 : n ≤ ws.length) : cutS (W ws) none (some n) = W (ws.take n.toNat) := by
  unfold cutS
  rw [W_list, W_len, HT.sIx_none, sIx_some h0 h1]
  rfl
theorem cutW_from {ws : List Nat} {n : Int} (h0 : 0 ≤ n) (h1 : n ≤ ws.length) : cutS (W ws) (some n) none = W (ws.drop n.toNat) := by
  unfold cutS
  rw [W_list, W_len, HT.sIx_none, sIx_some h0 h1]
  show (⟨((ws.drop n.toNat).take (ws.length - n.toNat)).toArray⟩ : Str) = _
  rw [List.take_of_length_le (by rw [List.length_drop]; exact Nat.le_refl _)]
  rfl
theorem cutD_from {ds : List D} {n : Int} (h0 : 0 ≤ n) (h1 : n ≤ ds.length) : cutD ds (some n) none = ds.drop n.toNat := by
  unfold cutD
  rw [HT.sIx_none, sIx_some h0 h1]
  exact List.take_of_length_le (by rw [List.length_drop]; exact Nat.le_refl _)
theorem cutD_to {ds : List D} {n : Int} (h0 : 0 ≤ n) (h1 : n ≤ ds.length) : cutD ds none (some n) = ds.take n.toNat := by
  unfold cutD
  rw [HT.sIx_none, sIx_some h0 h1]
  rfl
theorem atI_of {α : Type} {xs : List α} {j : Nat} {x : α} (h : xs[j]? = some x) : L2.atI xs (j : Int) = some x := atI_nat h
theorem atI_nn {α : Type} {xs : List α} {i : Int} (h0 : 0 ≤ i) : L2.atI xs i = xs[i.toNat]? := by
  unfold L2.atI ixN
  rw [if_pos h0]
  by_cases h : i < xs.length
  · rw [if_pos h]; rfl
  · rw [if_neg h, List.getElem?_eq_none (by omega)]; rfl
/-! letters -/
def Let (k : Nat) (c : Nat) : Prop := 97 ≤ c ∧ c < 97 + k
theorem occ_abcd {c : Nat} (h : Let 4 c) : Builtin.Str.occurrences "abcd" (W [c]) 0 ("abcd" : Str).length 1 = [c - 97] := by
  obtain ⟨h1, h2⟩ := h
  have : c = 97 ∨ c = 98 ∨ c = 99 ∨ c = 100 := by omega
  rcases this with rfl | rfl | rfl | rfl <;> decide +kernel
theorem idx_abcd {c : Nat} (h : Let 4 c) : sindexM (.str "abcd") [.str (W [c])] = some (.int ((c - 97 : Nat) : Int)) := by
  show (match Builtin.Str.occurrences "abcd" (W [c]) 0 ("abcd" : Str).length 1 with | i :: _ => some (D.int (i : Nat)) | [] => none) = _
  rw [occ_abcd h]
theorem abcd_W : ("abcd" : Str) = W [97, 98, 99, 100] := by decide +kernel
theorem empty_W : ("" : Str) = W [] := by decide +kernel
/-! comparisons -/
@[simp] theorem eq_int (i j : Int) : eqM (.int i) (.int j) = some (.bl (decide (i = j))) := (rfl)
@[simp] theorem ne_int (i j : Int) : neM (.int i) (.int j) = some (.bl (!decide (i = j))) := (rfl)
@[simp] theorem eq_str (i j : Str) : eqM (.str i) (.str j) = some (.bl (decide (i = j))) := (rfl)
@[simp] theorem ne_str (i j : Str) : neM (.str i) (.str j) = some (.bl (!decide (i = j))) := (rfl)
@[simp] theorem is_non (d : D) : isM d .non = some (.bl (nonD d)) := (rfl)
@[simp] theorem isnot_non (d : D) : isNotM d .non = some (.bl (!nonD d)) := (rfl)
theorem pyAll_ints (ns : List Int) : pyAll (ns.map D.int) = ns.map PyData.int := by
  induction ns with
  | nil => rfl
  | cons x r ih => show D.py (.int x) :: pyAll (r.map D.int) = _; rw [ih]; rfl
theorem plAll_ints (ns : List Int) : plAll (ns.map D.int) = true := by
  induction ns with
  | nil => rfl
  | cons x r ih => show (D.pl (.int x) && plAll (r.map D.int)) = true; rw [ih]; rfl
theorem lay_ints (ns : List Int) : PyData.canLayAll0 (ns.map PyData.int) = true := by
  induction ns with
  | nil => rfl
  | cons x r ih => show (PyData.canLay0 (.int x) && PyData.canLayAll0 (r.map PyData.int)) = true; rw [ih]; rfl
theorem depth_ints (ns : List Int) : PyData.depthAll (ns.map PyData.int) ≤ 1 := by
  induction ns with
  | nil => simp [PyData.depthAll]
  | cons x r ih => simp [PyData.depthAll, PyData.depth] at ih ⊢; omega
theorem eqv_ints : ∀ (a b : List Int), PyData.eqvAll (a.map PyData.int) (b.map PyData.int) = decide (a = b)
  | [], [] => by rfl
  | [], y :: b => by rfl
  | x :: a, [] => by rfl
  | x :: a, y :: b => by
    show (PyData.eqv (.int x) (.int y) && PyData.eqvAll (a.map PyData.int) (b.map PyData.int)) = _
    rw [eqv_ints a b]
    show ((x == y) && decide (a = b)) = _
    by_cases h1 : x = y
    · by_cases h2 : a = b
      · simp [h1, h2]
      · simp [h1, h2]
    · simp [h1]
theorem okD_ints (ns : List Int) : okD (.lst (ns.map D.int)) = true := by
  unfold okD
  rw [D.pl, plAll_ints, D.py, pyAll_ints]
  show (true && SeqAt.shaped (.list (ns.map PyData.int))) = true
  unfold SeqAt.shaped
  rw [PyData.canLay0, lay_ints]
  have := depth_ints ns
  simp [PyData.depth]
  omega
theorem ne_ints (a b : List Int) : neM (.lst (a.map D.int)) (.lst (b.map D.int)) = some (.bl (!decide (a = b))) := by
  unfold neM eqB
  have e : sEq (.lst (a.map D.int)) (.lst (b.map D.int)) = none := rfl
  rw [e]
  simp only [okD_ints, Bool.and_self, if_true, Option.map_some, D.py, pyAll_ints, PyData.eqv, eqv_ints]
theorem eq_ints (a b : List Int) : eqM (.lst (a.map D.int)) (.lst (b.map D.int)) = some (.bl (decide (a = b))) := by
  unfold eqM eqB
  have e : sEq (.lst (a.map D.int)) (.lst (b.map D.int)) = none := rfl
  rw [e]
  simp only [okD_ints, Bool.and_self, if_true, Option.map_some, D.py, pyAll_ints, PyData.eqv, eqv_ints]
theorem allFlat_ints (a : List Int) : (a.map D.int).all flatD = true := by
  rw [List.all_map]; simp [Function.comp_def, flatD]
theorem inB_ints (x : Int) (a : List Int) : inB (.int x) (a.map D.int) = decide (x ∈ a) := by
  unfold inB
  induction a with
  | nil => rfl
  | cons y r ih =>
    rw [List.map_cons, List.any_cons, ih]
    show ((y == x) || decide (x ∈ r)) = _
    by_cases h1 : y = x
    · simp [h1]
    · have h2 : x ≠ y := fun z => h1 z.symm
      simp [h1, h2]
theorem in_ints (x : Int) (a : List Int) : inM (.int x) (.lst (a.map D.int)) = some (.bl (decide (x ∈ a))) := by
  show (if (flatD (.int x) && (a.map D.int).all flatD) = true then some (D.bl (if false = true then !inB (.int x) (a.map D.int) else inB (.int x) (a.map D.int))) else none) = _
  rw [allFlat_ints, inB_ints]
  simp [flatD]
theorem lindex_ints (x : Int) (a : List Int) : lindexM (.lst (a.map D.int)) [.int x] = (a.findIdx? fun y => y == x).map fun j => .int (j : Nat) := by
  show (if (flatD (.int x) && (a.map D.int).all flatD) = true then ((a.map D.int).findIdx? fun z => eqFD z (.int x)).map fun j => D.int (j : Nat) else none) = _
  rw [allFlat_ints]
  simp only [flatD, Bool.and_self, if_true, List.findIdx?_map]
  rfl
end MD

set_option Elab.async false
set_option linter.all false
set_option maxRecDepth 100000
set_option maxHeartbeats 1000000
namespace Lm
open PySem MD L2
theorem call_of {m : MF} {a : MA} {env : Sg} {st s1 s2 : S} {d : D} {ds : List D} (h1 : a env st = some (ds, s1)) (h2 : m ds s1 = some (d, s2)) : callM m a env st = some (d, s2) := by rw [v_callM, h1, Option.bind_some]; exact h2
theorem seq_nx {f h : MS} {env e : Sg} {st s1 : S} (hf : f env st = some (.nx e, s1)) : seqM f h env st = h e s1 := by rw [v_seqM, hf]; rfl
theorem seq_rt {f h : MS} {env : Sg} {st s1 : S} {d : D} (hf : f env st = some (.rt d, s1)) : seqM f h env st = some (.rt d, s1) := by rw [v_seqM, hf]; rfl
theorem par_nx {a : MA} {i j : Nat} {env : Sg} {st s1 : S} {d e : D} (hf : a env st = some ([d, e], s1)) : parM i j a env st = some (.nx ((env.set i (.val d)).set j (.val e)), s1) := by rw [v_parM, hf]; rfl
theorem cons_of {f : ME} {r : MA} {env : Sg} {st s1 s2 : S} {d : D} {ds : List D} (h1 : f env st = some (d, s1)) (h2 : r env s1 = some (ds, s2)) : aCons f r env st = some (d :: ds, s2) := by rw [v_aCons, h1, Option.bind_some, h2]; rfl
theorem ret_of {f : ME} {env : Sg} {st s1 : S} {d : D} (h : f env st = some (d, s1)) : retM f env st = some (.rt d, s1) := by rw [v_retM, h]; rfl
theorem run_of {n : Nat} {b : MS} {ds : List D} {st s1 : S} {d : D} (h : b (ds.map Sl.val ++ List.replicate (n - ds.length) Sl.un) st = some (.rt d, s1)) : runM n b ds st = some (d, s1) := by rw [v_runM, h]; rfl
theorem ifs_t {c : MT} {p q : MS} {env : Sg} {st s1 : S} {r : Option (Fl × S)} (hc : c env st = some (true, s1)) (hp : p env s1 = r) : ifS c p q env st = r := by rw [v_ifS, hc, Option.bind_some]; exact hp
theorem ifs_f {c : MT} {p q : MS} {env : Sg} {st s1 : S} {r : Option (Fl × S)} (hc : c env st = some (false, s1)) (hp : q env s1 = r) : ifS c p q env st = r := by rw [v_ifS, hc, Option.bind_some]; exact hp
theorem asg_nx {f : ME} {i : Nat} {env : Sg} {st s1 : S} {d : D} (hf : f env st = some (d, s1)) : asgM (nameT i) f env st = some (.nx (env.set i (.val d)), s1) := by rw [v_asgM, hf]; rfl
theorem own_nx {a : MA} {i : Nat} {env : Sg} {st s1 : S} {ds : List D} (hf : a env st = some (ds, s1)) : ownM i a env st = some (.nx (env.set i (.own (.lst, ds))), s1) := by rw [v_ownM, hf]; rfl
theorem tst_of {f : ME} {env : Sg} {st s1 : S} {b : Bool} (h : f env st = some (.bl b, s1)) : tstM f env st = some (b, s1) := by rw [v_tstM, h]; rfl
theorem add_tup {f h : ME} {env : Sg} {st s1 s2 : S} {xs ys : List D} (h1 : f env st = some (.tup xs, s1)) (h2 : h env s1 = some (.tup ys, s2)) (hl : xs.length + ys.length ≤ 1000000) : opM addM f h env st = some (.tup (xs ++ ys), s2) := by
  rw [v_opM, h1, Option.bind_some, h2, Option.bind_some, dr_tup, dr_tup, v_addT, grd_of hl]; rfl
theorem tup1 {f : ME} {env : Sg} {st s1 : S} {d : D} (h : f env st = some (d, s1)) : tupM (aCons f aNil) env st = some (.tup [d], s1) := by
  rw [v_tupM, cons_of h v_aNil, Option.bind_some]
  exact grd_of (show 1 ≤ 1000000 by decide)
theorem add_lst {f h : ME} {env : Sg} {st s1 s2 : S} {xs ys : List D} (h1 : f env st = some (.lst xs, s1)) (h2 : h env s1 = some (.lst ys, s2)) (hl : xs.length + ys.length ≤ 1000000) : opM addM f h env st = some (.lst (xs ++ ys), s2) := by
  rw [v_opM, h1, Option.bind_some, h2, Option.bind_some, dr_lst, dr_lst, v_addL, grd_of hl]; rfl
theorem lst_of {a : MA} {env : Sg} {st s1 : S} {ds : List D} (h : a env st = some (ds, s1)) (hl : ds.length ≤ 1000000) : frz (lstM a) env st = some (.lst ds, s1) := by
  rw [v_frz, v_lstM, h, Option.bind_some, grd_of hl]; rfl
theorem for_of {f : ME} {i : Nat} {b : MS} {env : Sg} {st s1 : S} {ds : List D} {r : Option (Fl × S)} (h1 : f env st = some (.lst ds, s1)) (h2 : forL (nameT i) b ds env s1 = r) : forM (seqI f) (nameT i) b env st = r := by
  rw [v_forM, v_seqI, h1]; exact h2
/-! evaluation of the new mirrors -/
section
variable {env : Sg} {st : S}
@[simp] theorem v_fldM {cs : List Str} {f : Str} {fo : ME} : fldM cs f fo env st = (fo env st).bind fun p => (refOf p.1).bind fun n => (insAt cs p.2 n).bind fun z => (lookF z.2.1 z.2.2 f).map fun d => (d, p.2) := (rfl)
@[simp] theorem v_setM {cs : List Str} {f : Str} {fo fv : ME} : setM cs f fo fv env st = (fv env st).bind fun p => (fo env p.2).bind fun o => (refOf o.1).bind fun n => (insAt cs o.2 n).bind fun z => if z.2.1.length < 1000 then some (.nx env, o.2.put n (.ins z.1 (putFN z.2.1 f) (putFV z.2.1 z.2.2 f p.1))) else none := (rfl)
@[simp] theorem v_revM {f : ME} : revM f env st = (f env st).bind fun p => match dr p.2 p.1 with | .lst ds => some (ds.reverse, p.2) | _ => none := (rfl)
theorem fld_of {c f : Str} {fo : ME} {s1 : S} {n : Nat} {fs : List Str} {xs : List D} {d : D} (h : fo env st = some (.ref n, s1)) (hn : s1.ob[n]? = some (.ins c fs xs)) (hl : lookF fs xs f = some d) : fldM [c] f fo env st = some (d, s1) := by
  rw [v_fldM, h]
  show (insAt [c] s1 n).bind _ = _
  unfold insAt
  rw [hn]
  simp [hl]
theorem set_of {c f : Str} {fo fv : ME} {s1 s2 : S} {n : Nat} {fs : List Str} {xs : List D} {d : D} (hv : fv env st = some (d, s1)) (h : fo env s1 = some (.ref n, s2)) (hn : s2.ob[n]? = some (.ins c fs xs)) (hl : fs.length < 1000) : setM [c] f fo fv env st = some (.nx env, s2.put n (.ins c (putFN fs f) (putFV fs xs f d))) := by
  rw [v_setM, hv]
  show (fo env s1).bind _ = _
  rw [h]
  show (insAt [c] s2 n).bind _ = _
  unfold insAt
  rw [hn]
  simp [hl]
theorem meth_of {c m : Str} {mf : MF} {fo : ME} {a : MA} {s1 s2 : S} {n : Nat} {fs : List Str} {xs ds : List D} {r : Option (D × S)} (h : fo env st = some (.ref n, s1)) (hn : s1.ob[n]? = some (.ins c fs xs)) (hm : m ∉ fs) (ha : a env s1 = some (ds, s2)) (hf : mf (.ref n :: ds) s2 = r) : methM c m mf fo a env st = r := by
  show ((fo env st).bind fun p => (refOf p.1).bind fun n => (insAt [c] p.2 n).bind fun z => if m ∉ z.2.1 then (a env p.2).bind fun q => mf (p.1 :: q.1) q.2 else none) = r
  rw [h]
  show (insAt [c] s1 n).bind _ = _
  unfold insAt
  rw [hn]
  simp [hm, ha, hf]
theorem make_of {c : Str} {mf : MF} {a : MA} {s1 s2 : S} {ds : List D} (ha : a env st = some (ds, s1)) (hf : mf (.ref s1.ob.length :: ds) (s1.ad (.ins c [] [])) = some (.non, s2)) : makeM c mf a env st = some (.ref s1.ob.length, s2) := by
  show ((a env st).bind fun p => (mf (.ref p.2.ob.length :: p.1) (p.2.ad (.ins c [] []))).bind fun q => match q.1 with | .non => some (D.ref p.2.ob.length, q.2) | _ => none) = _
  rw [ha]
  show (mf (.ref s1.ob.length :: ds) (s1.ad (.ins c [] []))).bind _ = _
  rw [hf]
  rfl
end
theorem r3_of {a : MA} {env : Sg} {st s1 : S} {i : Nat} (hi : i ≤ 1000000) (h : a env st = some ([.int ((i : Int) - 1), .int (-1), .int (-1)], s1)) : r3M a env st = some ((List.range i).map fun k => D.int ((i : Int) - 1 - (k : Nat)), s1) := by
  show ((a env st).bind fun p => match p.1 with | [.int i, .int j, .int c] => if c = -1 ∧ -(2 ^ 62) ≤ i ∧ i < 2 ^ 62 ∧ -(2 ^ 62) ≤ j ∧ j < 2 ^ 62 then some (dnD i (i - j).toNat, p.2) else none | _ => none) = _
  rw [h]
  show (if (-1 : Int) = -1 ∧ -(2 ^ 62) ≤ (i : Int) - 1 ∧ (i : Int) - 1 < 2 ^ 62 ∧ -(2 ^ 62) ≤ (-1 : Int) ∧ (-1 : Int) < 2 ^ 62 then some (dnD ((i : Int) - 1) ((i : Int) - 1 - -1).toNat, s1) else none) = _
  rw [if_pos (by refine ⟨rfl, ?_, ?_, by decide, by decide⟩ <;> omega)]
  have : ((i : Int) - 1 - -1).toNat = i := by omega
  rw [this]
  unfold dnD
  congr 3
  funext k
  congr 1
  omega
end Lm

set_option Elab.async false
set_option linter.all false
set_option maxRecDepth 100000
set_option maxHeartbeats 1000000
namespace MD
open PySem L2
variable {ww : WW}

/-! ### what a drawn value is, and how many draws it takes -/
def Yes {α : Type} (c : Nat) (o : S → Option (α × S)) (P : α → Prop) : Prop :=
  ∀ st : S, 0 ≤ st.n → st.n + (c : Int) ≤ nMax → ∃ a st', o st = some (a, st') ∧ P a ∧ st.n ≤ st'.n ∧ st'.n ≤ st.n + (c : Int)
section
variable {α β : Type} {c c' : Nat} {P Q : α → Prop}
theorem Yes.pure {a : α} (h : P a) : Yes 0 (fun st => some (a, st)) P := fun st h0 h1 => ⟨a, st, rfl, h, Int.le_refl _, by simp⟩
theorem Yes.of_eq {o : S → Option (α × S)} {a : α} (e : ∀ st, o st = some (a, st)) (h : P a) : Yes 0 o P := fun st h0 h1 => ⟨a, st, e st, h, Int.le_refl _, by simp⟩
theorem Yes.mono {o : S → Option (α × S)} (h : Yes c o P) (hc : c ≤ c') (hp : ∀ a, P a → Q a) : Yes c' o Q := fun st h0 h1 => by
  obtain ⟨a, st', e, p, l1, l2⟩ := h st h0 (by omega)
  exact ⟨a, st', e, hp a p, l1, by omega⟩
theorem Yes.bind {o : S → Option (α × S)} {g : α × S → Option (β × S)} {R : β → Prop} (h : Yes c o P) (hg : ∀ a, P a → Yes c' (fun st => g (a, st)) R) : Yes (c + c') (fun st => (o st).bind g) R := fun st h0 h1 => by
  obtain ⟨a, s1, e, p, l1, l2⟩ := h st h0 (by omega)
  obtain ⟨b, s2, e2, r, l3, l4⟩ := hg a p s1 (by omega) (by omega)
  exact ⟨b, s2, by show (o st).bind g = _; rw [e]; exact e2, r, by omega, by omega⟩
theorem Yes.map {o : S → Option (α × S)} {g : α × S → β × S} {R : β → Prop} {k : α → β} (h : Yes c o P) (hk : ∀ a st, g (a, st) = (k a, st)) (hg : ∀ a, P a → R (k a)) : Yes c (fun st => (o st).map g) R := fun st h0 h1 => by
  obtain ⟨a, s1, e, p, l1, l2⟩ := h st h0 h1
  exact ⟨k a, s1, by show (o st).map g = _; rw [e]; show some (g (a, s1)) = _; rw [hk], hg a p, l1, l2⟩
theorem Yes.congr {o o' : S → Option (α × S)} (h : Yes c o P) (e : ∀ st, o' st = o st) : Yes c o' P := fun st h0 h1 => by
  rw [e st]; exact h st h0 h1
end
theorem drawT_n (many : Int) (st : S) : (drawT many st).n = st.n + 1 := by unfold drawT; split <;> rfl
theorem drawV_lt {c : DC} {many : Int} (h : 0 < many) (st : S) : 0 ≤ drawV c many st ∧ drawV c many st < many := by
  unfold drawV
  split <;> exact ⟨Int.emod_nonneg _ (by omega), Int.emod_lt_of_pos _ h⟩
theorem draw_yes {c : DC} {many : Int} (h1 : 0 < many) (h2 : many < 1073741824) : Yes 1 (drawM c [.deck, .int many]) fun d => ∃ r : Int, d = .int r ∧ 0 ≤ r ∧ r < many := fun st h0 hn => by
  have := drawV_lt (c := c) h1 st
  refine ⟨_, drawT many st, ?_, ⟨_, rfl, this.1, this.2⟩, ?_, ?_⟩
  · unfold drawM
    exact if_pos ⟨h1, h2, h0, by omega⟩
  · rw [drawT_n]; omega
  · rw [drawT_n]; omega

/-! ### comprehensions and loops -/
theorem compL_pure {t : MG} {c : MT} {f : ME} {env : Sg} {st : S} (P : D → Bool) (g : D → D) : ∀ (ds : List D), (∀ d ∈ ds, ∃ e, t d env = some e ∧ c e st = some (P d, st) ∧ (P d = true → f e st = some (g d, st))) →
    compL t c f env ds st = some ((ds.filter P).map g, st)
  | [], _ => rfl
  | d :: ds, h => by
    obtain ⟨e, h1, h2, h3⟩ := h d List.mem_cons_self
    have ih := compL_pure P g ds fun x hx => h x (List.mem_cons_of_mem _ hx)
    rw [v_compL, h1]
    simp only [Option.bind_some, h2]
    cases hp : P d with
    | true => simp [h3 hp, ih, hp]
    | false => simp [ih, hp]
theorem compL_map {t : MG} {f : ME} {env : Sg} {st : S} (g : D → D) (ds : List D) (h : ∀ d ∈ ds, ∃ e, t d env = some e ∧ f e st = some (g d, st)) : compL t yesM f env ds st = some (ds.map g, st) := by
  have := compL_pure (t := t) (c := yesM) (f := f) (env := env) (st := st) (fun _ => true) g ds fun d hd => by
    obtain ⟨e, h1, h2⟩ := h d hd
    exact ⟨e, h1, rfl, fun _ => h2⟩
  rw [this]
  congr 2
  rw [List.filter_eq_self.mpr (by simp)]
theorem compL_yes {t : MG} {f : ME} {env : Sg} {k : Nat} {P : D → Prop} : ∀ (ds : List D), (∀ d ∈ ds, ∃ e, t d env = some e ∧ Yes k (f e) P) → Yes (ds.length * k) (compL t yesM f env ds) fun l => l.length = ds.length ∧ ∀ x ∈ l, P x
  | [], _ => (Yes.of_eq (fun _ => rfl) ⟨rfl, fun _ h => nomatch h⟩).mono (Nat.zero_le _) fun _ h => h
  | d :: ds, h => by
    obtain ⟨e, h1, h2⟩ := h d List.mem_cons_self
    have ih := compL_yes ds fun x hx => h x (List.mem_cons_of_mem _ hx)
    intro st h0 hn
    have en : ((d :: ds).length * k : Nat) = k + ds.length * k := by rw [List.length_cons, Nat.succ_mul]; omega
    rw [en] at hn ⊢
    obtain ⟨y, s1, e1, p1, l1, l2⟩ := h2 st h0 (by omega)
    obtain ⟨l, s2, e2, p2, l3, l4⟩ := ih s1 (by omega) (by omega)
    refine ⟨y :: l, s2, ?_, ⟨by simp [p2.1], fun x hx => ?_⟩, by omega, by omega⟩
    · rw [v_compL, h1]
      simp [e1, e2]
    · rcases List.mem_cons.mp hx with z | z
      · rw [z]; exact p1
      · exact p2.2 x z
/-- a loop that keeps I and always goes on -/
theorem forL_yes {t : MG} {b : MS} {k : Nat} {I : Sg → Prop} : ∀ (ds : List D) (env : Sg), I env → (∀ d ∈ ds, ∀ env, I env → ∃ e, t d env = some e ∧ Yes k (b e) fun fl => ∃ e', fl = .nx e' ∧ I e') →
    Yes (ds.length * k) (forL t b ds env) fun fl => ∃ e, fl = .nx e ∧ I e
  | [], env, hi, _ => (Yes.of_eq (fun _ => rfl) ⟨env, rfl, hi⟩).mono (Nat.zero_le _) fun _ h => h
  | d :: ds, env, hi, h => by
    obtain ⟨e, h1, h2⟩ := h d List.mem_cons_self env hi
    intro st h0 hn
    have en : ((d :: ds).length * k : Nat) = k + ds.length * k := by rw [List.length_cons, Nat.succ_mul]; omega
    rw [en] at hn ⊢
    obtain ⟨fl, s1, e1, ⟨e', rfl, i1⟩, l1, l2⟩ := h2 st h0 (by omega)
    obtain ⟨fl2, s2, e2, p2, l3, l4⟩ := forL_yes ds e' i1 (fun x hx => h x (List.mem_cons_of_mem _ hx)) s1 (by omega) (by omega)
    refine ⟨fl2, s2, ?_, p2, by omega, by omega⟩
    rw [v_forL, h1]
    simp [e1, e2]
theorem yes_seq {f h : MS} {env : Sg} {c c' : Nat} {R : Sg → Prop} {Q : Fl → Prop} (h1 : Yes c (f env) fun fl => ∃ e, fl = .nx e ∧ R e) (h2 : ∀ e, R e → Yes c' (h e) Q) : Yes (c + c') (seqM f h env) Q := by
  refine (Yes.bind h1 (g := fun x => match x.1 with | .nx e => h e x.2 | fl => some (fl, x.2)) fun fl hfl => ?_).congr fun st => rfl
  obtain ⟨e, rfl, r⟩ := hfl
  exact h2 e r
theorem yes_asg {i : Nat} {f : ME} {env : Sg} {c : Nat} {P : D → Prop} (h : Yes c (f env) P) : Yes c (asgM (nameT i) f env) fun fl => ∃ e, fl = .nx e ∧ ∃ d, P d ∧ e = env.set i (.val d) :=
  (Yes.map h (k := fun d => Fl.nx (env.set i (.val d))) (g := fun p => (Fl.nx (env.set i (.val p.1)), p.2)) (fun _ _ => rfl) fun d hd => ⟨_, rfl, d, hd, rfl⟩).congr fun st => by
    simp only [v_asgM, v_nameT, Option.map_some]
    cases f env st <;> rfl
end MD

set_option Elab.async false
set_option linter.all false
set_option maxRecDepth 100000
set_option maxHeartbeats 1000000
namespace MD
open PySem L2
variable {ww : WW}
section
variable {α : Type} (a b c d : α)
@[simp] theorem at_10 : L2.atI [a] 0 = some a := (rfl)
@[simp] theorem at_20 : L2.atI [a, b] 0 = some a := (rfl)
@[simp] theorem at_21 : L2.atI [a, b] 1 = some b := (rfl)
@[simp] theorem at_30 : L2.atI [a, b, c] 0 = some a := (rfl)
@[simp] theorem at_31 : L2.atI [a, b, c] 1 = some b := (rfl)
@[simp] theorem at_32 : L2.atI [a, b, c] 2 = some c := (rfl)
end
@[simp] theorem tru_non : truD .non = some false := (rfl)
@[simp] theorem tru_bl (b : Bool) : truD (.bl b) = some b := (rfl)
@[simp] theorem tru_int (i : Int) : truD (.int i) = some (i != 0) := (rfl)
@[simp] theorem tru_lst (ds : List D) : truD (.lst ds) = some (!ds.isEmpty) := (rfl)
@[simp] theorem tru_tup (ds : List D) : truD (.tup ds) = some (!ds.isEmpty) := (rfl)
/-! ### data that may be compared with == -/
def Nice (d : D) : Prop := d.pl = true ∧ d.py.canLay0 = true ∧ d.py.depth ≤ 20
theorem plAll_of {ds : List D} : (∀ d ∈ ds, d.pl = true) → plAll ds = true := by
  induction ds with
  | nil => intro _; rfl
  | cons x r ih =>
    intro h
    show (x.pl && plAll r) = true
    rw [h x List.mem_cons_self, ih fun y hy => h y (List.mem_cons_of_mem _ hy)]; rfl
theorem layAll_of {ds : List D} : (∀ d ∈ ds, d.py.canLay0 = true) → PyData.canLayAll0 (pyAll ds) = true := by
  induction ds with
  | nil => intro _; rfl
  | cons x r ih =>
    intro h
    show (x.py.canLay0 && PyData.canLayAll0 (pyAll r)) = true
    rw [h x List.mem_cons_self, ih fun y hy => h y (List.mem_cons_of_mem _ hy)]; rfl
theorem depAll_of {n : Nat} {ds : List D} : (∀ d ∈ ds, d.py.depth ≤ n) → PyData.depthAll (pyAll ds) ≤ n := by
  induction ds with
  | nil => intro _; exact Nat.zero_le _
  | cons x r ih =>
    intro h
    show max x.py.depth (PyData.depthAll (pyAll r)) ≤ n
    have h1 := h x List.mem_cons_self
    have h2 := ih fun y hy => h y (List.mem_cons_of_mem _ hy)
    omega
theorem Nice.okD {ds : List D} (h : ∀ d ∈ ds, Nice d) : okD (.lst ds) = true := by
  unfold MD.okD SeqAt.shaped
  have h1 : (D.lst ds).pl = true := by rw [D.pl]; exact plAll_of fun d hd => (h d hd).1
  have h2 : (D.lst ds).py.canLay0 = true := by rw [D.py, PyData.canLay0]; exact layAll_of fun d hd => (h d hd).2.1
  have h3 : (D.lst ds).py.depth ≤ 64 := by
    rw [D.py, PyData.depth]
    have := depAll_of (n := 20) fun d hd => (h d hd).2.2
    omega
  rw [h1, h2, decide_eq_true h3]; rfl
theorem Nice.int (i : Int) : Nice (.int i) := ⟨rfl, rfl, by simp [D.py, PyData.depth]⟩
theorem Nice.bl (i : Bool) : Nice (.bl i) := ⟨rfl, rfl, by simp [D.py, PyData.depth]⟩
theorem Nice.non : Nice .non := ⟨rfl, rfl, by simp [D.py, PyData.depth]⟩
theorem Nice.tup' {n : Nat} {ds : List D} (h : ∀ d ∈ ds, d.pl = true ∧ d.py.canLay0 = true ∧ d.py.depth ≤ n) : (D.tup ds).pl = true ∧ (D.tup ds).py.canLay0 = true ∧ (D.tup ds).py.depth ≤ n + 1 := by
  refine ⟨by rw [D.pl]; exact plAll_of fun d hd => (h d hd).1, by rw [D.py, PyData.canLay0]; exact layAll_of fun d hd => (h d hd).2.1, ?_⟩
  rw [D.py, PyData.depth]
  have := depAll_of (n := n) fun d hd => (h d hd).2.2
  omega
theorem ne_nil {ds : List D} (h : ∀ d ∈ ds, Nice d) : neM (.lst ds) (.lst []) = some (.bl (!ds.isEmpty)) := by
  unfold neM eqB
  have e : sEq (.lst ds) (.lst []) = none := rfl
  have h0 : MD.okD (.lst []) = true := Nice.okD fun d hd => nomatch hd
  rw [e]
  simp only [Nice.okD h, h0, Bool.and_self, if_true, Option.map_some]
  cases ds with
  | nil => rfl
  | cons x r => rfl
theorem eq_nil {ds : List D} (h : ∀ d ∈ ds, Nice d) : eqM (.lst ds) (.lst []) = some (.bl ds.isEmpty) := by
  unfold eqM eqB
  have e : sEq (.lst ds) (.lst []) = none := rfl
  have h0 : MD.okD (.lst []) = true := Nice.okD fun d hd => nomatch hd
  rw [e]
  simp only [Nice.okD h, h0, Bool.and_self, if_true, Option.map_some]
  cases ds with
  | nil => rfl
  | cons x r => rfl
theorem strOk_W {ws : List Nat} (h : ∀ c ∈ ws, c < 128) : (D.str (W ws)).py.canLay0 = true := by
  show PyData.strOk (W ws) = true
  unfold PyData.strOk
  rw [← Array.all_toList, W_list, List.all_eq_true]
  intro c hc
  have := h c hc
  exact decide_eq_true (by omega)
theorem Nice.strW {ws : List Nat} (h : ∀ c ∈ ws, c < 128) : Nice (.str (W ws)) := ⟨rfl, strOk_W h, by simp [D.py, PyData.depth]⟩
end MD

set_option Elab.async false
set_option linter.all false
set_option maxRecDepth 100000
set_option maxHeartbeats 2000000
namespace Lh
open PySem MD L2
/-! ### one thing at a time -/
variable {st s1 s2 : S} {env : Sg}
theorem sub_of {f h : ME} {x y d : D} (h1 : f env st = some (x, s1)) (h2 : h env s1 = some (y, s2)) (hx : ∀ s, dr s x = x) (hy : ∀ s, dr s y = y) (h3 : subD x y = some d) : opM subD f h env st = some (d, s2) := by
  rw [v_opM, h1, Option.bind_some, h2, Option.bind_some, hx, hy, h3]; rfl
theorem sub_tup {f h : ME} {ds : List D} {j : Int} {d : D} (h1 : f env st = some (.tup ds, s1)) (h2 : h env s1 = some (.int j, s2)) (h3 : L2.atI ds j = some d) : opM subD f h env st = some (d, s2) :=
  sub_of (x := .tup ds) (y := .int j) h1 h2 (fun s => dr_tup s ds) (fun s => rfl) (by rw [v_subT, v_ixT]; exact h3)
theorem at_tup {f : ME} {ds : List D} {j : Nat} {d : D} (h1 : f env st = some (.tup ds, s1)) (h : ds[j]? = some d) : opM subD f (cst (.int ((j : Nat) : Int))) env st = some (d, s1) :=
  sub_tup (h := cst (.int ((j : Nat) : Int))) (j := ((j : Nat) : Int)) (s2 := s1) h1 rfl (atI_of h)
theorem str_add {f h : ME} {v w : List Nat} (h1 : f env st = some (.str (W v), s1)) (h2 : h env s1 = some (.str (W w), s2)) (hl : v.length + w.length ≤ 1000000) : opM addM f h env st = some (.str (W (v ++ w)), s2) := by
  have hg : ∀ o : Option D, grd (v.length + w.length) o = o := fun o => grd_of hl
  rw [v_opM, h1, Option.bind_some, h2]
  simp [W_len, W_app, hg]
theorem int_add {f h : ME} {i j : Int} (h1 : f env st = some (.int i, s1)) (h2 : h env s1 = some (.int j, s2)) : opM addM f h env st = some (.int (i + j), s2) := by
  simp [h1, h2]
theorem gt_of {f h : ME} {i j : Int} (h1 : f env st = some (.int i, s1)) (h2 : h env s1 = some (.int j, s2)) : tstM (opM gtM f h) env st = some (decide (j < i), s2) := by
  simp [h1, h2]
theorem ge_of {f h : ME} {i j : Int} (h1 : f env st = some (.int i, s1)) (h2 : h env s1 = some (.int j, s2)) : tstM (opM geM f h) env st = some (decide (j ≤ i), s2) := by
  simp [h1, h2]
theorem lt_of {f h : ME} {i j : Int} (h1 : f env st = some (.int i, s1)) (h2 : h env s1 = some (.int j, s2)) : tstM (opM ltA f h) env st = some (decide (i < j), s2) := by
  simp [h1, h2]
theorem le_of {f h : ME} {i j : Int} (h1 : f env st = some (.int i, s1)) (h2 : h env s1 = some (.int j, s2)) : tstM (opM leM f h) env st = some (decide (i ≤ j), s2) := by
  simp [h1, h2]
theorem ne_int {f h : ME} {i j : Int} (h1 : f env st = some (.int i, s1)) (h2 : h env s1 = some (.int j, s2)) : tstM (opM neM f h) env st = some (decide (i ≠ j), s2) := by
  simp [h1, h2]
theorem eq_int {f h : ME} {i j : Int} (h1 : f env st = some (.int i, s1)) (h2 : h env s1 = some (.int j, s2)) : tstM (opM eqM f h) env st = some (decide (i = j), s2) := by
  simp [h1, h2]
theorem or_f {c d : MT} {r : Option (Bool × S)} (h : c env st = some (false, s1)) (h2 : d env s1 = r) : orM c d env st = r := by
  rw [v_orM, h, Option.bind_some]; exact h2
theorem or_t {c d : MT} (h : c env st = some (true, s1)) : orM c d env st = some (true, s1) := by
  rw [v_orM, h, Option.bind_some]; rfl
theorem and_t {c d : MT} {r : Option (Bool × S)} (h : c env st = some (true, s1)) (h2 : d env s1 = r) : andM c d env st = r := by
  rw [v_andM, h, Option.bind_some]; exact h2
theorem and_f {c d : MT} (h : c env st = some (false, s1)) : andM c d env st = some (false, s1) := by
  rw [v_andM, h, Option.bind_some]; rfl
theorem not_of {c : MT} {b : Bool} (h : c env st = some (b, s1)) : notM c env st = some (!b, s1) := by
  rw [v_notM, h]; rfl
theorem tru_of {f : ME} {b : Bool} (h : f env st = some (.bl b, s1)) : truM f env st = some (b, s1) := by
  rw [v_truM, h]; rfl
theorem len_tup {f : ME} {ds : List D} (h : f env st = some (.tup ds, s1)) (hl : ds.length ≤ 1000000) : cbM lenA (aCons f aNil) env st = some (.int (ds.length : Nat), s1) := by
  simp [h]
theorem len_str {f : ME} {w : List Nat} (h : f env st = some (.str (W w), s1)) (hl : w.length ≤ 1000000) : cbM lenA (aCons f aNil) env st = some (.int (w.length : Nat), s1) := by
  simp [h, W_len, grd_of hl]
theorem tup2 {f h : ME} {x y : D} (h1 : f env st = some (x, s1)) (h2 : h env s1 = some (y, s2)) : tupM (aCons f (aCons h aNil)) env st = some (.tup [x, y], s2) := by
  rw [v_tupM, v_aCons, h1, Option.bind_some, v_aCons, h2]
  simp [grd_of (show 2 ≤ 1000000 by decide)]
theorem r1_of {f : ME} {k : Nat} (h : f env st = some (.int ((k : Nat) : Int), s1)) (hk : k ≤ 1000000) : r1M (aCons f aNil) env st = some ((List.range k).map fun x => D.int ((x : Nat) : Int), s1) := by
  rw [v_r1M, Lm.cons_of (s1 := s1) h v_aNil, Option.bind_some]
  show (rng1 [.int ((k : Nat) : Int)]).map _ = _
  rw [rng1_of (by omega) (by omega)]
  simp [rngD]
theorem augI {f : ME} {n : Nat} {i j : Int} (h1 : f env st = some (.int j, s1)) (h2 : env[n]? = some (.val (.int i))) : augM n (iI fun i j => .int (i + j)) f env st = some (.nx (env.set n (.val (.int (i + j)))), s1) := by
  simp [h1, h2]
theorem whS {c : MT} {b : MS} {m : Nat} {e1 : Sg} (hc : c env st = some (true, s1)) (hb : b env s1 = some (.nx e1, s2)) : whF c b (m + 1) env st = whF c b m e1 s2 := by
  rw [whF, hc]
  show (b env s1).bind _ = _
  rw [hb]; rfl
theorem whE {c : MT} {b : MS} {m : Nat} (hc : c env st = some (false, s1)) : whF c b (m + 1) env st = some (.nx env, s1) := by
  rw [whF, hc]; rfl
theorem asgT2 {f : ME} {i j : Nat} {x y : D} (h : f env st = some (.tup [x, y], s1)) : asgM (tupT 2 (consT (nameT i) (consT (nameT j) nilT))) f env st = some (.nx ((env.set i (.val x)).set j (.val y)), s1) := by
  rw [v_asgM, h]; rfl
theorem nice_okD {d : D} (h : Nice d) : MD.okD d = true := by
  unfold MD.okD SeqAt.shaped
  rw [h.1, h.2.1, decide_eq_true (show d.py.depth ≤ 64 by have := h.2.2; omega)]; rfl
theorem eqN_of {d e : D} (hd : Nice d) (he : Nice e) (hs : sEq d e = none) : eqM d e = some (.bl (PyData.eqv d.py e.py)) := by
  unfold eqM eqB
  rw [hs]
  simp only [nice_okD hd, nice_okD he, Bool.and_self, if_true, Option.map_some]
theorem neN_of {d e : D} (hd : Nice d) (he : Nice e) (hs : sEq d e = none) : neM d e = some (.bl (!PyData.eqv d.py e.py)) := by
  unfold neM eqB
  rw [hs]
  simp only [nice_okD hd, nice_okD he, Bool.and_self, if_true, Option.map_some]
/-- nice and at most so deep -/
def Nd (n : Nat) (d : D) : Prop := d.pl = true ∧ d.py.canLay0 = true ∧ d.py.depth ≤ n
theorem Nd.nice {n : Nat} {d : D} (h : Nd n d) (hn : n ≤ 20) : Nice d := ⟨h.1, h.2.1, Nat.le_trans h.2.2 hn⟩
theorem Nd.le {n m : Nat} {d : D} (h : Nd n d) (hn : n ≤ m) : Nd m d := ⟨h.1, h.2.1, Nat.le_trans h.2.2 hn⟩
theorem Nd.int (i : Int) : Nd 0 (.int i) := ⟨rfl, rfl, by simp [D.py, PyData.depth]⟩
theorem Nd.bl (i : Bool) : Nd 0 (.bl i) := ⟨rfl, rfl, by simp [D.py, PyData.depth]⟩
theorem Nd.non : Nd 0 .non := ⟨rfl, rfl, by simp [D.py, PyData.depth]⟩
theorem Nd.strW {w : List Nat} (h : ∀ c ∈ w, c < 128) : Nd 0 (.str (W w)) := ⟨rfl, strOk_W h, by simp [D.py, PyData.depth]⟩
theorem Nd.tup {n : Nat} {ds : List D} (h : ∀ d ∈ ds, Nd n d) : Nd (n + 1) (.tup ds) := Nice.tup' h
theorem Nd.tup2 {n : Nat} {x y : D} (hx : Nd n x) (hy : Nd n y) : Nd (n + 1) (.tup [x, y]) := Nd.tup fun d hd => by
  simp only [List.mem_cons, List.mem_nil_iff, or_false] at hd
  rcases hd with rfl | rfl
  · exact hx
  · exact hy
theorem Nd.tup3 {n : Nat} {x y z : D} (hx : Nd n x) (hy : Nd n y) (hz : Nd n z) : Nd (n + 1) (.tup [x, y, z]) := Nd.tup fun d hd => by
  simp only [List.mem_cons, List.mem_nil_iff, or_false] at hd
  rcases hd with rfl | rfl | rfl
  · exact hx
  · exact hy
  · exact hz
theorem Nd.lst {n : Nat} {ds : List D} (h : ∀ d ∈ ds, Nd n d) : Nd (n + 1) (.lst ds) := by
  refine ⟨by rw [D.pl]; exact plAll_of fun d hd => (h d hd).1, by rw [D.py, PyData.canLay0]; exact layAll_of fun d hd => (h d hd).2.1, ?_⟩
  rw [D.py, PyData.depth]
  have := depAll_of (n := n) fun d hd => (h d hd).2.2
  omega
theorem Nd.lst2 {n : Nat} {x y : D} (hx : Nd n x) (hy : Nd n y) : Nd (n + 1) (.lst [x, y]) := Nd.lst fun d hd => by
  simp only [List.mem_cons, List.mem_nil_iff, or_false] at hd
  rcases hd with rfl | rfl
  · exact hx
  · exact hy
end Lh

set_option Elab.async false
set_option linter.all false
set_option maxRecDepth 100000
set_option maxHeartbeats 1000000
namespace Lc
open PySem MD L2
variable {ww : WW}
/-! ### lists, texts, one thing at a time -/
abbrev nD (n : Nat) : D := .int ((n : Nat) : Int)
theorem cutW_to' {ws : List Nat} {n : Nat} : cutS (W ws) none (some ((n : Nat) : Int)) = W (ws.take n) := by
  unfold cutS
  rw [W_list, W_len, HT.sIx_none, HT.sIx_nat]
  show (⟨((ws.drop 0).take (min n ws.length - 0)).toArray⟩ : Str) = _
  rw [List.drop_zero, Nat.sub_zero]
  have : ws.take (min n ws.length) = ws.take n := by
    by_cases h : n ≤ ws.length
    · rw [Nat.min_eq_left h]
    · rw [Nat.min_eq_right (by omega), List.take_of_length_le (Nat.le_refl _), List.take_of_length_le (by omega)]
  rw [this]
  rfl
theorem forM_of' {it : MI} {t : MG} {b : MS} {env : Sg} {st : S} {ds : List D} {r : Option (Fl × S)} (h : it env st = some (ds, st)) (e : forL t b ds env st = r) : forM it t b env st = r := by
  rw [v_forM, h]
  exact e
theorem sl_to {f h : ME} {env : Sg} {st s1 s2 : S} {w : List Nat} {p : Nat} (h1 : f env st = some (.str (W w), s1)) (h2 : h env s1 = some (nD p, s2)) (hz : w.length ≤ 1000000) : slM slAny f noP (prt h) env st = some (.str (W (w.take p)), s2) := by
  have e2 : prt h env s1 = some (some ((p : Nat) : Int), s2) := by
    unfold prt
    rw [h2]; rfl
  rw [v_slM, h1, Option.bind_some]
  show ((noP env s1).bind _) = _
  show ((prt h env s1).bind _) = _
  rw [e2, Option.bind_some]
  show ((slAny (dr s2 (.str (W w))) none (some ((p : Nat) : Int))).map _) = _
  rw [dr_str, v_slS, grd_of (by rw [W_len]; exact hz), cutW_to']; rfl
theorem compL_list {α : Type} {t : MG} {c : MT} {f : ME} {env : Sg} {st : S} {F : α → D} {G : α → D} {q : α → Bool} {en : α → Sg} : ∀ (l : List α), (∀ a ∈ l, t (F a) env = some (en a) ∧ c (en a) st = some (q a, st) ∧ f (en a) st = some (G a, st)) → compL t c f env (l.map F) st = some ((l.filter q).map G, st)
  | [], _ => rfl
  | a :: l, h => by
    obtain ⟨h1, h2, h3⟩ := h a List.mem_cons_self
    have ih := compL_list l fun b hb => h b (List.mem_cons_of_mem _ hb)
    show ((t (F a) env).bind fun e => (c e st).bind fun p => if p.1 then (f e p.2).bind fun q => (compL t c f env (l.map F) q.2).map fun r => (q.1 :: r.1, r.2) else compL t c f env (l.map F) p.2) = _
    rw [h1, Option.bind_some, h2, Option.bind_some]
    cases hq : q a with
    | true =>
      rw [List.filter_cons_of_pos hq]
      show ((f (en a) st).bind fun q => (compL t c f env (l.map F) q.2).map fun r => (q.1 :: r.1, r.2)) = _
      rw [h3, Option.bind_some, ih]; rfl
    | false =>
      rw [List.filter_cons_of_neg (by rw [hq]; decide)]
      exact ih
/-- texts joined -/
theorem join_Ws (s : List Nat) (ps : List (List Nat)) : Txt.join (W s) (ps.map W) = W (TL.joinL s ps) := by
  apply TL.ext_tl
  rw [TL.join_eq, TL.tl_join]
  show TL.joinL (W s).cps.toList ((ps.map W).map fun x => x.cps.toList) = (W (TL.joinL s ps)).cps.toList
  rw [W_list, W_list, List.map_map]
  have e : ((fun (x : Str) => x.cps.toList) ∘ W) = id := by funext x; simp
  rw [e, List.map_id]
theorem split_Ws {c : Nat} (hc : c < 256) {ps : List (List Nat)} (hne : ps ≠ []) (h : ∀ p ∈ ps, c ∉ p) : Txt.split (W (TL.joinL [c] ps)) (W [c]) = ps.map W := by
  rw [← join_Ws]
  refine TL.split_join (s := c) (S := []) (by show (W [c]).cps.toList = _; rw [W_list]) ?_ (by simpa using hne) fun p hp => ?_
  · rw [← Array.all_toList, W_list]
    simpa using hc
  · obtain ⟨q, hq, rfl⟩ := List.mem_map.mp hp
    show c ∉ (W q).cps.toList
    rw [W_list]
    exact h q hq
theorem lenW_sum (ps : List (List Nat)) : ((ps.map W).map (·.length)).sum = (ps.map List.length).sum := by
  rw [List.map_map]
  congr 1
/-- sep.join(texts) -/
theorem join_of {f h : ME} {env : Sg} {st s1 s2 : S} {s : List Nat} {ps : List (List Nat)} (h1 : f env st = some (.str (W s), s1)) (h2 : h env s1 = some (.lst (ps.map fun p => D.str (W p)), s2)) (hl : (ps.map List.length).sum + ps.length * s.length ≤ 16000000) :
    m1M joinM f h env st = some (.str (W (TL.joinL s ps)), s2) := by
  have e : (ps.map fun p => D.str (W p)) = (ps.map W).map D.str := by rw [List.map_map]; rfl
  rw [v_m1M, h1, Option.bind_some]
  show ((h env s1).bind _) = _
  rw [h2, Option.bind_some]
  show ((joinM (dr s2 (.str (W s))) [dr s2 (.lst (ps.map fun p => D.str (W p)))]).map _) = _
  rw [dr_str, dr_lst, e]
  show (((strsOf ((ps.map W).map D.str)).bind fun ys => if (ys.map (·.length)).sum + ys.length * (W s).length ≤ 16777216 then some (D.str (Txt.join (W s) ys)) else none).map _) = _
  rw [strsOf_map]
  show ((if ((ps.map W).map (·.length)).sum + (ps.map W).length * (W s).length ≤ 16777216 then some (D.str (Txt.join (W s) (ps.map W))) else none).map _) = _
  rw [if_pos (by rw [lenW_sum, List.length_map, W_len]; omega), join_Ws]; rfl
theorem spl_of {f h : ME} {env : Sg} {st s1 s2 : S} {c : Nat} {ps : List (List Nat)} (hc : c < 256) (hne : ps ≠ []) (hp : ∀ p ∈ ps, c ∉ p) (h1 : f env st = some (.str (W (TL.joinL [c] ps)), s1)) (h2 : h env s1 = some (.str (W [c]), s2)) (hl : (TL.joinL [c] ps).length ≤ 900000) :
    frz (splM f h) env st = some (.lst (ps.map fun p => D.str (W p)), s2) := by
  have e : (ps.map fun p => D.str (W p)) = (ps.map W).map D.str := by rw [List.map_map]; rfl
  rw [v_frz]
  unfold splM
  rw [h1, Option.bind_some]
  show (((h env s1).bind _).map _) = _
  rw [h2, Option.bind_some]
  show ((if ((W [c]).length == 0) = false ∧ (W (TL.joinL [c] ps)).length + 2 ≤ sizeLine then some ((Txt.split (W (TL.joinL [c] ps)) (W [c])).map D.str, s2) else none).map _) = _
  rw [if_pos ⟨by rw [W_len]; rfl, by rw [W_len]; exact Nat.le_trans (show _ ≤ 900002 by omega) (by decide)⟩, split_Ws hc hne hp, e]; rfl
/-- a number's text -/
theorem str_num (n : Nat) : (Str.ofString (toString ((n : Nat) : Int)) : Str) = W (TL.numL n) := by
  apply TL.ext_tl
  show TL.tl _ = (W (TL.numL n)).cps.toList
  rw [W_list]
  exact TL.tl_num n
theorem strInt_of {f : ME} {env : Sg} {st s1 : S} {n : Nat} (h : f env st = some (nD n, s1)) (hn : n ≤ 1000) : cbM strIntM (aCons f aNil) env st = some (.str (W (TL.numL n)), s1) := by
  have e : strIntM [nD n] = some (.str (W (TL.numL n))) := by
    show (if (((n : Nat) : Int)).natAbs.log2 < 1920 then some (D.str (toString ((n : Nat) : Int))) else none) = _
    rw [if_pos]
    · show some (D.str (Str.ofString (toString ((n : Nat) : Int)))) = _
      rw [str_num]
    · rw [Int.natAbs_natCast]
      by_cases h0 : n = 0
      · rw [h0]; decide
      · rw [Nat.log2_lt h0]
        exact Nat.lt_of_le_of_lt hn (Nat.lt_of_lt_of_le (show 1000 < 2 ^ 10 by decide) (Nat.pow_le_pow_right (by decide) (by decide)))
  rw [v_cbM, Lm.cons_of h v_aNil, Option.bind_some]
  show ((strIntM [nD n]).map _ : Option (D × S)) = _
  rw [e]; rfl
theorem intS_of {f : ME} {env : Sg} {st s1 : S} {n : Nat} (h : f env st = some (.str (W (TL.numL n)), s1)) (hn : n < 10 ^ 9) : cbM intSM (aCons f aNil) env st = some (nD n, s1) := by
  have hl := TL.numL_len (n := n) (k := 9) (by decide) hn
  have e : intSM [.str (W (TL.numL n))] = some (nD n) := by
    show (if (W (TL.numL n)).length ≤ 640 then (PySem.intText? (W (TL.numL n))).map D.int else none) = _
    rw [if_pos (by rw [W_len]; omega), ← str_num, TL.int_num (by omega)]; rfl
  rw [v_cbM, Lm.cons_of h v_aNil, Option.bind_some]
  show ((intSM [.str (W (TL.numL n))]).map _ : Option (D × S)) = _
  rw [e]; rfl
/-! comprehensions that change nothing -/
section
variable {α : Type} {it : MI} {t : MG} {c : MT} {f : ME} {env env1 : Sg} {st : S} {F G : α → D} {q : α → Bool} {en : α → Sg} {vs : List Nat} {l : List α}
theorem comp_fil (hi : it env st = some (l.map F, st)) (hl : l.length ≤ 900000) (hw : wipeE env vs = env1) (h : ∀ a ∈ l, t (F a) env1 = some (en a) ∧ c (en a) st = some (q a, st) ∧ f (en a) st = some (G a, st)) : frz (compM it t c f vs) env st = some (.lst ((l.filter q).map G), st) := by
  rw [v_frz, v_compM, hi, Option.bind_some]
  show (grd (l.map F).length (compL t c f (wipeE env vs) (l.map F) st)).map _ = _
  rw [grd_of (by rw [List.length_map]; omega), hw, compL_list l h]; rfl
theorem comp_map (hi : it env st = some (l.map F, st)) (hl : l.length ≤ 900000) (hw : wipeE env vs = env1) (h : ∀ a ∈ l, t (F a) env1 = some (en a) ∧ f (en a) st = some (G a, st)) : frz (compM it t yesM f vs) env st = some (.lst (l.map G), st) := by
  have := comp_fil (c := yesM) (q := fun _ => true) hi hl hw fun a ha => ⟨(h a ha).1, rfl, (h a ha).2⟩
  rw [List.filter_eq_self.mpr (by simp)] at this
  exact this
end
theorem mul_of {f h : ME} {env : Sg} {st s1 s2 : S} {ds es : List D} {i : Int} (h1 : f env st = some (.lst ds, s1)) (h2 : h env s1 = some (.int i, s2)) (h3 : lstMul (.lst ds) (.int i) = some es) : frz (opF lstMul f h) env st = some (.lst es, s2) := by
  rw [v_frz]
  unfold opF
  rw [h1, Option.bind_some]
  show (((h env s1).bind _).map _) = _
  rw [h2, Option.bind_some]
  show (((lstMul (dr s2 (.lst ds)) (dr s2 (.int i))).map fun z => (z, s2)).map _) = _
  rw [dr_lst]
  show (((lstMul (.lst ds) (.int i)).map fun z => (z, s2)).map _) = _
  rw [h3]; rfl
theorem if_t {c : MT} {f h : ME} {env : Sg} {st s1 : S} {r : Option (D × S)} (hc : c env st = some (true, s1)) (hf : f env s1 = r) : ifM c f h env st = r := by rw [v_ifM, hc, Option.bind_some]; exact hf
theorem if_f {c : MT} {f h : ME} {env : Sg} {st s1 : S} {r : Option (D × S)} (hc : c env st = some (false, s1)) (hf : h env s1 = r) : ifM c f h env st = r := by rw [v_ifM, hc, Option.bind_some]; exact hf
theorem is_of {f : ME} {env : Sg} {st s1 : S} {d : D} (hf : f env st = some (d, s1)) (hd : dr s1 d = d) : tstM (opM isM f (cst .non)) env st = some (nonD d, s1) := by
  rw [v_tstM, v_opM, hf, Option.bind_some]
  show ((isM (dr s1 d) (dr s1 .non)).map fun z => (z, s1)).bind _ = _
  rw [hd]; rfl
theorem isnot_of {f : ME} {env : Sg} {st s1 : S} {d : D} (hf : f env st = some (d, s1)) (hd : dr s1 d = d) : tstM (opM isNotM f (cst .non)) env st = some (!nonD d, s1) := by
  rw [v_tstM, v_opM, hf, Option.bind_some]
  show ((isNotM (dr s1 d) (dr s1 .non)).map fun z => (z, s1)).bind _ = _
  rw [hd]; rfl
theorem zip_of {f h : ME} {env : Sg} {st s1 s2 : S} {xs ys : List D} (h1 : f env st = some (.tup xs, s1)) (h2 : h env s1 = some (.tup ys, s2)) : zipI f h env st = some (zipD xs ys, s2) := by
  unfold zipI
  rw [h1, Option.bind_some]
  show ((h env s1).bind _) = _
  rw [h2]; rfl
theorem zipD_map {α β : Type} (F : α → D) (G : β → D) : ∀ (xs : List α) (ys : List β), zipD (xs.map F) (ys.map G) = (xs.zip ys).map fun z => D.tup [F z.1, G z.2]
  | [], _ => by cases ‹List β› <;> rfl
  | _ :: _, [] => rfl
  | x :: xs, y :: ys => by
    have ih := zipD_map F G xs ys
    show D.tup [F x, G y] :: zipD (xs.map F) (ys.map G) = _
    rw [ih]; rfl
/-- strings -/
theorem eq_W {f h : ME} {env : Sg} {st s1 s2 : S} {a b : List Nat} (h1 : f env st = some (.str (W a), s1)) (h2 : h env s1 = some (.str (W b), s2)) : opM eqM f h env st = some (.bl (decide (a = b)), s2) := by
  have e : decide ((W a) = (W b)) = decide (a = b) := by
    by_cases h : a = b
    · rw [decide_eq_true h, decide_eq_true (by rw [h])]
    · rw [decide_eq_false h, decide_eq_false fun e => h (W_inj e)]
  rw [v_opM, h1, Option.bind_some, h2, Option.bind_some, dr_str, dr_str, MD.eq_str, e]; rfl
theorem ne_W {f h : ME} {env : Sg} {st s1 s2 : S} {a b : List Nat} (h1 : f env st = some (.str (W a), s1)) (h2 : h env s1 = some (.str (W b), s2)) : opM neM f h env st = some (.bl (!decide (a = b)), s2) := by
  have e : decide ((W a) = (W b)) = decide (a = b) := by
    by_cases h : a = b
    · rw [decide_eq_true h, decide_eq_true (by rw [h])]
    · rw [decide_eq_false h, decide_eq_false fun e => h (W_inj e)]
  rw [v_opM, h1, Option.bind_some, h2, Option.bind_some, dr_str, dr_str, MD.ne_str]
  simp only [Option.map_some]
  have e2 : decide (W a ≠ W b) = !decide (a = b) := by rw [← e]; simp
  first | rw [e2] | rw [e] | skip
end Lc

set_option Elab.async false
set_option linter.all false
set_option maxRecDepth 100000
set_option maxHeartbeats 2000000
namespace Lw
open PySem MD L2 Lc
variable {ww : WW}
/-! ### schemes, their lines -/
structure Sm where
  k : Nat
  rows : List (List (Option Nat))
  ends : List Bool
  units : List (List Nat)
  cuts : List (Nat × Nat × List Nat)
abbrev ltr (k : Nat) : List Nat := (List.range k).map (97 + ·)
structure Sm.Ok (s : Sm) : Prop where
  k0 : 1 ≤ s.k
  k4 : s.k ≤ 4
  r0 : 1 ≤ s.rows.length
  r8 : s.rows.length ≤ 8
  row : ∀ r ∈ s.rows, r.length = s.k ∧ ∀ n, some n ∈ r → n < s.rows.length
  en : s.ends.length = s.rows.length
  u1 : 1 ≤ s.units.length
  u2 : s.units.length ≤ 2
  un : ∀ us ∈ s.units, us.length = s.k ∧ ∀ n ∈ us, n ≤ 9
  c3 : s.cuts.length ≤ 3
  cu : ∀ c ∈ s.cuts, c.1 < s.units.length ∧ c.2.1 ≤ 20 ∧ c.2.2 = (ltr s.k).filter fun x => decide (x ∈ c.2.2)
def oD : Option Nat → D
  | some n => nD n
  | none => .non
abbrev rwD (r : List (Option Nat)) : D := .tup (r.map oD)
abbrev unD (us : List Nat) : D := .tup (us.map nD)
def cuD (c : Nat × Nat × List Nat) : D := .tup [nD c.1, nD c.2.1, .str (W c.2.2)]
def kiD (s : Sm) : D := .tup [nD s.k, .tup (s.rows.map rwD), .tup (s.ends.map D.bl)]
def smD (s : Sm) : D := .tup [kiD s, .tup (s.units.map unD), .tup (s.cuts.map cuD)]
abbrev stW : List Nat := [115, 116, 97, 116, 101]
abbrev enW : List Nat := [101, 110, 100]
abbrev unW : List Nat := [117, 110, 105, 116]
abbrev cuW : List Nat := [99, 117, 116]
abbrev leW : List Nat := [108, 101, 116, 116, 101, 114, 115]
theorem s_state : ("state" : Str) = W stW := by decide +kernel
theorem s_end : ("end" : Str) = W enW := by decide +kernel
theorem s_unit : ("unit" : Str) = W unW := by decide +kernel
theorem s_cut : ("cut" : Str) = W cuW := by decide +kernel
theorem s_letters : ("letters" : Str) = W leW := by decide +kernel
theorem s_lettersB : ("letters " : Str) = W (leW ++ [32]) := by decide +kernel
theorem s_cutB : ("cut " : Str) = W (cuW ++ [32]) := by decide +kernel
theorem s_blank : (" " : Str) = W [32] := by decide +kernel
theorem s_line : ("\n" : Str) = W [10] := by decide +kernel
theorem s_dot : ("." : Str) = W [46] := by decide +kernel
theorem s_dash : ("-" : Str) = W [45] := by decide +kernel
theorem s_zero : ("0" : Str) = W [48] := by decide +kernel
theorem s_figs : ("0123456789" : Str) = W ((List.range 10).map (48 + ·)) := by decide +kernel
theorem s_abcd : ("abcd" : Str) = W (ltr 4) := by decide +kernel
def itm : Option Nat → List Nat
  | none => [46]
  | some n => TL.numL n
def clg (cl : List Nat) : List Nat := if cl = [] then [45] else cl
def wst (r : List (Option Nat)) (e : Bool) : List (List Nat) := stW :: (r.map itm ++ if e = true then [enW] else [])
def wun (us : List Nat) : List (List Nat) := unW :: us.map TL.numL
def wcu (c : Nat × Nat × List Nat) : List (List Nat) := [cuW, TL.numL c.1, TL.numL c.2.1, clg c.2.2]
def wle (k : Nat) : List (List Nat) := [leW, ltr k]
abbrev ln (ws : List (List Nat)) : List Nat := TL.joinL [32] ws
/-- the words of all lines -/
def wls (s : Sm) : List (List (List Nat)) := wle s.k :: ((s.rows.zip s.ends).map (fun z => wst z.1 z.2) ++ s.units.map wun ++ s.cuts.map wcu)
def txt (s : Sm) : List Nat := TL.joinL [10] ((wls s).map ln)
/-! ### a line's length -/
theorem join_len (s : List Nat) : ∀ ps : List (List Nat), (TL.joinL s ps).length ≤ (ps.map List.length).sum + ps.length * s.length
  | [] => Nat.zero_le _
  | [p] => by simp [TL.joinL]
  | p :: q :: r => by
    have ih := join_len s (q :: r)
    show (p ++ (s ++ TL.joinL s (q :: r))).length ≤ _
    rw [List.length_append, List.length_append, List.map_cons, List.sum_cons, List.length_cons, Nat.succ_mul]
    omega
theorem sum_le (ps : List (List Nat)) (m : Nat) (h : ∀ p ∈ ps, p.length ≤ m) : (ps.map List.length).sum ≤ ps.length * m := by
  induction ps with
  | nil => simp
  | cons p ps ih =>
    have h1 := h p List.mem_cons_self
    have h2 := ih fun q hq => h q (List.mem_cons_of_mem _ hq)
    rw [List.map_cons, List.sum_cons, List.length_cons, Nat.succ_mul]
    omega
theorem num2 {n : Nat} (h : n ≤ 20) : (TL.numL n).length ≤ 2 := TL.numL_len (k := 2) (by decide) (by omega)
/-- words are short and free of blanks and line ends -/
structure Wd (p : List Nat) : Prop where
  l : p.length ≤ 7
  f : ∀ c ∈ p, 32 < c ∧ c < 123
theorem Wd.num {n : Nat} (h : n ≤ 20) : Wd (TL.numL n) := ⟨Nat.le_trans (num2 h) (by decide), fun c hc => by
  have := TL.numL_digits n c hc
  omega⟩
theorem Wd.itm {o : Option Nat} (h : ∀ n, o = some n → n ≤ 20) : Wd (itm o) := by
  cases o with
  | none => exact ⟨by decide, by decide⟩
  | some n => exact Wd.num (h n rfl)
theorem ltr_mem {k c : Nat} (h : c ∈ ltr k) : 97 ≤ c ∧ c < 97 + k := by
  obtain ⟨i, hi, rfl⟩ := List.mem_map.mp h
  have := List.mem_range.mp hi
  omega
section
variable {s : Sm} (ok : s.Ok)
include ok
theorem Sm.Ok.item {r : List (Option Nat)} (hr : r ∈ s.rows) {o : Option Nat} (ho : o ∈ r) : ∀ n, o = some n → n ≤ 20 := fun n e => by
  have := (ok.row r hr).2 n (by rw [← e]; exact ho)
  have := ok.r8
  omega
theorem Sm.Ok.cl {c : Nat × Nat × List Nat} (hc : c ∈ s.cuts) : c.2.2.length ≤ 4 ∧ ∀ x ∈ c.2.2, x ∈ ltr s.k := by
  have h := (ok.cu c hc).2.2
  have hk4 := ok.k4
  constructor
  · rw [h]
    refine Nat.le_trans (List.length_filter_le _ _) ?_
    rw [List.length_map, List.length_range]; exact hk4
  · intro x hx
    rw [h] at hx
    exact (List.mem_filter.mp hx).1
theorem wst_wd {r : List (Option Nat)} (hr : r ∈ s.rows) (e : Bool) : (wst r e).length ≤ 6 ∧ ∀ p ∈ wst r e, Wd p := by
  have hl := (ok.row r hr).1
  have hk4 := ok.k4
  refine ⟨?_, fun p hp => ?_⟩
  · unfold wst
    rw [List.length_cons, List.length_append, List.length_map]
    cases e <;> simp <;> omega
  · unfold wst at hp
    rcases List.mem_cons.mp hp with h | h
    · rw [h]; exact ⟨by decide, by decide⟩
    · rcases List.mem_append.mp h with h | h
      · obtain ⟨o, ho, rfl⟩ := List.mem_map.mp h
        exact Wd.itm (ok.item hr ho)
      · cases e with
        | true =>
          have : p = enW := by simpa using h
          rw [this]; exact ⟨by decide, by decide⟩
        | false => simp at h
theorem wun_wd {us : List Nat} (hu : us ∈ s.units) : (wun us).length ≤ 6 ∧ ∀ p ∈ wun us, Wd p := by
  obtain ⟨hl, hn⟩ := ok.un us hu
  have hk4 := ok.k4
  refine ⟨?_, fun p hp => ?_⟩
  · unfold wun
    rw [List.length_cons, List.length_map]; omega
  · unfold wun at hp
    rcases List.mem_cons.mp hp with h | h
    · rw [h]; exact ⟨by decide, by decide⟩
    · obtain ⟨n, hn2, rfl⟩ := List.mem_map.mp h
      exact Wd.num (by have := hn n hn2; omega)
theorem wcu_wd {c : Nat × Nat × List Nat} (hc : c ∈ s.cuts) : (wcu c).length ≤ 6 ∧ ∀ p ∈ wcu c, Wd p := by
  obtain ⟨h1, h2, _⟩ := ok.cu c hc
  obtain ⟨h3, h4⟩ := ok.cl hc
  have hu2 := ok.u2
  have hk4 := ok.k4
  refine ⟨by unfold wcu; simp, fun p hp => ?_⟩
  unfold wcu at hp
  simp only [List.mem_cons, List.mem_nil_iff, or_false] at hp
  rcases hp with rfl | rfl | rfl | rfl
  · exact ⟨by decide, by decide⟩
  · exact Wd.num (by omega)
  · exact Wd.num h2
  · unfold clg
    split
    · exact ⟨by decide, by decide⟩
    · exact ⟨by omega, fun x hx => by
        have := ltr_mem (h4 x hx)
        omega⟩
theorem wle_wd : (wle s.k).length ≤ 6 ∧ ∀ p ∈ wle s.k, Wd p := by
  have hk4 := ok.k4
  refine ⟨by unfold wle; simp, fun p hp => ?_⟩
  unfold wle at hp
  simp only [List.mem_cons, List.mem_nil_iff, or_false] at hp
  rcases hp with rfl | rfl
  · exact ⟨by decide, by decide⟩
  · exact ⟨by rw [List.length_map, List.length_range]; omega, fun x hx => by
      have := ltr_mem hx
      omega⟩
/-- all lines -/
theorem wls_wd : (wls s).length ≤ 14 ∧ ∀ ws ∈ wls s, ws ≠ [] ∧ ws.length ≤ 6 ∧ ∀ p ∈ ws, Wd p := by
  have h1 := ok.r8
  have h2 := ok.u2
  have h3 := ok.c3
  refine ⟨?_, fun ws hw => ?_⟩
  · unfold wls
    rw [List.length_cons, List.length_append, List.length_append, List.length_map, List.length_map, List.length_map, List.length_zip]
    omega
  · unfold wls at hw
    rcases List.mem_cons.mp hw with h | h
    · rw [h]; exact ⟨by unfold wle; simp, wle_wd ok⟩
    · rcases List.mem_append.mp h with h | h
      · rcases List.mem_append.mp h with h | h
        · obtain ⟨z, hz, rfl⟩ := List.mem_map.mp h
          exact ⟨by unfold wst; simp, wst_wd ok (List.of_mem_zip hz).1 z.2⟩
        · obtain ⟨us, hu, rfl⟩ := List.mem_map.mp h
          exact ⟨by unfold wun; simp, wun_wd ok hu⟩
      · obtain ⟨c, hc, rfl⟩ := List.mem_map.mp h
        exact ⟨by unfold wcu; simp, wcu_wd ok hc⟩
end
theorem ln_ok {ws : List (List Nat)} (hl : ws.length ≤ 6) (hw : ∀ p ∈ ws, Wd p) : (ln ws).length ≤ 48 ∧ ∀ c ∈ ln ws, 31 < c ∧ c < 123 := by
  constructor
  · have h1 := join_len [32] ws
    have h2 := sum_le ws 7 fun p hp => (hw p hp).l
    have h3 : ws.length * 7 ≤ 6 * 7 := Nat.mul_le_mul_right _ hl
    have : ws.length * [32].length = ws.length := by simp
    show (TL.joinL [32] ws).length ≤ 48
    omega
  · clear hl
    induction ws with
    | nil => intro c hc; cases hc
    | cons p ws ih =>
      cases ws with
      | nil =>
        intro c hc
        have := (hw p List.mem_cons_self).f c hc
        omega
      | cons q r =>
        intro c hc
        have hc : c ∈ p ++ ([32] ++ TL.joinL [32] (q :: r)) := hc
        rcases List.mem_append.mp hc with h | h
        · have := (hw p List.mem_cons_self).f c h
          omega
        · rcases List.mem_append.mp h with h | h
          · have : c = 32 := by simpa using h
            omega
          · exact ih (fun p hp => hw p (List.mem_cons_of_mem _ hp)) c h
/-- the text's lines -/
theorem lines_ok {s : Sm} (ok : s.Ok) : ((wls s).map ln).length ≤ 14 ∧ ∀ l ∈ (wls s).map ln, l.length ≤ 48 ∧ 10 ∉ l := by
  obtain ⟨h1, h2⟩ := wls_wd ok
  refine ⟨by rw [List.length_map]; exact h1, fun l hl => ?_⟩
  obtain ⟨ws, hw, rfl⟩ := List.mem_map.mp hl
  obtain ⟨_, h3, h4⟩ := h2 ws hw
  obtain ⟨h5, h6⟩ := ln_ok h3 h4
  exact ⟨h5, fun h => by have := h6 10 h; omega⟩
end Lw

set_option Elab.async false
set_option linter.all false
set_option maxRecDepth 100000
set_option maxHeartbeats 2000000
namespace Lw
open PySem MD L2 Lc
variable {ww : WW}
/-! ### texts of schemes, by the program -/
noncomputable def itE (i : Nat) : ME := (ifM (tstM (opM isM (rd i) (cst .non))) (cst (.str ".")) (cbM strIntM (aCons (rd i) aNil)))
theorem itE_ok {i : Nat} {env : Sg} {st : S} {o : Option Nat} (h : rd i env st = some (oD o, st)) (hn : ∀ n, o = some n → n ≤ 20) : itE i env st = some (.str (W (itm o)), st) := by
  have t1 := is_of h (by cases o <;> rfl)
  unfold itE
  cases o with
  | none =>
    refine if_t t1 ?_
    show some (D.str ".", st) = _
    rw [s_dot]; rfl
  | some n => exact if_f t1 (strInt_of h (by have := hn n rfl; omega))
/-- the words of a line, joined -/
theorem ln_of {f : ME} {env : Sg} {st s1 : S} {ws : List (List Nat)} (h : f env st = some (.lst (ws.map fun p => D.str (W p)), s1)) (hl : ws.length ≤ 6) (hw : ∀ p ∈ ws, Wd p) : m1M joinM (cst (.str " ")) f env st = some (.str (W (ln ws)), s1) := by
  have h2 := sum_le ws 7 fun p hp => (hw p hp).l
  have h3 : ws.length * 7 ≤ 6 * 7 := Nat.mul_le_mul_right _ hl
  have hb : cst (.str " ") env st = some (.str (W [32]), st) := by
    show some (D.str " ", st) = _
    rw [s_blank]
  exact join_of hb h (by simp; omega)
theorem stl_ok {s : Sm} (ok : s.Ok) {r : List (Option Nat)} (hr : r ∈ s.rows) (e : Bool) (st : S) : m_state_line [rwD r, .bl e] st = some (.str (W (ln (wst r e))), st) := by
  have hb : b_state_line = (seqM (asgM (nameT 2) (frz (compM (seqI (rd 0)) (nameT 3) yesM (itE 3) [3])))
 (retM (m1M joinM (cst (.str " ")) (opM addM (opM addM (frz (lstM (aCons (cst (.str "state")) aNil))) (rd 2)) (frz (opF lstMul (frz (lstM (aCons (cst (.str "end")) aNil))) (cbM int1M (aCons (rd 1) aNil)))))))) := rfl
  have hl := (ok.row r hr).1
  have hk4 := ok.k4
  refine Lm.run_of ?_
  show b_state_line [.val (rwD r), .val (.bl e), .un, .un] st = _
  rw [hb]
  have c1 := comp_map (F := oD) (G := fun o => D.str (W (itm o))) (it := seqI (rd 0)) (t := nameT 3) (f := itE 3) (env := [.val (rwD r), .val (.bl e), .un, .un]) (env1 := [.val (rwD r), .val (.bl e), .un, .un]) (st := st) (vs := [3]) (en := fun o => [.val (rwD r), .val (.bl e), .un, .val (oD o)]) (l := r) rfl (by omega) rfl
    (fun o ho => ⟨rfl, itE_ok rfl (ok.item hr ho)⟩)
  rw [Lm.seq_nx (Lm.asg_nx c1)]
  show retM _ [.val (rwD r), .val (.bl e), .val (.lst (r.map fun o => D.str (W (itm o)))), .un] st = _
  have a1 : frz (lstM (aCons (cst (.str "state")) aNil)) [.val (rwD r), .val (.bl e), .val (.lst (r.map fun o => D.str (W (itm o)))), .un] st = some (.lst [.str (W stW)], st) := by
    rw [← s_state]
    exact Lm.lst_of (Lm.cons_of rfl v_aNil) (by simp)
  have a2 := Lm.add_lst (h := rd 2) (ys := r.map fun o => D.str (W (itm o))) (s2 := st) a1 rfl (by simp; omega)
  have a3 : frz (opF lstMul (frz (lstM (aCons (cst (.str "end")) aNil))) (cbM int1M (aCons (rd 1) aNil))) [.val (rwD r), .val (.bl e), .val (.lst (r.map fun o => D.str (W (itm o)))), .un] st = some (.lst (if e = true then [.str (W enW)] else []), st) := by
    have b1 : frz (lstM (aCons (cst (.str "end")) aNil)) [.val (rwD r), .val (.bl e), .val (.lst (r.map fun o => D.str (W (itm o)))), .un] st = some (.lst [.str (W enW)], st) := by
      rw [← s_end]
      exact Lm.lst_of (Lm.cons_of rfl v_aNil) (by simp)
    have b2 : cbM int1M (aCons (rd 1) aNil) [.val (rwD r), .val (.bl e), .val (.lst (r.map fun o => D.str (W (itm o)))), .un] st = some (.int (if e = true then 1 else 0), st) := by
      cases e <;> rfl
    refine mul_of b1 b2 ?_
    cases e <;> rfl
  have a4 := Lm.add_lst a2 a3 (by cases e <;> simp <;> omega)
  obtain ⟨w1, w2⟩ := wst_wd ok hr e
  have ew : [D.str (W stW)] ++ r.map (fun o => D.str (W (itm o))) ++ (if e = true then [D.str (W enW)] else []) = (wst r e).map fun p => D.str (W p) := by
    unfold wst
    rw [List.map_cons, List.map_append, List.map_map]
    cases e <;> simp
  rw [ew] at a4
  exact Lm.ret_of (ln_of a4 w1 w2)
theorem str_of {env : Sg} {st : S} {x : Str} {w : List Nat} (h : x = W w) : cst (.str x) env st = some (.str (W w), st) := by rw [h]; rfl
theorem ctl_ok {s : Sm} (ok : s.Ok) {c : Nat × Nat × List Nat} (hc : c ∈ s.cuts) (st : S) : m_cut_line [cuD c] st = some (.str (W (ln (wcu c))), st) := by
  have hb : b_cut_line = (seqM (asgM (tupT 3 (consT (nameT 1) (consT (nameT 2) (consT (nameT 3) nilT)))) (rd 0))
 (retM (opM addM (joinedM [(cst (.str "cut ")), (fmtM (rd 1)), (cst (.str " ")), (fmtM (rd 2)), (cst (.str " "))]) (ifM (tstM (opM eqM (rd 3) (cst (.str "")))) (cst (.str "-")) (rd 3))))) := rfl
  obtain ⟨h1, h2, _⟩ := ok.cu c hc
  obtain ⟨h3, h4⟩ := ok.cl hc
  have hu2 := ok.u2
  obtain ⟨u, m, cl⟩ := c
  have h1 : u < s.units.length := h1
  have h2 : m ≤ 20 := h2
  have h3 : cl.length ≤ 4 := h3
  refine Lm.run_of ?_
  show b_cut_line [.val (cuD (u, m, cl)), .un, .un, .un] st = _
  rw [hb]
  have e0 : asgM (tupT 3 (consT (nameT 1) (consT (nameT 2) (consT (nameT 3) nilT)))) (rd 0) [.val (cuD (u, m, cl)), .un, .un, .un] st = some (.nx [.val (cuD (u, m, cl)), .val (nD u), .val (nD m), .val (.str (W cl))], st) := rfl
  rw [Lm.seq_nx e0]
  obtain ⟨E, hE⟩ : ∃ E : Sg, E = [.val (cuD (u, m, cl)), .val (nD u), .val (nD m), .val (.str (W cl))] := ⟨_, rfl⟩
  rw [← hE]
  have fm : ∀ (i n : Nat), n ≤ 20 → rd i E st = some (nD n, st) → fmtM (rd i) E st = some (.str (W (TL.numL n)), st) := fun i n hn h => by
    unfold fmtM
    rw [h, Option.bind_some]
    show (if (((n : Nat) : Int)).natAbs.log2 < 1920 then some (D.str (toString ((n : Nat) : Int)), st) else none) = _
    rw [if_pos]
    · show some (D.str (Str.ofString (toString ((n : Nat) : Int))), st) = _
      rw [str_num]
    · rw [Int.natAbs_natCast]
      by_cases h0 : n = 0
      · rw [h0]; decide
      · rw [Nat.log2_lt h0]
        exact Nat.lt_of_le_of_lt hn (Nat.lt_of_lt_of_le (show 20 < 2 ^ 10 by decide) (Nat.pow_le_pow_right (by decide) (by decide)))
  have f1 := fm 1 u (by omega) (by rw [hE]; rfl)
  have f2 := fm 2 m h2 (by rw [hE]; rfl)
  have l1 := num2 (n := u) (by omega)
  have l2 := num2 h2
  have stp : ∀ {f : ME} {fs : List ME} {a w : List Nat}, f E st = some (.str (W w), st) → (a ++ w).length ≤ 1000 → jsF (f :: fs) (W a) E st = jsF fs (W (a ++ w)) E st := fun {f fs a w} h hl => by
    show ((f E st).bind fun p => match p.1 with | .str y => if (W a ++ y).length ≤ sizeLine then jsF fs (W a ++ y) E p.2 else none | _ => none) = _
    rw [h, Option.bind_some]
    show (if (W a ++ W w).length ≤ sizeLine then jsF fs (W a ++ W w) E st else none) = _
    rw [W_app, if_pos (by rw [W_len]; exact Nat.le_trans hl (by decide))]
  have j1 : joinedM [(cst (.str "cut ")), (fmtM (rd 1)), (cst (.str " ")), (fmtM (rd 2)), (cst (.str " "))] E st = some (.str (W (([] ++ (cuW ++ [32])) ++ TL.numL u ++ [32] ++ TL.numL m ++ [32])), st) := by
    unfold joinedM
    have e : Str.empty = W [] := rfl
    rw [e, stp (str_of s_cutB) (by decide), stp f1 (by simp; omega), stp (str_of s_blank) (by simp; omega), stp f2 (by simp; omega), stp (str_of s_blank) (by simp; omega)]
    rfl
  have h3' : rd 3 E st = some (.str (W cl), st) := by rw [hE]; rfl
  have j2 : ifM (tstM (opM eqM (rd 3) (cst (.str "")))) (cst (.str "-")) (rd 3) E st = some (.str (W (clg cl)), st) := by
    have t1 := Lm.tst_of (eq_W h3' (str_of empty_W))
    unfold clg
    by_cases hc : cl = []
    · rw [decide_eq_true hc] at t1
      rw [if_pos hc]
      exact if_t t1 (str_of s_dash)
    · rw [decide_eq_false hc] at t1
      rw [if_neg hc]
      exact if_f t1 h3'
  have lc : (clg cl).length ≤ 4 := by
    unfold clg
    split
    · decide
    · exact h3
  have j3 := Lh.str_add j1 j2 (by simp; omega)
  refine Lm.ret_of (j3.trans ?_)
  have ew : ([] ++ (cuW ++ [32])) ++ TL.numL u ++ [32] ++ TL.numL m ++ [32] ++ clg cl = ln (wcu (u, m, cl)) := by
    show _ = cuW ++ ([32] ++ (TL.numL u ++ ([32] ++ (TL.numL m ++ ([32] ++ clg cl)))))
    simp
  rw [ew]
theorem at3 {d0 d1 d2 : D} {st : S} {env : Sg} {f : ME} (h : f env st = some (.tup [d0, d1, d2], st)) : opM subD f (cst (.int 0)) env st = some (d0, st) ∧ opM subD f (cst (.int 1)) env st = some (d1, st) ∧ opM subD f (cst (.int 2)) env st = some (d2, st) :=
  ⟨Lh.at_tup (j := 0) h rfl, Lh.at_tup (j := 1) h rfl, Lh.at_tup (j := 2) h rfl⟩
theorem cut_ltr {k : Nat} (h : k ≤ 4) : L2.cutS (W (ltr 4)) none (some ((k : Nat) : Int)) = W (ltr k) := by
  rw [cutW_to']
  congr 1
  have hk : k = 0 ∨ k = 1 ∨ k = 2 ∨ k = 3 ∨ k = 4 := by omega
  rcases hk with rfl | rfl | rfl | rfl | rfl <;> rfl
theorem letters_of {s : Sm} (ok : s.Ok) {i : Nat} {env : Sg} {st : S} (h : rd i env st = some (kiD s, st)) : opM addM (cst (.str "letters ")) (slM slAny (cst (.str "abcd")) noP (prt (opM subD (rd i) (cst (.int 0))))) env st = some (.str (W (ln (wle s.k))), st) := by
  have hk4 := ok.k4
  have e1 := sl_to (f := cst (.str "abcd")) (env := env) (st := st) (s1 := st) (w := ltr 4) (p := s.k) (by rw [s_abcd]; rfl) (at3 h).1 (by simp)
  have e2 : (ltr 4).take s.k = ltr s.k := by
    have hk : s.k = 0 ∨ s.k = 1 ∨ s.k = 2 ∨ s.k = 3 ∨ s.k = 4 := by omega
    rcases hk with hk | hk | hk | hk | hk <;> rw [hk] <;> rfl
  rw [e2] at e1
  have e3 := Lh.str_add (str_of s_lettersB) e1 (by simp; omega)
  refine e3.trans ?_
  have ew : leW ++ [32] ++ ltr s.k = ln (wle s.k) := by
    show _ = leW ++ ([32] ++ ltr s.k)
    simp
  rw [ew]
theorem unl_of {us : List Nat} {s : Sm} (ok : s.Ok) (hu : us ∈ s.units) {i j : Nat} {env env1 : Sg} {st : S} (hij : ∀ n : Nat, ∃ e, nameT j (nD n) env1 = some e ∧ rd j e st = some (nD n, st)) (h : rd i env st = some (unD us, st)) (hw : wipeE env [j] = env1) :
    m1M joinM (cst (.str " ")) (opM addM (frz (lstM (aCons (cst (.str "unit")) aNil))) (frz (compM (seqI (rd i)) (nameT j) yesM (cbM strIntM (aCons (rd j) aNil)) [j]))) env st = some (.str (W (ln (wun us))), st) := by
  obtain ⟨hl, hn⟩ := ok.un us hu
  have hk4 := ok.k4
  have hi : seqI (rd i) env st = some (us.map nD, st) := by
    rw [v_seqI, h]; rfl
  have c1 := comp_map (F := nD) (G := fun n => D.str (W (TL.numL n))) (it := seqI (rd i)) (t := nameT j) (f := cbM strIntM (aCons (rd j) aNil)) (env := env) (env1 := env1) (st := st) (vs := [j]) (en := fun n => (hij n).choose) (l := us) hi (by omega) hw
    (fun n hnu => ⟨(hij n).choose_spec.1, strInt_of (hij n).choose_spec.2 (by have := hn n hnu; omega)⟩)
  have a1 : frz (lstM (aCons (cst (.str "unit")) aNil)) env st = some (.lst [.str (W unW)], st) := by
    rw [← s_unit]
    exact Lm.lst_of (Lm.cons_of rfl v_aNil) (by simp)
  have a2 := Lm.add_lst a1 c1 (by simp; omega)
  have ew : [D.str (W unW)] ++ us.map (fun n => D.str (W (TL.numL n))) = (wun us).map fun p => D.str (W p) := by
    unfold wun
    rw [List.map_cons, List.map_map]; rfl
  rw [ew] at a2
  obtain ⟨w1, w2⟩ := wun_wd ok hu
  exact ln_of a2 w1 w2
/-- the lines of a text, joined -/
theorem txt_of {f : ME} {env : Sg} {st s1 : S} {s : Sm} (ok : s.Ok) (h : f env st = some (.lst (((wls s).map ln).map fun p => D.str (W p)), s1)) : m1M joinM (cst (.str "\n")) f env st = some (.str (W (txt s)), s1) := by
  obtain ⟨h1, h2⟩ := lines_ok ok
  have h3 := sum_le ((wls s).map ln) 48 fun p hp => (h2 p hp).1
  exact join_of (str_of s_line) h (by simp at h1 h3 ⊢; omega)
theorem txt_ok {s : Sm} (ok : s.Ok) (st : S) : m_scheme_text [smD s] st = some (.str (W (txt s)), st) := by
  have hb : b_scheme_text = (seqM (asgM (tupT 3 (consT (nameT 1) (consT (nameT 2) (consT (nameT 3) nilT)))) (rd 0))
 (seqM (asgM (nameT 4) (opM addM (frz (lstM (aCons (opM addM (cst (.str "letters ")) (slM slAny (cst (.str "abcd")) noP (prt (opM subD (rd 1) (cst (.int 0)))))) aNil))) (frz (compM (zipI (opM subD (rd 1) (cst (.int 1))) (opM subD (rd 1) (cst (.int 2)))) (tupT 2 (consT (nameT 5) (consT (nameT 6) nilT))) yesM (callM m_state_line (aCons (rd 5) (aCons (rd 6) aNil))) [5, 6]))))
 (seqM (asgM (nameT 4) (opM addM (rd 4) (frz (compM (seqI (rd 2)) (nameT 7) yesM (m1M joinM (cst (.str " ")) (opM addM (frz (lstM (aCons (cst (.str "unit")) aNil))) (frz (compM (seqI (rd 7)) (nameT 8) yesM (cbM strIntM (aCons (rd 8) aNil)) [8])))) [7]))))
 (retM (m1M joinM (cst (.str "\n")) (opM addM (rd 4) (frz (compM (seqI (rd 3)) (nameT 9) yesM (callM m_cut_line (aCons (rd 9) aNil)) [9])))))))) := rfl
  have hr8 := ok.r8
  have hu2 := ok.u2
  have hc3 := ok.c3
  refine Lm.run_of ?_
  show b_scheme_text [.val (smD s), .un, .un, .un, .un, .un, .un, .un, .un, .un] st = _
  rw [hb]
  have e0 : asgM (tupT 3 (consT (nameT 1) (consT (nameT 2) (consT (nameT 3) nilT)))) (rd 0) [.val (smD s), .un, .un, .un, .un, .un, .un, .un, .un, .un] st = some (.nx [.val (smD s), .val (kiD s), .val (.tup (s.units.map unD)), .val (.tup (s.cuts.map cuD)), .un, .un, .un, .un, .un, .un], st) := rfl
  rw [Lm.seq_nx e0]
  have l1 := letters_of ok (i := 1) (env := [.val (smD s), .val (kiD s), .val (.tup (s.units.map unD)), .val (.tup (s.cuts.map cuD)), .un, .un, .un, .un, .un, .un]) (st := st) rfl
  have l2 := Lm.lst_of (Lm.cons_of l1 v_aNil) (by simp)
  obtain ⟨_, k1, k2⟩ := at3 (f := rd 1) (env := [.val (smD s), .val (kiD s), .val (.tup (s.units.map unD)), .val (.tup (s.cuts.map cuD)), .un, .un, .un, .un, .un, .un]) (st := st) (d0 := nD s.k) (d1 := .tup (s.rows.map rwD)) (d2 := .tup (s.ends.map D.bl)) rfl
  have z1 := zip_of k1 k2
  rw [zipD_map] at z1
  have c1 := comp_map (F := fun z : List (Option Nat) × Bool => D.tup [rwD z.1, .bl z.2]) (G := fun z => D.str (W (ln (wst z.1 z.2)))) (t := tupT 2 (consT (nameT 5) (consT (nameT 6) nilT))) (f := callM m_state_line (aCons (rd 5) (aCons (rd 6) aNil))) (vs := [5, 6])
    (env1 := [.val (smD s), .val (kiD s), .val (.tup (s.units.map unD)), .val (.tup (s.cuts.map cuD)), .un, .un, .un, .un, .un, .un]) (en := fun z => [.val (smD s), .val (kiD s), .val (.tup (s.units.map unD)), .val (.tup (s.cuts.map cuD)), .un, .val (rwD z.1), .val (.bl z.2), .un, .un, .un]) (l := s.rows.zip s.ends) z1 (by rw [List.length_zip]; omega) rfl
    (fun z hz => ⟨rfl, Lm.call_of (Lm.cons_of (f := rd 5) (s1 := st) rfl (Lm.cons_of (f := rd 6) (s1 := st) rfl v_aNil)) (stl_ok ok (List.of_mem_zip hz).1 z.2 st)⟩)
  have a1 := Lm.add_lst l2 c1 (by simp; omega)
  rw [Lm.seq_nx (Lm.asg_nx a1)]
  obtain ⟨L1, hL1⟩ : ∃ L1, L1 = [D.str (W (ln (wle s.k)))] ++ (s.rows.zip s.ends).map fun z => D.str (W (ln (wst z.1 z.2))) := ⟨_, rfl⟩
  have hL1l : L1.length ≤ 9 := by rw [hL1]; simp; omega
  show seqM _ _ [.val (smD s), .val (kiD s), .val (.tup (s.units.map unD)), .val (.tup (s.cuts.map cuD)), .val (.lst ([D.str (W (ln (wle s.k)))] ++ (s.rows.zip s.ends).map fun z => D.str (W (ln (wst z.1 z.2))))), .un, .un, .un, .un, .un] st = _
  rw [← hL1]
  have c2 := comp_map (F := unD) (G := fun us => D.str (W (ln (wun us)))) (it := seqI (rd 2)) (t := nameT 7) (f := m1M joinM (cst (.str " ")) (opM addM (frz (lstM (aCons (cst (.str "unit")) aNil))) (frz (compM (seqI (rd 7)) (nameT 8) yesM (cbM strIntM (aCons (rd 8) aNil)) [8])))) (vs := [7]) (st := st)
    (env := [.val (smD s), .val (kiD s), .val (.tup (s.units.map unD)), .val (.tup (s.cuts.map cuD)), .val (.lst L1), .un, .un, .un, .un, .un]) (env1 := [.val (smD s), .val (kiD s), .val (.tup (s.units.map unD)), .val (.tup (s.cuts.map cuD)), .val (.lst L1), .un, .un, .un, .un, .un])
    (en := fun us => [.val (smD s), .val (kiD s), .val (.tup (s.units.map unD)), .val (.tup (s.cuts.map cuD)), .val (.lst L1), .un, .un, .val (unD us), .un, .un]) (l := s.units) rfl (by omega) rfl
    (fun us hu => ⟨rfl, unl_of ok hu (fun n => ⟨_, rfl, rfl⟩) rfl rfl⟩)
  have a2 := Lm.add_lst (f := rd 4) (xs := L1) (s1 := st) rfl c2 (by simp; omega)
  rw [Lm.seq_nx (Lm.asg_nx a2)]
  obtain ⟨L2, hL2⟩ : ∃ L2, L2 = L1 ++ s.units.map fun us => D.str (W (ln (wun us))) := ⟨_, rfl⟩
  have hL2l : L2.length ≤ 11 := by rw [hL2]; simp; omega
  show retM _ [.val (smD s), .val (kiD s), .val (.tup (s.units.map unD)), .val (.tup (s.cuts.map cuD)), .val (.lst (L1 ++ s.units.map fun us => D.str (W (ln (wun us))))), .un, .un, .un, .un, .un] st = _
  rw [← hL2]
  have c3 := comp_map (F := cuD) (G := fun c => D.str (W (ln (wcu c)))) (it := seqI (rd 3)) (t := nameT 9) (f := callM m_cut_line (aCons (rd 9) aNil)) (vs := [9]) (st := st)
    (env := [.val (smD s), .val (kiD s), .val (.tup (s.units.map unD)), .val (.tup (s.cuts.map cuD)), .val (.lst L2), .un, .un, .un, .un, .un]) (env1 := [.val (smD s), .val (kiD s), .val (.tup (s.units.map unD)), .val (.tup (s.cuts.map cuD)), .val (.lst L2), .un, .un, .un, .un, .un])
    (en := fun c => [.val (smD s), .val (kiD s), .val (.tup (s.units.map unD)), .val (.tup (s.cuts.map cuD)), .val (.lst L2), .un, .un, .un, .un, .val (cuD c)]) (l := s.cuts) rfl (by omega) rfl
    (fun c hc => ⟨rfl, Lm.call_of (Lm.cons_of (f := rd 9) (s1 := st) rfl v_aNil) (ctl_ok ok hc st)⟩)
  have a3 := Lm.add_lst (f := rd 4) (xs := L2) (s1 := st) rfl c3 (by simp; omega)
  have ew : L2 ++ s.cuts.map (fun c => D.str (W (ln (wcu c)))) = ((wls s).map ln).map fun p => D.str (W p) := by
    rw [hL2, hL1]
    unfold wls
    simp [Function.comp_def]
  rw [ew] at a3
  exact Lm.ret_of (txt_of ok a3)
end Lw

set_option Elab.async false
set_option linter.all false
set_option maxRecDepth 100000
set_option maxHeartbeats 2000000
namespace Lw
open PySem MD L2 Lc
variable {ww : WW}
/-! ### texts of schemes, by the law -/
theorem app_of {i : Nat} {f : ME} {env : Sg} {st s1 : S} {ds : List D} {d : D} (he : env[i]? = some (.own (.lst, ds))) (hl : ds.length ≤ 900000) (hf : f env st = some (d, s1)) : appM i f env st = some (.nx (env.set i (.own (.lst, ds ++ [d]))), s1) := by
  rw [v_appM]
  simp only [he]
  rw [grd_of (by omega), hf]; rfl
theorem lstD_of {env : Sg} {st : S} {x : Str} {w : List Nat} (h : x = W w) : frz (lstM (aCons (cst (.str x)) aNil)) env st = some (.lst [.str (W w)], st) := by
  rw [← h]
  exact Lm.lst_of (Lm.cons_of rfl v_aNil) (by simp)
noncomputable def roB : MS := (seqM (asgM (nameT 7) (frz (compM (seqI (rd 5)) (nameT 11) yesM (itE 11) [11])))
 (appM 4 (m1M joinM (cst (.str " ")) (opM addM (opM addM (frz (lstM (aCons (cst (.str "state")) aNil))) (rd 7)) (ifM (truM (rd 6)) (frz (lstM (aCons (cst (.str "end")) aNil))) (frz (lstM aNil)))))))
abbrev envT (s : Sm) (acc : List D) (x5 x6 x7 x8 x9 x10 x11 x12 : Sl) : Sg := [.val (smD s), .val (kiD s), .val (.tup (s.units.map unD)), .val (.tup (s.cuts.map cuD)), .own (.lst, acc), x5, x6, x7, x8, x9, x10, x11, x12]
section
variable {s : Sm} (ok : s.Ok) (st : S)
include ok
theorem ro_turn {r : List (Option Nat)} (hr : r ∈ s.rows) (e : Bool) (acc : List D) (ha : acc.length ≤ 1000) (x7 x8 x9 x10 x11 x12 : Sl) : ∃ y7, roB (envT s acc (.val (rwD r)) (.val (.bl e)) x7 x8 x9 x10 x11 x12) st = some (.nx (envT s (acc ++ [.str (W (ln (wst r e)))]) (.val (rwD r)) (.val (.bl e)) y7 x8 x9 x10 x11 x12), st) := by
  have hl := (ok.row r hr).1
  have hk4 := ok.k4
  have c1 := comp_map (F := oD) (G := fun o => D.str (W (itm o))) (it := seqI (rd 5)) (t := nameT 11) (f := itE 11) (env := envT s acc (.val (rwD r)) (.val (.bl e)) x7 x8 x9 x10 x11 x12) (env1 := envT s acc (.val (rwD r)) (.val (.bl e)) x7 x8 x9 x10 .un x12) (st := st) (vs := [11])
    (en := fun o => envT s acc (.val (rwD r)) (.val (.bl e)) x7 x8 x9 x10 (.val (oD o)) x12) (l := r) rfl (by omega) rfl (fun o ho => ⟨rfl, itE_ok rfl (ok.item hr ho)⟩)
  refine ⟨.val (.lst (r.map fun o => D.str (W (itm o)))), ?_⟩
  unfold roB
  rw [Lm.seq_nx (Lm.asg_nx c1)]
  show appM 4 _ (envT s acc (.val (rwD r)) (.val (.bl e)) (.val (.lst (r.map fun o => D.str (W (itm o))))) x8 x9 x10 x11 x12) st = _
  have a1 := lstD_of (env := envT s acc (.val (rwD r)) (.val (.bl e)) (.val (.lst (r.map fun o => D.str (W (itm o))))) x8 x9 x10 x11 x12) (st := st) s_state
  have a2 := Lm.add_lst (h := rd 7) (ys := r.map fun o => D.str (W (itm o))) (s2 := st) a1 rfl (by simp; omega)
  have a3 : ifM (truM (rd 6)) (frz (lstM (aCons (cst (.str "end")) aNil))) (frz (lstM aNil)) (envT s acc (.val (rwD r)) (.val (.bl e)) (.val (.lst (r.map fun o => D.str (W (itm o))))) x8 x9 x10 x11 x12) st = some (.lst (if e = true then [.str (W enW)] else []), st) := by
    have t1 := Lh.tru_of (f := rd 6) (env := envT s acc (.val (rwD r)) (.val (.bl e)) (.val (.lst (r.map fun o => D.str (W (itm o))))) x8 x9 x10 x11 x12) (st := st) (s1 := st) (b := e) rfl
    cases e with
    | true => exact if_t t1 (lstD_of s_end)
    | false => exact if_f t1 (Lm.lst_of v_aNil (by simp))
  have a4 := Lm.add_lst a2 a3 (by cases e <;> simp <;> omega)
  obtain ⟨w1, w2⟩ := wst_wd ok hr e
  have ew : [D.str (W stW)] ++ r.map (fun o => D.str (W (itm o))) ++ (if e = true then [D.str (W enW)] else []) = (wst r e).map fun p => D.str (W p) := by
    unfold wst
    rw [List.map_cons, List.map_append, List.map_map]
    cases e <;> simp
  rw [ew] at a4
  rw [app_of (ds := acc) rfl (by omega) (ln_of a4 w1 w2)]; rfl
noncomputable abbrev roT : MG := (tupT 2 (consT (nameT 5) (consT (nameT 6) nilT)))
theorem ro_loop (x8 x9 x10 x11 x12 : Sl) : ∀ (zs : List (List (Option Nat) × Bool)), (∀ z ∈ zs, z.1 ∈ s.rows) → ∀ (acc : List D), acc.length + zs.length ≤ 1000 → ∀ (x5 x6 x7 : Sl), ∃ y5 y6 y7,
    forL roT roB (zs.map fun z => D.tup [rwD z.1, .bl z.2]) (envT s acc x5 x6 x7 x8 x9 x10 x11 x12) st = some (.nx (envT s (acc ++ zs.map fun z => D.str (W (ln (wst z.1 z.2)))) y5 y6 y7 x8 x9 x10 x11 x12), st)
  | [], _, acc, _, x5, x6, x7 => ⟨x5, x6, x7, by simp⟩
  | z :: zs, hz, acc, hl, x5, x6, x7 => by
    rw [List.length_cons] at hl
    obtain ⟨y7, h1⟩ := ro_turn ok st (hz z List.mem_cons_self) z.2 acc (by omega) x7 x8 x9 x10 x11 x12
    obtain ⟨z5, z6, z7, h2⟩ := ro_loop x8 x9 x10 x11 x12 zs (fun y hy => hz y (List.mem_cons_of_mem _ hy)) (acc ++ [.str (W (ln (wst z.1 z.2)))]) (by simp; omega) (.val (rwD z.1)) (.val (.bl z.2)) y7
    refine ⟨z5, z6, z7, ?_⟩
    have et : roT (D.tup [rwD z.1, .bl z.2]) (envT s acc x5 x6 x7 x8 x9 x10 x11 x12) = some (envT s acc (.val (rwD z.1)) (.val (.bl z.2)) x7 x8 x9 x10 x11 x12) := rfl
    rw [List.map_cons, v_forL, et, Option.bind_some, h1, Option.bind_some, List.map_cons, show acc ++ D.str (W (ln (wst z.1 z.2))) :: zs.map (fun z => D.str (W (ln (wst z.1 z.2)))) = acc ++ [D.str (W (ln (wst z.1 z.2)))] ++ zs.map (fun z => D.str (W (ln (wst z.1 z.2)))) by simp]
    exact h2
noncomputable def cuB : MS := (appM 4 (m1M joinM (cst (.str " ")) (frz (lstM (aCons (cst (.str "cut")) (aCons (cbM strIntM (aCons (rd 8) aNil)) (aCons (cbM strIntM (aCons (rd 9) aNil)) (aCons (ifM (tstM (opM neM (rd 10) (cst (.str "")))) (rd 10) (cst (.str "-"))) aNil))))))))
theorem cu_turn {c : Nat × Nat × List Nat} (hc : c ∈ s.cuts) (acc : List D) (ha : acc.length ≤ 1000) (x5 x6 x7 x11 x12 : Sl) : cuB (envT s acc x5 x6 x7 (.val (nD c.1)) (.val (nD c.2.1)) (.val (.str (W c.2.2))) x11 x12) st = some (.nx (envT s (acc ++ [.str (W (ln (wcu c)))]) x5 x6 x7 (.val (nD c.1)) (.val (nD c.2.1)) (.val (.str (W c.2.2))) x11 x12), st) := by
  obtain ⟨h1, h2, _⟩ := ok.cu c hc
  have hu2 := ok.u2
  have b1 := strInt_of (f := rd 8) (env := envT s acc x5 x6 x7 (.val (nD c.1)) (.val (nD c.2.1)) (.val (.str (W c.2.2))) x11 x12) (st := st) (s1 := st) (n := c.1) rfl (by omega)
  have b2 := strInt_of (f := rd 9) (env := envT s acc x5 x6 x7 (.val (nD c.1)) (.val (nD c.2.1)) (.val (.str (W c.2.2))) x11 x12) (st := st) (s1 := st) (n := c.2.1) rfl (by omega)
  have b3 : ifM (tstM (opM neM (rd 10) (cst (.str "")))) (rd 10) (cst (.str "-")) (envT s acc x5 x6 x7 (.val (nD c.1)) (.val (nD c.2.1)) (.val (.str (W c.2.2))) x11 x12) st = some (.str (W (clg c.2.2)), st) := by
    have t1 := Lm.tst_of (ne_W (f := rd 10) (env := envT s acc x5 x6 x7 (.val (nD c.1)) (.val (nD c.2.1)) (.val (.str (W c.2.2))) x11 x12) (st := st) (s1 := st) (a := c.2.2) rfl (str_of empty_W))
    unfold clg
    by_cases hc : c.2.2 = []
    · rw [decide_eq_true hc] at t1
      rw [if_pos hc]
      exact if_f t1 (str_of s_dash)
    · rw [decide_eq_false hc] at t1
      rw [if_neg hc]
      exact if_t t1 rfl
  have a1 := Lm.lst_of (Lm.cons_of (str_of (env := envT s acc x5 x6 x7 (.val (nD c.1)) (.val (nD c.2.1)) (.val (.str (W c.2.2))) x11 x12) (st := st) s_cut) (Lm.cons_of b1 (Lm.cons_of b2 (Lm.cons_of b3 v_aNil)))) (by simp)
  obtain ⟨w1, w2⟩ := wcu_wd ok hc
  have a2 := ln_of (ws := wcu c) a1 w1 w2
  unfold cuB
  rw [app_of (ds := acc) rfl (by omega) a2]; rfl
noncomputable abbrev cuT : MG := (tupT 3 (consT (nameT 8) (consT (nameT 9) (consT (nameT 10) nilT))))
theorem cu_loop (x5 x6 x7 x11 x12 : Sl) : ∀ (cs : List (Nat × Nat × List Nat)), (∀ c ∈ cs, c ∈ s.cuts) → ∀ (acc : List D), acc.length + cs.length ≤ 1000 → ∀ (x8 x9 x10 : Sl), ∃ y8 y9 y10,
    forL cuT cuB (cs.map cuD) (envT s acc x5 x6 x7 x8 x9 x10 x11 x12) st = some (.nx (envT s (acc ++ cs.map fun c => D.str (W (ln (wcu c)))) x5 x6 x7 y8 y9 y10 x11 x12), st)
  | [], _, acc, _, x8, x9, x10 => ⟨x8, x9, x10, by simp⟩
  | c :: cs, hc, acc, hl, x8, x9, x10 => by
    rw [List.length_cons] at hl
    have h1 := cu_turn ok st (hc c List.mem_cons_self) acc (by omega) x5 x6 x7 x11 x12
    obtain ⟨z8, z9, z10, h2⟩ := cu_loop x5 x6 x7 x11 x12 cs (fun y hy => hc y (List.mem_cons_of_mem _ hy)) (acc ++ [.str (W (ln (wcu c)))]) (by simp; omega) (.val (nD c.1)) (.val (nD c.2.1)) (.val (.str (W c.2.2)))
    refine ⟨z8, z9, z10, ?_⟩
    have et : cuT (cuD c) (envT s acc x5 x6 x7 x8 x9 x10 x11 x12) = some (envT s acc x5 x6 x7 (.val (nD c.1)) (.val (nD c.2.1)) (.val (.str (W c.2.2))) x11 x12) := rfl
    rw [List.map_cons, v_forL, et, Option.bind_some, h1, Option.bind_some, List.map_cons, show acc ++ D.str (W (ln (wcu c))) :: cs.map (fun c => D.str (W (ln (wcu c)))) = acc ++ [D.str (W (ln (wcu c)))] ++ cs.map (fun c => D.str (W (ln (wcu c)))) by simp]
    exact h2
theorem ltxt_ok : m__law_text [smD s] st = some (.str (W (txt s)), st) := by
  have hb : b__law_text = (seqM (asgM (tupT 3 (consT (nameT 1) (consT (nameT 2) (consT (nameT 3) nilT)))) (rd 0))
 (seqM (ownM 4 (lstM (aCons (opM addM (cst (.str "letters ")) (slM slAny (cst (.str "abcd")) noP (prt (opM subD (rd 1) (cst (.int 0)))))) aNil)))
 (seqM (forM (zipI (opM subD (rd 1) (cst (.int 1))) (opM subD (rd 1) (cst (.int 2)))) roT roB)
 (seqM (ownM 4 (opF lstCat (rdW 4) (frz (compM (seqI (rd 2)) (nameT 8) yesM (m1M joinM (cst (.str " ")) (opM addM (frz (lstM (aCons (cst (.str "unit")) aNil))) (frz (compM (seqI (rd 8)) (nameT 12) yesM (cbM strIntM (aCons (rd 12) aNil)) [12])))) [8]))))
 (seqM (forM (seqI (rd 3)) cuT cuB)
 (retM (m1M joinM (cst (.str "\n")) (rdW 4)))))))) := rfl
  have hr8 := ok.r8
  have hu2 := ok.u2
  have hc3 := ok.c3
  refine Lm.run_of ?_
  show b__law_text [.val (smD s), .un, .un, .un, .un, .un, .un, .un, .un, .un, .un, .un, .un] st = _
  rw [hb]
  have e0 : asgM (tupT 3 (consT (nameT 1) (consT (nameT 2) (consT (nameT 3) nilT)))) (rd 0) [.val (smD s), .un, .un, .un, .un, .un, .un, .un, .un, .un, .un, .un, .un] st = some (.nx [.val (smD s), .val (kiD s), .val (.tup (s.units.map unD)), .val (.tup (s.cuts.map cuD)), .un, .un, .un, .un, .un, .un, .un, .un, .un], st) := rfl
  rw [Lm.seq_nx e0]
  have l1 := letters_of ok (i := 1) (env := [.val (smD s), .val (kiD s), .val (.tup (s.units.map unD)), .val (.tup (s.cuts.map cuD)), .un, .un, .un, .un, .un, .un, .un, .un, .un]) (st := st) rfl
  have l2 : lstM (aCons (opM addM (cst (.str "letters ")) (slM slAny (cst (.str "abcd")) noP (prt (opM subD (rd 1) (cst (.int 0)))))) aNil) [.val (smD s), .val (kiD s), .val (.tup (s.units.map unD)), .val (.tup (s.cuts.map cuD)), .un, .un, .un, .un, .un, .un, .un, .un, .un] st = some ([D.str (W (ln (wle s.k)))], st) := by
    rw [v_lstM, Lm.cons_of l1 v_aNil, Option.bind_some]
    exact grd_of (show 1 ≤ 1000000 by decide)
  rw [Lm.seq_nx (Lm.own_nx l2)]
  show seqM _ _ (envT s [D.str (W (ln (wle s.k)))] .un .un .un .un .un .un .un .un) st = _
  obtain ⟨_, k1, k2⟩ := at3 (f := rd 1) (env := envT s [D.str (W (ln (wle s.k)))] .un .un .un .un .un .un .un .un) (st := st) (d0 := nD s.k) (d1 := .tup (s.rows.map rwD)) (d2 := .tup (s.ends.map D.bl)) rfl
  have z1 := zip_of k1 k2
  rw [zipD_map] at z1
  obtain ⟨y5, y6, y7, f1⟩ := ro_loop ok st .un .un .un .un .un (s.rows.zip s.ends) (fun z hz => (List.of_mem_zip hz).1) [D.str (W (ln (wle s.k)))] (by simp; omega) .un .un .un
  rw [Lm.seq_nx (forM_of' z1 f1)]
  obtain ⟨L1, hL1⟩ : ∃ L1, L1 = [D.str (W (ln (wle s.k)))] ++ (s.rows.zip s.ends).map fun z => D.str (W (ln (wst z.1 z.2))) := ⟨_, rfl⟩
  have hL1l : L1.length ≤ 9 := by rw [hL1]; simp; omega
  rw [← hL1]
  have c2 := comp_map (F := unD) (G := fun us => D.str (W (ln (wun us)))) (it := seqI (rd 2)) (t := nameT 8) (f := m1M joinM (cst (.str " ")) (opM addM (frz (lstM (aCons (cst (.str "unit")) aNil))) (frz (compM (seqI (rd 8)) (nameT 12) yesM (cbM strIntM (aCons (rd 12) aNil)) [12])))) (vs := [8]) (st := st)
    (env := envT s L1 y5 y6 y7 .un .un .un .un .un) (env1 := envT s L1 y5 y6 y7 .un .un .un .un .un) (en := fun us => envT s L1 y5 y6 y7 (.val (unD us)) .un .un .un .un) (l := s.units) rfl (by omega) rfl
    (fun us hu => ⟨rfl, unl_of ok hu (fun n => ⟨_, rfl, rfl⟩) rfl rfl⟩)
  have a2 : opF lstCat (rdW 4) (frz (compM (seqI (rd 2)) (nameT 8) yesM (m1M joinM (cst (.str " ")) (opM addM (frz (lstM (aCons (cst (.str "unit")) aNil))) (frz (compM (seqI (rd 8)) (nameT 12) yesM (cbM strIntM (aCons (rd 12) aNil)) [12])))) [8])) (envT s L1 y5 y6 y7 .un .un .un .un .un) st = some (L1 ++ s.units.map fun us => D.str (W (ln (wun us))), st) := by
    unfold opF
    show (((frz _) (envT s L1 y5 y6 y7 .un .un .un .un .un) st).bind fun q => (lstCat (dr q.2 (.lst L1)) (dr q.2 q.1)).map fun z => (z, q.2)) = _
    rw [c2, Option.bind_some]
    show ((if L1.length + (s.units.map fun us => D.str (W (ln (wun us)))).length ≤ sizeLine then some (L1 ++ s.units.map fun us => D.str (W (ln (wun us)))) else none).map fun z => (z, st)) = _
    rw [if_pos (Nat.le_trans (show _ ≤ 1000 by rw [List.length_map]; omega) (by decide))]; rfl
  rw [Lm.seq_nx (Lm.own_nx a2)]
  obtain ⟨L2, hL2⟩ : ∃ L2, L2 = L1 ++ s.units.map fun us => D.str (W (ln (wun us))) := ⟨_, rfl⟩
  have hL2l : L2.length ≤ 11 := by rw [hL2]; simp; omega
  show seqM _ _ (envT s (L1 ++ s.units.map fun us => D.str (W (ln (wun us)))) y5 y6 y7 .un .un .un .un .un) st = _
  rw [← hL2]
  obtain ⟨y8, y9, y10, f2⟩ := cu_loop ok st y5 y6 y7 .un .un s.cuts (fun c hc => hc) L2 (by omega) .un .un .un
  rw [Lm.seq_nx (forM_of' (show seqI (rd 3) (envT s L2 y5 y6 y7 .un .un .un .un .un) st = some (s.cuts.map cuD, st) from rfl) f2)]
  have ew : L2 ++ s.cuts.map (fun c => D.str (W (ln (wcu c)))) = ((wls s).map ln).map fun p => D.str (W p) := by
    rw [hL2, hL1]
    unfold wls
    simp [Function.comp_def]
  rw [ew]
  exact Lm.ret_of (txt_of ok rfl)
end
end Lw

set_option Elab.async false
set_option linter.all false
set_option maxRecDepth 100000
set_option maxHeartbeats 2000000
namespace Lw
open PySem MD L2 Lc
variable {ww : WW}
/-! ### what is made of signs -/
theorem signs_of {f : ME} {env : Sg} {st s1 : S} {w : List Nat} (h : f env st = some (.str (W w), s1)) : seqI f env st = some (w.map fun c => D.str (W [c]), s1) := by
  have e : seqOf (.str (W w)) = some (w.map fun c => D.str (W [c])) := by
    show some ((signs (W w)).map D.str) = _
    rw [W_signs, List.map_map]; rfl
  rw [v_seqI, h, Option.bind_some, e]; rfl
theorem notin_W {f h : ME} {env : Sg} {st s1 s2 : S} {c : Nat} {w : List Nat} (h1 : f env st = some (.str (W [c]), s1)) (h2 : h env s1 = some (.str (W w), s2)) : opM (cntD true) f h env st = some (.bl (!decide (c ∈ w)), s2) := by
  rw [v_opM, h1, Option.bind_some, h2, Option.bind_some, dr_str, dr_str]
  show ((notInSign (.str (W [c])) (.str (W w))).map _) = _
  show (((signOf (W [c])).map fun c => D.bl (!decide (c ∈ (W w).cps.toList))).map _) = _
  have e : signOf (W [c]) = some c := by
    unfold signOf
    rw [W_list]
  rw [e, W_list]; rfl
theorem in_W {f h : ME} {env : Sg} {st s1 s2 : S} {c : Nat} {w : List Nat} (h1 : f env st = some (.str (W [c]), s1)) (h2 : h env s1 = some (.str (W w), s2)) : opM (cntD false) f h env st = some (.bl (decide (c ∈ w)), s2) := by
  rw [v_opM, h1, Option.bind_some, h2, Option.bind_some, dr_str, dr_str]
  show ((inSign (.str (W [c])) (.str (W w))).map _) = _
  show (((signOf (W [c])).map fun c => D.bl (decide (c ∈ (W w).cps.toList))).map _) = _
  have e : signOf (W [c]) = some c := by
    unfold signOf
    rw [W_list]
  rw [e, W_list]; rfl
theorem eqnil_of {f : ME} {env : Sg} {st s1 : S} {ds : List D} (h : f env st = some (.lst ds, s1)) (hn : ∀ d ∈ ds, Nice d) : opM eqM f (frz (lstM aNil)) env st = some (.bl ds.isEmpty, s1) := by
  have hl : frz (lstM aNil) env s1 = some (.lst [], s1) := Lm.lst_of v_aNil (by simp)
  rw [v_opM, h, Option.bind_some, hl, Option.bind_some, dr_lst, dr_lst, eq_nil hn]; rfl
theorem nenil_of {f : ME} {env : Sg} {st s1 : S} {ds : List D} (h : f env st = some (.lst ds, s1)) (hn : ∀ d ∈ ds, Nice d) : opM neM f (frz (lstM aNil)) env st = some (.bl (!ds.isEmpty), s1) := by
  have hl : frz (lstM aNil) env s1 = some (.lst [], s1) := Lm.lst_of v_aNil (by simp)
  rw [v_opM, h, Option.bind_some, hl, Option.bind_some, dr_lst, dr_lst, ne_nil hn]; rfl
theorem ch_of {f h k : ME} {env : Sg} {st : S} {a b c : Int} (h1 : f env st = some (.int a, st)) (h2 : h env st = some (.int b, st)) (h3 : k env st = some (.int c, st)) : chM leM leM f h k env st = some (.bl (decide (a ≤ b ∧ b ≤ c)), st) := by
  rw [v_chM, h1, Option.bind_some, h2, Option.bind_some]
  show ((leM (.int a) (.int b)).bind _) = _
  show (if decide (a ≤ b) = true then (k env st).bind fun r => (leM (.int b) r.1).map fun z => (z, r.2) else some (D.bl false, st)) = _
  by_cases hab : a ≤ b
  · rw [if_pos (decide_eq_true hab), h3, Option.bind_some]
    show some (D.bl (decide (b ≤ c)), st) = _
    by_cases hbc : b ≤ c
    · rw [decide_eq_true hbc, decide_eq_true ⟨hab, hbc⟩]
    · rw [decide_eq_false hbc, decide_eq_false fun z => hbc z.2]
  · rw [if_neg (by rw [decide_eq_false hab]; decide), decide_eq_false fun z => hab z.1]
theorem andV_of {f h : ME} {env : Sg} {st s1 : S} {a b : Bool} (h1 : f env st = some (.bl a, s1)) (h2 : a = true → h env s1 = some (.bl b, s1)) : andV f h env st = some (.bl (a && b), s1) := by
  cases a
  · simp [h1]
  · simp [h1, h2 rfl]
theorem orV_of {f h : ME} {env : Sg} {st s1 : S} {a b : Bool} (h1 : f env st = some (.bl a, s1)) (h2 : a = false → h env s1 = some (.bl b, s1)) : orV f h env st = some (.bl (a || b), s1) := by
  cases a
  · simp [h1, h2 rfl]
  · simp [h1]
def made (w sg : List Nat) (m : Nat) : Bool := decide (1 ≤ w.length ∧ w.length ≤ m) && w.all fun c => decide (c ∈ sg)
theorem nice_W {w : List Nat} (h : ∀ c ∈ w, c < 128) : Nice (.str (W w)) := Nice.strW h
theorem made_ok {w sg : List Nat} {m : Nat} (hw : ∀ c ∈ w, c < 128) (hl : w.length ≤ 1000) (st : S) : m_is_made_of [.str (W w), .str (W sg), nD m] st = some (.bl (made w sg m), st) := by
  have hb : b_is_made_of = (retM (andV (chM leM leM (cst (.int 1)) (cbM lenA (aCons (rd 0) aNil)) (rd 2)) (opM eqM (frz (compM (seqI (rd 0)) (nameT 3) (tstM (opM (cntD true) (rd 3) (rd 1))) (rd 3) [3])) (frz (lstM aNil))))) := rfl
  refine Lm.run_of ?_
  show b_is_made_of [.val (.str (W w)), .val (.str (W sg)), .val (nD m), .un] st = _
  rw [hb]
  have c1 := ch_of (f := cst (.int 1)) (k := rd 2) (a := 1) (c := ((m : Nat) : Int)) (env := [.val (.str (W w)), .val (.str (W sg)), .val (nD m), .un]) (st := st) rfl (Lh.len_str (f := rd 0) (w := w) (s1 := st) rfl (by omega)) rfl
  have c2 := comp_fil (F := fun c => D.str (W [c])) (G := fun c => D.str (W [c])) (it := seqI (rd 0)) (t := nameT 3) (c := tstM (opM (cntD true) (rd 3) (rd 1))) (f := rd 3) (q := fun c => !decide (c ∈ sg)) (vs := [3]) (st := st)
    (env := [.val (.str (W w)), .val (.str (W sg)), .val (nD m), .un]) (env1 := [.val (.str (W w)), .val (.str (W sg)), .val (nD m), .un]) (en := fun c => [.val (.str (W w)), .val (.str (W sg)), .val (nD m), .val (.str (W [c]))]) (l := w) (signs_of rfl) (by omega) rfl
    (fun c hc => ⟨rfl, Lm.tst_of (notin_W (s1 := st) rfl rfl), rfl⟩)
  have c3 := eqnil_of c2 fun d hd => by
    obtain ⟨c, hc, rfl⟩ := List.mem_map.mp hd
    exact nice_W fun x hx => by
      have : x = c := by simpa using hx
      rw [this]; exact hw c (List.mem_filter.mp hc).1
  have e1 : decide ((1 : Int) ≤ ((w.length : Nat) : Int) ∧ ((w.length : Nat) : Int) ≤ ((m : Nat) : Int)) = decide (1 ≤ w.length ∧ w.length ≤ m) := by
    rw [Bool.eq_iff_iff, decide_eq_true_iff, decide_eq_true_iff]
    omega
  rw [e1] at c1
  have e2 : ((w.filter fun c => !decide (c ∈ sg)).map fun c => D.str (W [c])).isEmpty = w.all fun c => decide (c ∈ sg) := by
    rw [Bool.eq_iff_iff, List.isEmpty_iff, List.map_eq_nil_iff, List.filter_eq_nil_iff, List.all_eq_true]
    simp
  rw [e2] at c3
  exact Lm.ret_of (andV_of c1 fun _ => c3)
abbrev figs : List Nat := (List.range 10).map (48 + ·)
def isFig (w : List Nat) : Bool := made w figs 9 && (decide (w = [48]) || !decide (w.head? = some 48))
theorem head_W {f : ME} {env : Sg} {st : S} {c : Nat} {w : List Nat} (h : f env st = some (.str (W (c :: w)), st)) (hl : w.length ≤ 1000) : opM subD f (cst (.int 0)) env st = some (.str (W [c]), st) :=
  Lh.sub_of (x := .str (W (c :: w))) (y := .int 0) h rfl (fun s => rfl) (fun s => rfl) (by
    rw [v_subS, v_ixS, grd_of (by rw [W_len, List.length_cons]; omega), W_list]
    show ((L2.atI (c :: w) 0).map _) = _
    rw [atI_nn (by omega)]; rfl)
theorem fig_ok {w : List Nat} (hw : ∀ c ∈ w, c < 128) (hl : w.length ≤ 1000) (st : S) : m_is_figures [.str (W w), nD 9] st = some (.bl (isFig w), st) := by
  have hb : b_is_figures = (retM (andV (callM m_is_made_of (aCons (rd 0) (aCons (cst (.str "0123456789")) (aCons (rd 1) aNil)))) (orV (opM eqM (rd 0) (cst (.str "0"))) (opM neM (opM subD (rd 0) (cst (.int 0))) (cst (.str "0")))))) := rfl
  refine Lm.run_of ?_
  show b_is_figures [.val (.str (W w)), .val (nD 9)] st = _
  rw [hb]
  have c1 := Lm.call_of (Lm.cons_of (f := rd 0) (env := [.val (.str (W w)), .val (nD 9)]) (st := st) (s1 := st) rfl (Lm.cons_of (str_of s_figs) (Lm.cons_of (f := rd 1) (s1 := st) rfl v_aNil))) (made_ok (sg := figs) (m := 9) hw hl st)
  refine Lm.ret_of (andV_of c1 fun hm => ?_)
  have hne : w ≠ [] := fun e => by
    rw [e] at hm
    revert hm
    decide
  obtain ⟨c, w', rfl⟩ := List.exists_cons_of_ne_nil hne
  refine orV_of (eq_W (f := rd 0) (env := [.val (.str (W (c :: w'))), .val (nD 9)]) (st := st) (s1 := st) rfl (str_of s_zero)) fun _ => ?_
  have h1 := ne_W (head_W (f := rd 0) (env := [.val (.str (W (c :: w'))), .val (nD 9)]) (st := st) rfl (by rw [List.length_cons] at hl; omega)) (str_of s_zero)
  rw [h1]
  have : decide ([c] = [48]) = decide ((c :: w').head? = some 48) := by
    rw [Bool.eq_iff_iff, decide_eq_true_iff, decide_eq_true_iff]
    simp
  rw [this]
theorem fig_num {n : Nat} (h : n ≤ 20) : isFig (TL.numL n) = true := by
  have hd := TL.numL_digits n
  have h2 := num2 h
  have hne := TL.numL_ne n
  have hl : 1 ≤ (TL.numL n).length := List.length_pos_iff.mpr hne
  unfold isFig made
  rw [decide_eq_true (show 1 ≤ (TL.numL n).length ∧ (TL.numL n).length ≤ 9 from ⟨hl, by omega⟩), Bool.true_and]
  have ha : ((TL.numL n).all fun c => decide (c ∈ figs)) = true := by
    rw [List.all_eq_true]
    intro c hc
    have := hd c hc
    exact decide_eq_true (List.mem_map.mpr ⟨c - 48, List.mem_range.mpr (by omega), by omega⟩)
  rw [ha, Bool.true_and]
  by_cases h10 : n < 10
  · rw [TL.numL_lt h10]
    by_cases h0 : n = 0
    · rw [h0]; decide
    · have : ¬ ([48 + n].head? = some 48) := by
        show ¬ (some (48 + n) = some 48)
        intro e
        injection e with e
        omega
      rw [decide_eq_false this]
      simp
  · rw [TL.numL_step (by omega), TL.numL_lt (n := n / 10) (by omega)]
    have : ¬ (([48 + n / 10] ++ [48 + n % 10]).head? = some 48) := by
      show ¬ (some (48 + n / 10) = some 48)
      intro e
      injection e with e
      omega
    rw [decide_eq_false this]
    simp
theorem num_ne {n : Nat} {w : List Nat} (h : ∀ c ∈ w, ¬ (48 ≤ c ∧ c ≤ 57)) : TL.numL n ≠ w := fun e => by
  have h1 := TL.numL_digits n
  have hne := TL.numL_ne n
  rw [e] at h1 hne
  obtain ⟨c, w', rfl⟩ := List.exists_cons_of_ne_nil hne
  have a := h1 c List.mem_cons_self
  exact h c List.mem_cons_self (by omega)
/-! ### items -/
noncomputable def ioC : MT := (andM (tstM (opM neM (rd 2) (rd 1))) (notM (truM (callM m_is_figures (aCons (rd 2) (aCons (cst (.int 9)) aNil))))))
noncomputable def ioE : ME := (ifM (tstM (opM eqM (rd 2) (rd 1))) (cst .non) (cbM intSM (aCons (rd 2) aNil)))
/-- words of items; no number is the word for nothing -/
theorem items_ok {os : List (Option Nat)} {no : List Nat} (hno : ∀ c ∈ no, ¬ (48 ≤ c ∧ c ≤ 57)) (h1 : 1 ≤ os.length) (h4 : os.length ≤ 4) (hn : ∀ n, some n ∈ os → n ≤ 20) (F : Option Nat → List Nat) (hF : ∀ o ∈ os, F o = match o with | some n => TL.numL n | none => no) (h128 : ∀ c ∈ no, c < 128) (st : S) :
    m_items_of [.lst (os.map fun o => .str (W (F o))), .str (W no)] st = some (.tup (os.map oD), st) := by
  have hb : b_items_of = (seqM (ifS (notM (tstM (chM leM leM (cst (.int 1)) (cbM lenA (aCons (rd 0) aNil)) (cbM lenA (aCons (cst (.str "abcd")) aNil)))))
 (retM (cst .non))
 nxM)
 (seqM (ifS (tstM (opM neM (frz (compM (seqI (rd 0)) (nameT 2) ioC (rd 2) [2])) (frz (lstM aNil))))
 (retM (cst .non))
 nxM)
 (retM (cbM tupleM (aCons (frz (compM (seqI (rd 0)) (nameT 2) yesM ioE [2])) aNil))))) := rfl
  refine Lm.run_of ?_
  show b_items_of [.val (.lst (os.map fun o => .str (W (F o)))), .val (.str (W no)), .un] st = _
  rw [hb]
  obtain ⟨E, hE⟩ : ∃ E : Sl → Sg, E = fun x => [.val (.lst (os.map fun o => D.str (W (F o)))), .val (.str (W no)), x] := ⟨_, rfl⟩
  have hlen : cbM lenA (aCons (rd 0) aNil) (E .un) st = some (.int ((os.length : Nat) : Int), st) := by
    rw [hE, v_cbM, Lm.cons_of (f := rd 0) (s1 := st) (d := .lst (os.map fun o => D.str (W (F o)))) rfl v_aNil, Option.bind_some]
    show some (D.int (((os.map fun o => D.str (W (F o))).length : Nat) : Int), st) = _
    rw [List.length_map]
  have hlen4 : cbM lenA (aCons (cst (.str "abcd")) aNil) (E .un) st = some (.int 4, st) := by
    have := Lh.len_str (f := cst (.str "abcd")) (env := E .un) (st := st) (s1 := st) (w := ltr 4) (by rw [s_abcd]; rfl) (by simp)
    exact this
  have c1 := ch_of (f := cst (.int 1)) (a := 1) (env := E .un) (st := st) rfl hlen hlen4
  rw [decide_eq_true (by omega)] at c1
  have t1 := Lh.not_of (Lm.tst_of c1)
  have cell : ∀ o ∈ os, rd 2 (E (.val (.str (W (F o))))) st = some (.str (W (F o)), st) ∧ rd 1 (E (.val (.str (W (F o))))) st = some (.str (W no), st) := fun o _ => by
    rw [hE]; exact ⟨rfl, rfl⟩
  have eqF : ∀ o ∈ os, decide (F o = no) = o.isNone := fun o ho => by
    rw [hF o ho]
    cases o with
    | none => exact decide_eq_true rfl
    | some n => exact decide_eq_false (num_ne hno)
  have c2 := comp_fil (F := fun o => D.str (W (F o))) (G := fun o => D.str (W (F o))) (it := seqI (rd 0)) (t := nameT 2) (c := ioC) (f := rd 2) (q := fun _ => false) (vs := [2]) (st := st) (env := E .un) (env1 := E .un) (en := fun o => E (.val (.str (W (F o))))) (l := os)
    (by rw [hE]; rfl) (by omega) (by rw [hE]; rfl) (fun o ho => ⟨by rw [hE]; rfl, by
      have t1 := Lm.tst_of (ne_W (cell o ho).1 (cell o ho).2)
      rw [eqF o ho] at t1
      unfold ioC
      cases ho2 : o with
      | none =>
        rw [ho2] at t1
        exact Lh.and_f t1
      | some n =>
        rw [ho2] at t1 ho
        have hn20 := hn n ho
        have f1 := fig_ok (w := TL.numL n) (fun c hc => by have := TL.numL_digits n c hc; omega) (by have := num2 hn20; omega) st
        rw [fig_num hn20] at f1
        have eF := hF (some n) ho
        have f2 := Lm.call_of (m := m_is_figures) (Lm.cons_of (cell (some n) ho).1 (Lm.cons_of (f := cst (.int 9)) (d := nD 9) (s1 := st) rfl v_aNil)) (by rw [eF]; exact f1)
        exact Lh.and_t t1 (Lh.not_of (Lh.tru_of f2)), (cell o ho).1⟩)
  rw [List.filter_eq_nil_iff.mpr (by simp)] at c2
  have t2 := Lm.tst_of (nenil_of c2 (by intro d hd; cases hd))
  have c3 := comp_map (F := fun o => D.str (W (F o))) (G := oD) (it := seqI (rd 0)) (t := nameT 2) (f := ioE) (vs := [2]) (st := st) (env := E .un) (env1 := E .un) (en := fun o => E (.val (.str (W (F o))))) (l := os)
    (by rw [hE]; rfl) (by omega) (by rw [hE]; rfl) (fun o ho => ⟨by rw [hE]; rfl, by
      have t1 := Lm.tst_of (eq_W (cell o ho).1 (cell o ho).2)
      rw [eqF o ho] at t1
      unfold ioE
      cases ho2 : o with
      | none =>
        rw [ho2] at t1
        exact if_t t1 rfl
      | some n =>
        rw [ho2] at t1 ho
        have hn20 := hn n ho
        have eF : F (some n) = TL.numL n := hF (some n) ho
        have h2 := (cell (some n) ho).1
        rw [eF] at h2
        refine if_f t1 ?_
        rw [eF]
        exact intS_of h2 (by omega)⟩)
  rw [show ([.val (.lst (os.map fun o => .str (W (F o)))), .val (.str (W no)), .un] : Sg) = E .un by rw [hE]]
  rw [Lm.seq_nx (Lm.ifs_f t1 v_nxM), Lm.seq_nx (Lm.ifs_f t2 v_nxM)]
  refine Lm.ret_of ?_
  rw [v_cbM, Lm.cons_of c3 v_aNil, Option.bind_some]; rfl
/-! ### letters that cling -/
theorem clings_ok {cl : List Nat} (h4 : cl.length ≤ 4) (hl : ∀ c ∈ cl, c ∈ ltr 4) (st : S) : m_are_clings [.str (W (clg cl))] st = some (.bl true, st) := by
  have hb : b_are_clings = (retM (orV (opM eqM (rd 0) (cst (.str "-"))) (callM m_is_made_of (aCons (rd 0) (aCons (cst (.str "abcd")) (aCons (cst (.int 9)) aNil)))))) := rfl
  refine Lm.run_of ?_
  show b_are_clings [.val (.str (W (clg cl)))] st = _
  rw [hb]
  have c1 := eq_W (f := rd 0) (env := [.val (.str (W (clg cl)))]) (st := st) (s1 := st) rfl (str_of s_dash)
  have hd : decide (clg cl = [45]) = decide (cl = []) := by
    unfold clg
    by_cases h : cl = []
    · rw [if_pos h, decide_eq_true h]; rfl
    · rw [if_neg h, decide_eq_false h]
      refine decide_eq_false fun e => ?_
      have := ltr_mem (hl 45 (by rw [e]; simp))
      omega
  rw [hd] at c1
  refine Lm.ret_of ((orV_of (b := true) c1 fun hf => ?_).trans (by rw [Bool.or_true]))
  have hne : cl ≠ [] := of_decide_eq_false hf
  have ec : clg cl = cl := if_neg hne
  rw [ec]
  have m1 := made_ok (w := cl) (sg := ltr 4) (m := 9) (fun c hc => by have := ltr_mem (hl c hc); omega) (by omega) st
  have em : made cl (ltr 4) 9 = true := by
    unfold made
    have : 1 ≤ cl.length := List.length_pos_iff.mpr hne
    rw [decide_eq_true (show 1 ≤ cl.length ∧ cl.length ≤ 9 by omega), Bool.true_and, List.all_eq_true]
    exact fun c hc => decide_eq_true (hl c hc)
  rw [em] at m1
  exact Lm.call_of (Lm.cons_of (f := rd 0) (s1 := st) rfl (Lm.cons_of (str_of s_abcd) (Lm.cons_of (f := cst (.int 9)) (d := nD 9) (s1 := st) rfl v_aNil))) m1
theorem clingsof_ok {cl : List Nat} (hl : ∀ c ∈ cl, c ∈ ltr 4) (st : S) : m_clings_of [.str (W (clg cl))] st = some (.str (W cl), st) := by
  have hb : b_clings_of = (retM (ifM (tstM (opM eqM (rd 0) (cst (.str "-")))) (cst (.str "")) (rd 0))) := rfl
  refine Lm.run_of ?_
  show b_clings_of [.val (.str (W (clg cl)))] st = _
  rw [hb]
  have c1 := Lm.tst_of (eq_W (f := rd 0) (env := [.val (.str (W (clg cl)))]) (st := st) (s1 := st) rfl (str_of s_dash))
  refine Lm.ret_of ?_
  by_cases h : cl = []
  · subst h
    exact if_t c1 (str_of empty_W)
  · have ec : clg cl = cl := if_neg h
    rw [ec] at c1 ⊢
    rw [decide_eq_false fun e => by
      have := ltr_mem (hl 45 (by rw [e]; simp))
      omega] at c1
    exact if_f c1 rfl
end Lw

set_option Elab.async false
set_option linter.all false
set_option maxRecDepth 100000
set_option maxHeartbeats 1000000
namespace Lw
open PySem MD L2
/-! ### dicts with nested keys as lists of pairs -/
section
variable {P V : Type} [DecidableEq P]
def lk (al : List (P × V)) (p : P) : Option V := match al with
  | [] => none
  | z :: r => if z.1 = p then some z.2 else lk r p
def ups (al : List (P × V)) (p : P) (v : V) : List (P × V) := match al with
  | [] => [(p, v)]
  | z :: r => if z.1 = p then (p, v) :: r else z :: ups r p v
theorem lk_ups : ∀ (al : List (P × V)) (p : P) (v : V) (x : P), lk (ups al p v) x = if x = p then some v else lk al x
  | [], p, v, x => by
    unfold ups lk
    by_cases h : p = x
    · rw [if_pos h, if_pos h.symm]
    · rw [if_neg h, if_neg (fun e => h e.symm)]; rfl
  | z :: r, p, v, x => by
    unfold ups
    by_cases h : z.1 = p
    · rw [if_pos h]
      unfold lk
      by_cases h2 : p = x
      · rw [if_pos h2, if_pos h2.symm]
      · rw [if_neg h2, if_neg (fun e => h2 e.symm), h, if_neg h2]
    · rw [if_neg h]
      unfold lk
      by_cases h2 : z.1 = x
      · rw [if_pos h2, if_pos h2, if_neg (fun e => h (by rw [h2, e]))]
      · rw [if_neg h2, if_neg h2, lk_ups r p v x]
theorem lk_mem : ∀ {al : List (P × V)} {p : P} {v : V}, lk al p = some v → (p, v) ∈ al
  | z :: r, p, v, h => by
    unfold lk at h
    by_cases e : z.1 = p
    · rw [if_pos e] at h
      cases h
      rw [← e]; exact List.mem_cons_self
    · rw [if_neg e] at h
      exact List.mem_cons_of_mem _ (lk_mem h)
theorem lk_none : ∀ {al : List (P × V)} {p : P}, lk al p = none → p ∉ al.map (·.1)
  | [], p, _ => by simp
  | z :: r, p, h => by
    unfold lk at h
    by_cases e : z.1 = p
    · rw [if_pos e] at h; cases h
    · rw [if_neg e] at h
      rw [List.map_cons, List.mem_cons, not_or]
      exact ⟨fun q => e q.symm, lk_none h⟩
theorem ups_new : ∀ {al : List (P × V)} {p : P} (v : V), lk al p = none → ups al p v = al ++ [(p, v)]
  | [], p, v, _ => rfl
  | z :: r, p, v, h => by
    unfold lk at h
    unfold ups
    by_cases e : z.1 = p
    · rw [if_pos e] at h; cases h
    · rw [if_neg e] at h ⊢
      rw [ups_new v h]; rfl
theorem ups_len (al : List (P × V)) (p : P) (v : V) : (ups al p v).length ≤ al.length + 1 := by
  induction al with
  | nil => exact Nat.le_refl _
  | cons z r ih =>
    unfold ups
    split
    · simp
    · simp only [List.length_cons]; omega
/-- how keys and values are told -/
structure Nkd (kd : P → D) (kk : P → NestedKey) : Prop where
  of : ∀ p, nkOf (kd p) = some (kk p)
  tp : ∀ p, nkT (kd p) = some (kk p)
  inj : ∀ p q, kk p = kk q → p = q
  dp : ∀ p, (kk p).depth ≤ 8
variable {kd : P → D} {kk : P → NestedKey} {f : V → D}
abbrev aK (kd : P → D) (al : List (P × V)) : List D := al.map fun z => kd z.1
abbrev aV (f : V → D) (al : List (P × V)) : List D := al.map fun z => f z.2
theorem getN_al (h : Nkd kd kk) : ∀ (al : List (P × V)) (p : P), getN (aK kd al) (aV f al) (kk p) = (lk al p).map f
  | [], p => rfl
  | z :: r, p => by
    show (if nkOf (kd z.1) = some (kk p) then some (f z.2) else getN (aK kd r) (aV f r) (kk p)) = _
    unfold lk
    rw [h.of]
    by_cases e : z.1 = p
    · rw [if_pos (by rw [e]), if_pos e]; rfl
    · rw [if_neg (fun q => e (h.inj _ _ (Option.some.inj q))), if_neg e]
      exact getN_al h r p
theorem hasN_al (h : Nkd kd kk) : ∀ (al : List (P × V)) (p : P), hasN (aK kd al) (kk p) = (lk al p).isSome
  | [], p => rfl
  | z :: r, p => by
    show (decide (nkOf (kd z.1) = some (kk p)) || hasN (aK kd r) (kk p)) = _
    unfold lk
    rw [h.of, hasN_al h r p]
    by_cases e : z.1 = p
    · rw [if_pos e, decide_eq_true (by rw [e])]; rfl
    · rw [if_neg e, decide_eq_false (fun q => e (h.inj _ _ (Option.some.inj q)))]; rfl
theorem keys_ups (h : Nkd kd kk) : ∀ (al : List (P × V)) (p : P) (v : V), (lk al p).isSome = true → aK kd (ups al p v) = aK kd al
  | [], p, v, e => by cases e
  | z :: r, p, v, e => by
    unfold lk at e
    unfold ups
    by_cases q : z.1 = p
    · rw [if_pos q, ← q]; rfl
    · rw [if_neg q] at e ⊢
      show kd z.1 :: aK kd (ups r p v) = kd z.1 :: aK kd r
      rw [keys_ups h r p v e]
theorem vals_ups (h : Nkd kd kk) : ∀ (al : List (P × V)) (p : P) (v : V), (al.map (·.1)).Nodup → (lk al p).isSome = true →
    List.zipWith (fun x y => if nkOf x = some (kk p) then f v else y) (aK kd al) (aV f al) = aV f (ups al p v)
  | [], p, v, _, e => by cases e
  | z :: r, p, v, nd, e => by
    rw [List.map_cons] at nd
    obtain ⟨n1, n2⟩ := List.nodup_cons.mp nd
    show (if nkOf (kd z.1) = some (kk p) then f v else f z.2) :: List.zipWith _ (aK kd r) (aV f r) = _
    unfold lk at e
    unfold ups
    rw [h.of]
    by_cases q : z.1 = p
    · rw [if_pos (by rw [q]), if_pos q]
      have rest : ∀ (r : List (P × V)), p ∉ r.map (·.1) → List.zipWith (fun x y => if nkOf x = some (kk p) then f v else y) (aK kd r) (aV f r) = aV f r := fun r => by
        induction r with
        | nil => intro _; rfl
        | cons y r ih =>
          intro hn
          rw [List.map_cons, List.mem_cons, not_or] at hn
          show (if nkOf (kd y.1) = some (kk p) then f v else f y.2) :: List.zipWith _ (aK kd r) (aV f r) = _
          rw [h.of, if_neg (fun e => hn.1 (h.inj _ _ (Option.some.inj e)).symm), ih hn.2]; rfl
      rw [rest r (by rw [← q]; exact n1)]; rfl
    · rw [if_neg (fun e => q (h.inj _ _ (Option.some.inj e))), if_neg q]
      rw [if_neg q] at e
      rw [vals_ups h r p v n2 e]; rfl
theorem put_al (h : Nkd kd kk) {al : List (P × V)} (nd : (al.map (·.1)).Nodup) (p : P) (v : V) : putNK (aK kd al) (kd p) (kk p) = aK kd (ups al p v) ∧ putNV (aK kd al) (aV f al) (kk p) (f v) = aV f (ups al p v) := by
  unfold putNK putNV
  rw [hasN_al h]
  cases hs : lk al p with
  | none =>
    rw [ups_new v hs]
    simp
  | some x =>
    rw [if_pos (show (some x).isSome = true from rfl), if_pos (show (some x).isSome = true from rfl)]
    exact ⟨(keys_ups h al p v (by rw [hs]; rfl)).symm, vals_ups h al p v nd (by rw [hs]; rfl)⟩
theorem ups_nd {al : List (P × V)} (nd : (al.map (·.1)).Nodup) (p : P) (v : V) : ((ups al p v).map (·.1)).Nodup := by
  cases hs : lk al p with
  | none =>
    rw [ups_new v hs, List.map_append, List.nodup_append]
    refine ⟨nd, by simp, fun a ha b hb e => ?_⟩
    have hb : b = p := by simpa using hb
    exact lk_none hs (by rw [← hb, ← e]; exact ha)
  | some x =>
    have e : ∀ (al : List (P × V)), (lk al p).isSome = true → (ups al p v).map (·.1) = al.map (·.1) := fun al => by
      induction al with
      | nil => intro e; cases e
      | cons z r ih =>
        intro e
        unfold lk at e
        unfold ups
        by_cases q : z.1 = p
        · rw [if_pos q, ← q]; rfl
        · rw [if_neg q] at e ⊢
          rw [List.map_cons, List.map_cons, ih e]
    rw [e al (by rw [hs]; rfl)]
    exact nd
end
end Lw

set_option Elab.async false
set_option linter.all false
namespace Lg
open Lw
/-! ### the greatest sum of ways, by rounds -/
section
variable {P : Type} [DecidableEq P]
/-- a walk: the places behind its steps, the sum of its gains -/
inductive Wk (W : List (P × Int × P)) : P → List P → Int → P → Prop
  | nil (p : P) : Wk W p [] 0 p
  | cons {p q r : P} {m c : Int} {vs : List P} : (p, m, q) ∈ W → Wk W q vs c r → Wk W p (q :: vs) (m + c) r
variable {W : List (P × Int × P)}
theorem Wk.app {p q r : P} {vs us : List P} {c d : Int} (h : Wk W p vs c q) (h2 : Wk W q us d r) : Wk W p (vs ++ us) (c + d) r := by
  induction h with
  | nil p => rw [Int.zero_add]; exact h2
  | cons e _ ih => rw [Int.add_assoc]; exact .cons e (ih h2)
theorem Wk.one {p q : P} {m : Int} (h : (p, m, q) ∈ W) : Wk W p [q] m q := by
  have := Wk.cons h (.nil q)
  rwa [Int.add_zero] at this
theorem Wk.snoc {p q r : P} {vs : List P} {c m : Int} (h : Wk W p vs c q) (h2 : (q, m, r) ∈ W) : Wk W p (vs ++ [r]) (c + m) r := h.app (.one h2)
theorem Wk.unsnoc {p r : P} {vs : List P} {c : Int} (h : Wk W p vs c r) : vs ≠ [] → ∃ us q c1 m, vs = us ++ [r] ∧ Wk W p us c1 q ∧ (q, m, r) ∈ W ∧ c = c1 + m := by
  induction h with
  | nil p => intro h; exact absurd rfl h
  | @cons p q r m c vs e h1 ih =>
    intro _
    cases vs with
    | nil =>
      cases h1
      exact ⟨[], p, 0, m, rfl, .nil p, e, by omega⟩
    | cons x xs =>
      obtain ⟨us, q', c1, m', e1, e2, e3, e4⟩ := ih (by simp)
      exact ⟨q :: us, q', m + c1, m', by rw [e1]; rfl, .cons e e2, e3, by omega⟩
theorem Wk.split {p r x : P} {vs : List P} {c : Int} (h : Wk W p vs c r) : x ∈ vs → ∃ v1 v2 c1 c2, Wk W p v1 c1 x ∧ Wk W x v2 c2 r ∧ vs.length = v1.length + v2.length ∧ c = c1 + c2 ∧ v1 ≠ [] := by
  induction h with
  | nil p => intro h; cases h
  | @cons p q r m c vs e h1 ih =>
    intro hx
    by_cases hq : x = q
    · subst hq
      exact ⟨[x], vs, m, c, .one e, h1, by simp; omega, rfl, by simp⟩
    · rcases List.mem_cons.mp hx with z | z
      · exact absurd z hq
      · obtain ⟨v1, v2, c1, c2, e1, e2, e3, e4, e5⟩ := ih z
        exact ⟨q :: v1, v2, m + c1, c2, .cons e e1, e2, by simp; omega, by omega, by simp⟩
theorem Wk.dup {p r : P} {vs : List P} {c : Int} (h : Wk W p vs c r) : ¬ (p :: vs).Nodup → ∃ x v1 v2 v3 c1 c2 c3, Wk W p v1 c1 x ∧ Wk W x v2 c2 x ∧ Wk W x v3 c3 r ∧ v2 ≠ [] ∧ vs.length = v1.length + v2.length + v3.length ∧ c = c1 + c2 + c3 := by
  induction h with
  | nil p => intro h; exact absurd (by simp) h
  | @cons p q r m c vs e h1 ih =>
    intro hn
    by_cases hp : p ∈ q :: vs
    · obtain ⟨v1, v2, c1, c2, e1, e2, e3, e4, e5⟩ := (Wk.cons e h1).split hp
      exact ⟨p, [], v1, v2, 0, c1, c2, .nil p, e1, e2, e5, by rw [e3]; simp, by omega⟩
    · obtain ⟨x, v1, v2, v3, c1, c2, c3, e1, e2, e3, e4, e5, e6⟩ := ih (fun nd => hn (List.nodup_cons.mpr ⟨hp, nd⟩))
      exact ⟨x, q :: v1, v2, v3, m + c1, c2, c3, .cons e e1, e2, e3, e4, by simp; omega, by omega⟩
theorem Wk.mem {kn : List P} (hW : ∀ z ∈ W, z.1 ∈ kn ∧ z.2.2 ∈ kn) {p r : P} {vs : List P} {c : Int} (h : Wk W p vs c r) : ∀ x ∈ vs, x ∈ kn := by
  induction h with
  | nil p => intro x hx; cases hx
  | cons e _ ih =>
    intro x hx
    rcases List.mem_cons.mp hx with z | z
    · rw [z]; exact (hW _ e).2
    · exact ih x z
theorem Wk.nn (h0 : ∀ z ∈ W, 0 ≤ z.2.1) {p r : P} {vs : List P} {c : Int} (h : Wk W p vs c r) : 0 ≤ c := by
  induction h with
  | nil p => exact Int.le_refl _
  | @cons p q r m c vs e _ ih =>
    have : 0 ≤ m := h0 _ e
    omega
theorem Wk.pump {r : P} {v : List P} {c : Int} (h : Wk W r v c r) : ∀ k : Nat, ∃ u, Wk W r u ((k : Int) * c) r
  | 0 => ⟨[], by rw [show ((0 : Nat) : Int) * c = 0 by simp]; exact .nil r⟩
  | k + 1 => by
    obtain ⟨u, hu⟩ := Wk.pump h k
    refine ⟨u ++ v, ?_⟩
    have := hu.app h
    rwa [show ((k + 1 : Nat) : Int) * c = (k : Int) * c + c by rw [Int.natCast_succ, Int.add_mul, Int.one_mul]]
/-! who is alive -/
variable (W) in
def stA (al : List P) : List P := al ++ (W.filter fun z => decide (z.2.2 ∈ al) && !decide (z.1 ∈ al)).map (·.1)
variable (W) in
def alN : Nat → List P → List P
  | 0, al => al
  | k + 1, al => alN k (stA W al)
theorem alN_succ (k : Nat) : ∀ al : List P, alN W (k + 1) al = stA W (alN W k al) := by
  induction k with
  | zero => intro al; rfl
  | succ k ih => intro al; exact ih (stA W al)
theorem stA_mem {al : List P} {x : P} : x ∈ stA W al ↔ x ∈ al ∨ ∃ z ∈ W, z.1 = x ∧ z.2.2 ∈ al := by
  unfold stA
  rw [List.mem_append, List.mem_map]
  constructor
  · rintro (h | ⟨z, hz, e⟩)
    · exact .inl h
    · obtain ⟨h1, h2⟩ := List.mem_filter.mp hz
      rw [Bool.and_eq_true] at h2
      exact .inr ⟨z, h1, e, of_decide_eq_true h2.1⟩
  · rintro (h | ⟨z, hz, e, h⟩)
    · exact .inl h
    · by_cases hx : x ∈ al
      · exact .inl hx
      · exact .inr ⟨z, List.mem_filter.mpr ⟨hz, by rw [decide_eq_true h, e, decide_eq_false hx]; rfl⟩, e⟩
theorem stA_len (al : List P) : (stA W al).length ≤ al.length + W.length := by
  unfold stA
  rw [List.length_append, List.length_map]
  have := List.length_filter_le (fun z : P × Int × P => decide (z.2.2 ∈ al) && !decide (z.1 ∈ al)) W
  omega
theorem alN_len (k : Nat) (al : List P) : (alN W k al).length ≤ al.length + k * W.length := by
  induction k with
  | zero => simp [alN]
  | succ k ih =>
    rw [alN_succ, Nat.succ_mul]
    have := stA_len (W := W) (alN W k al)
    omega
theorem count_eq (A B : P → Bool) : ∀ kn : List P, (∀ x ∈ kn, A x = true → B x = true) → kn.countP A = kn.countP B → ∀ x ∈ kn, B x = true → A x = true
  | [], _, _, x, hx, _ => by cases hx
  | k :: kn, h, e, x, hx, hb => by
    have h' := fun y hy => h y (List.mem_cons_of_mem _ hy)
    have hle : kn.countP A ≤ kn.countP B := List.countP_mono_left h'
    rw [List.countP_cons, List.countP_cons] at e
    have hk := h k List.mem_cons_self
    cases ha : A k with
    | true =>
      rw [ha, hk ha] at e
      rcases List.mem_cons.mp hx with z | z
      · rw [z]; exact ha
      · exact count_eq A B kn h' (by simpa using e) x z hb
    | false =>
      cases hb' : B k with
      | true => rw [ha, hb'] at e; simp at e; omega
      | false =>
        rw [ha, hb'] at e
        rcases List.mem_cons.mp hx with z | z
        · rw [z, hb'] at hb; cases hb
        · exact count_eq A B kn h' (by simpa using e) x z hb
theorem fix_at (N : Nat) (c : Nat → Nat) (hb : ∀ j, c j ≤ N) (hm : ∀ j, c j ≤ c (j + 1)) : ∃ j, j ≤ N ∧ c j = c (j + 1) := by
  by_cases h : ∃ j, j ≤ N ∧ c j = c (j + 1)
  · exact h
  · have up : ∀ j, j ≤ N + 1 → j ≤ c j := fun j => by
      induction j with
      | zero => intro _; exact Nat.zero_le _
      | succ j ih =>
        intro hj
        have h1 := ih (by omega)
        have h2 := hm j
        have h3 : c j ≠ c (j + 1) := fun e => h ⟨j, by omega, e⟩
        omega
    have h1 := up (N + 1) (Nat.le_refl _)
    have h2 := hb (N + 1)
    omega
/-- after as many rounds as places there is nothing more -/
theorem alN_fix {kn : List P} (hW : ∀ z ∈ W, z.1 ∈ kn ∧ z.2.2 ∈ kn) (al : List P) : ∀ x ∈ kn, x ∈ stA W (alN W kn.length al) → x ∈ alN W kn.length al := by
  let c : Nat → Nat := fun j => kn.countP fun x => decide (x ∈ alN W j al)
  have mono : ∀ j x, x ∈ alN W j al → x ∈ alN W (j + 1) al := fun j x hx => by
    rw [alN_succ]; exact stA_mem.mpr (.inl hx)
  obtain ⟨j, hj, he⟩ := fix_at kn.length c (fun j => List.countP_le_length) (fun j => List.countP_mono_left fun x _ h => decide_eq_true (mono j x (of_decide_eq_true h)))
  have fj : ∀ x ∈ kn, x ∈ alN W (j + 1) al → x ∈ alN W j al := fun x hx h =>
    of_decide_eq_true (count_eq (fun x => decide (x ∈ alN W j al)) (fun x => decide (x ∈ alN W (j + 1) al)) kn (fun x _ h => decide_eq_true (mono j x (of_decide_eq_true h))) he x hx (decide_eq_true h))
  have all : ∀ i, ∀ x ∈ kn, x ∈ alN W (j + i + 1) al → x ∈ alN W (j + i) al := fun i => by
    induction i with
    | zero => exact fj
    | succ i ih =>
      intro x hx h
      rw [show j + (i + 1) + 1 = (j + i + 1) + 1 by omega, alN_succ] at h
      rcases stA_mem.mp h with h | ⟨z, hz, e, h⟩
      · exact h
      · rw [show j + (i + 1) = (j + i) + 1 by omega, alN_succ]
        exact stA_mem.mpr (.inr ⟨z, hz, e, ih z.2.2 (hW z hz).2 h⟩)
  intro x hx h
  have := all (kn.length - j) x hx
  rw [show j + (kn.length - j) = kn.length by omega, alN_succ] at this
  exact this h
/-- a place is alive: an end can be come to -/
def Alv (W : List (P × Int × P)) (E : P → Bool) (p : P) : Prop := ∃ vs c e, Wk W p vs c e ∧ E e = true
def alv (W : List (P × Int × P)) (E : P → Bool) (kn : List P) : List P := alN W kn.length (kn.filter E)
theorem alN_snd {E : P → Bool} {kn : List P} : ∀ (k : Nat) (x : P), x ∈ alN W k (kn.filter E) → Alv W E x := fun k => by
  induction k with
  | zero =>
    intro x hx
    exact ⟨[], 0, x, .nil x, (List.mem_filter.mp hx).2⟩
  | succ k ih =>
    intro x hx
    rw [alN_succ] at hx
    rcases stA_mem.mp hx with h | ⟨z, hz, e, h⟩
    · exact ih x h
    · obtain ⟨vs, c, y, h1, h2⟩ := ih _ h
      exact ⟨z.2.2 :: vs, z.2.1 + c, y, .cons (by rw [← e]; exact hz) h1, h2⟩
theorem alv_iff {E : P → Bool} {kn : List P} (hW : ∀ z ∈ W, z.1 ∈ kn ∧ z.2.2 ∈ kn) {p : P} (hp : p ∈ kn) : p ∈ alv W E kn ↔ Alv W E p := by
  refine ⟨alN_snd _ p, ?_⟩
  have base : ∀ (k : Nat) (x : P), x ∈ kn.filter E → x ∈ alN W k (kn.filter E) := fun k => by
    induction k with
    | zero => intro x h; exact h
    | succ k ih => intro x h; rw [alN_succ]; exact stA_mem.mpr (.inl (ih x h))
  rintro ⟨vs, c, e, h, he⟩
  induction h with
  | nil p => exact base _ _ (List.mem_filter.mpr ⟨hp, he⟩)
  | @cons p q r m c vs e1 _ ih =>
    have hq := (hW _ e1).2
    exact alN_fix hW _ p hp (stA_mem.mpr (.inr ⟨_, e1, rfl, ih hq he⟩))
end
end Lg

set_option Elab.async false
set_option linter.all false
namespace Lg
open Lw MD
section
variable {P : Type} [DecidableEq P] {W : List (P × Int × P)}
/-! best sums, by rounds -/
/-- what a way would make better -/
def cand (b : List (P × Int)) (al : List P) (z : P × Int × P) : Option Int :=
  match lk b z.1 with
  | some v => if z.2.2 ∈ al then if (lk b z.2.2).getD (-1) < v + z.2.1 then some (v + z.2.1) else none else none
  | none => none
def moF (b : List (P × Int)) (al : List P) : List (P × Int × P) → List (P × Int) → List (P × Int)
  | [], mo => mo
  | z :: r, mo => moF b al r (match cand b al z with | some v => ups mo z.2.2 (max ((lk mo z.2.2).getD 0) v) | none => mo)
def updA : List (P × Int) → List (P × Int) → List (P × Int)
  | b, [] => b
  | b, z :: r => updA (ups b z.1 z.2) r
theorem lk_not {al : List (P × Int)} {p : P} (h : p ∉ al.map (·.1)) : lk al p = none := by
  cases e : lk al p with
  | none => rfl
  | some v => exact absurd (List.mem_map.mpr ⟨_, lk_mem e, rfl⟩) h
theorem mem_lk : ∀ {al : List (P × Int)} {z : P × Int}, (al.map (·.1)).Nodup → z ∈ al → lk al z.1 = some z.2
  | y :: r, z, nd, h => by
    rw [List.map_cons] at nd
    obtain ⟨n1, n2⟩ := List.nodup_cons.mp nd
    unfold lk
    rcases List.mem_cons.mp h with q | q
    · rw [q, if_pos rfl]
    · rw [if_neg (fun e => n1 (by rw [e]; exact List.mem_map.mpr ⟨z, q, rfl⟩))]
      exact mem_lk n2 q
theorem lk_updA : ∀ (mo b : List (P × Int)), (mo.map (·.1)).Nodup → ∀ x, lk (updA b mo) x = match lk mo x with | some v => some v | none => lk b x
  | [], b, _, x => rfl
  | z :: r, b, nd, x => by
    rw [List.map_cons] at nd
    obtain ⟨n1, n2⟩ := List.nodup_cons.mp nd
    show lk (updA (ups b z.1 z.2) r) x = _
    rw [lk_updA r _ n2, lk_ups]
    show _ = match (if z.1 = x then some z.2 else lk r x) with | some v => some v | none => lk b x
    by_cases h : z.1 = x
    · subst h
      rw [lk_not n1, if_pos rfl, if_pos rfl]
    · rw [if_neg h, if_neg (fun e => h e.symm)]
theorem updA_nd : ∀ (mo b : List (P × Int)), (b.map (·.1)).Nodup → ((updA b mo).map (·.1)).Nodup
  | [], b, h => h
  | z :: r, b, h => updA_nd r _ (ups_nd h z.1 z.2)
theorem updA_len : ∀ (mo b : List (P × Int)), (updA b mo).length ≤ b.length + mo.length
  | [], b => Nat.le_refl _
  | z :: r, b => by
    have h1 := updA_len r (ups b z.1 z.2)
    have h2 := ups_len b z.1 z.2
    show (updA (ups b z.1 z.2) r).length ≤ _
    rw [List.length_cons]; omega
theorem moF_nd (b : List (P × Int)) (al : List P) : ∀ (L : List (P × Int × P)) (mo : List (P × Int)), (mo.map (·.1)).Nodup → ((moF b al L mo).map (·.1)).Nodup
  | [], mo, h => h
  | z :: r, mo, h => by
    unfold moF
    split
    · exact moF_nd b al r _ (ups_nd h _ _)
    · exact moF_nd b al r _ h
theorem cand_inv {b : List (P × Int)} {al : List P} {z : P × Int × P} {v : Int} (h : cand b al z = some v) : ∃ u, lk b z.1 = some u ∧ z.2.2 ∈ al ∧ (lk b z.2.2).getD (-1) < v ∧ v = u + z.2.1 := by
  unfold cand at h
  split at h
  · rename_i u hu
    split at h
    · rename_i hm
      split at h
      · rename_i hl
        cases h
        exact ⟨u, hu, hm, hl, rfl⟩
      · cases h
    · cases h
  · cases h
theorem moF_ok {b : List (P × Int)} {al : List P} (hb : ∀ x v, lk b x = some v → 0 ≤ v) : ∀ (L : List (P × Int × P)) (mo : List (P × Int)), (∀ z ∈ L, z ∈ W) → (∀ x v, lk mo x = some v → ∃ z ∈ W, z.2.2 = x ∧ cand b al z = some v) →
    (∀ x v, lk (moF b al L mo) x = some v → ∃ z ∈ W, z.2.2 = x ∧ cand b al z = some v) ∧ (∀ z ∈ L, ∀ v, cand b al z = some v → ∃ u, lk (moF b al L mo) z.2.2 = some u ∧ v ≤ u) ∧ (∀ x v, lk mo x = some v → ∃ u, lk (moF b al L mo) x = some u ∧ v ≤ u)
  | [], mo, _, h => ⟨h, (by intro z hz; cases hz), fun x v e => ⟨v, e, Int.le_refl _⟩⟩
  | z :: r, mo, hL, h => by
    have hr := fun y hy => hL y (List.mem_cons_of_mem _ hy)
    unfold moF
    cases hc : cand b al z with
    | none =>
      obtain ⟨i1, i2, i3⟩ := moF_ok hb r mo hr h
      refine ⟨i1, fun y hy v hv => ?_, i3⟩
      rcases List.mem_cons.mp hy with e | e
      · rw [e, hc] at hv; cases hv
      · exact i2 y e v hv
    | some v =>
      obtain ⟨u, c1, c2, c3, c4⟩ := cand_inv hc
      have v0 : 0 ≤ v := by
        cases e : lk b z.2.2 with
        | none =>
          rw [e] at c3
          have c3' : (-1 : Int) < v := c3
          omega
        | some w =>
          rw [e] at c3
          have c3' : w < v := c3
          have := hb _ _ e
          omega
      have h' : ∀ x w, lk (ups mo z.2.2 (max ((lk mo z.2.2).getD 0) v)) x = some w → ∃ z ∈ W, z.2.2 = x ∧ cand b al z = some w := fun x w e => by
        rw [lk_ups] at e
        by_cases hx : x = z.2.2
        · rw [if_pos hx] at e
          cases hm : lk mo z.2.2 with
          | none =>
            rw [hm] at e
            have e' : max 0 v = w := by simpa using e
            have : v = w := by omega
            subst this
            exact ⟨z, hL z List.mem_cons_self, hx.symm, hc⟩
          | some y =>
            rw [hm] at e
            have e' : max y v = w := by simpa using e
            by_cases hy : y ≤ v
            · have : v = w := by omega
              subst this
              exact ⟨z, hL z List.mem_cons_self, hx.symm, hc⟩
            · have : y = w := by omega
              subst this
              rw [hx]
              exact h _ _ hm
        · rw [if_neg hx] at e
          exact h x w e
      obtain ⟨i1, i2, i3⟩ := moF_ok hb r (ups mo z.2.2 (max ((lk mo z.2.2).getD 0) v)) hr h'
      have self : lk (ups mo z.2.2 (max ((lk mo z.2.2).getD 0) v)) z.2.2 = some (max ((lk mo z.2.2).getD 0) v) := by rw [lk_ups, if_pos rfl]
      refine ⟨i1, fun y hy w hw => ?_, fun x w e => ?_⟩
      · rcases List.mem_cons.mp hy with e | e
        · rw [e] at hw ⊢
          rw [hc] at hw
          cases hw
          obtain ⟨u', h1, h2⟩ := i3 _ _ self
          exact ⟨u', h1, by omega⟩
        · exact i2 y e w hw
      · by_cases hx : x = z.2.2
        · rw [hx] at e ⊢
          obtain ⟨u', h1, h2⟩ := i3 _ _ self
          rw [e] at h2
          have h2' : max w v ≤ u' := h2
          exact ⟨u', h1, by omega⟩
        · exact i3 x w (by rw [lk_ups, if_neg hx]; exact e)
def resB (E : P → Bool) (b : List (P × Int)) : Int := topI (0 :: (b.filter fun z => E z.1).map (·.2))
def go (W : List (P × Int × P)) (al : List P) (E : P → Bool) : Nat → List (P × Int) → Option Int
  | 0, _ => none
  | k + 1, b => if (moF b al W []).isEmpty = true then some (resB E b) else go W al E k (updA b (moF b al W []))
variable {E : P → Bool} {kn al : List P} {a : P}
/-- what is given -/
structure Gv (W : List (P × Int × P)) (E : P → Bool) (kn al : List P) (a : P) : Prop where
  w : ∀ z ∈ W, z.1 ∈ kn ∧ z.2.2 ∈ kn
  g : ∀ z ∈ W, 0 ≤ z.2.1
  al : ∀ x ∈ kn, x ∈ al ↔ Alv W E x
  a : a ∈ kn
structure Iv (W : List (P × Int × P)) (E : P → Bool) (a : P) (b : List (P × Int)) (j : Nat) : Prop where
  nd : (b.map (·.1)).Nodup
  sd : ∀ x v, lk b x = some v → ∃ vs, Wk W a vs v x
  cp : ∀ vs c x, vs.length ≤ j → Wk W a vs c x → Alv W E x ∨ vs = [] → ∃ v, lk b x = some v ∧ c ≤ v
theorem Alv.back {p q : P} {m : Int} (h : (p, m, q) ∈ W) (hq : Alv W E q) : Alv W E p := by
  obtain ⟨vs, c, e, h1, h2⟩ := hq
  exact ⟨_, _, e, .cons h h1, h2⟩
theorem Iv.nn (G : Gv W E kn al a) {b : List (P × Int)} {j : Nat} (I : Iv W E a b j) (x : P) (v : Int) (h : lk b x = some v) : 0 ≤ v := by
  obtain ⟨vs, hw⟩ := I.sd x v h
  exact hw.nn G.g
theorem iv0 : Iv W E a [(a, 0)] 0 where
  nd := by simp
  sd := fun x v h => by
    have h : (if a = x then some (0 : Int) else none) = some v := h
    split at h
    · rename_i e; cases h; subst e; exact ⟨[], .nil _⟩
    · cases h
  cp := fun vs c x hl h _ => by
    have : vs = [] := List.length_eq_zero_iff.mp (by omega)
    subst this
    cases h
    exact ⟨0, if_pos rfl, Int.le_refl _⟩
theorem Iv.step (G : Gv W E kn al a) {b : List (P × Int)} {j : Nat} (I : Iv W E a b j) : Iv W E a (updA b (moF b al W [])) (j + 1) := by
  have nn := I.nn G
  obtain ⟨m1, m2, _⟩ := moF_ok (W := W) (al := al) nn W [] (fun z hz => hz) (fun x v h => by cases h)
  have nd := moF_nd b al W [] (by simp)
  have eq := lk_updA (moF b al W []) b nd
  have mono : ∀ x v, lk b x = some v → ∃ u, lk (updA b (moF b al W [])) x = some u ∧ v ≤ u := fun x v h => by
    rw [eq]
    cases hm : lk (moF b al W []) x with
    | none => exact ⟨v, h, Int.le_refl _⟩
    | some u =>
      obtain ⟨z, hz, e, hc⟩ := m1 x u hm
      obtain ⟨_, _, _, c3, _⟩ := cand_inv hc
      rw [e, h] at c3
      have c3' : v < u := c3
      exact ⟨u, rfl, by omega⟩
  refine ⟨updA_nd _ _ I.nd, fun x v h => ?_, fun vs c x hl h ha => ?_⟩
  · rw [eq] at h
    cases hm : lk (moF b al W []) x with
    | none =>
      rw [hm] at h
      exact I.sd x v h
    | some u =>
      rw [hm] at h
      have h : u = v := Option.some.inj h
      subst h
      obtain ⟨z, hz, e, hc⟩ := m1 x u hm
      obtain ⟨w, c1, _, _, c4⟩ := cand_inv hc
      obtain ⟨vs, hw⟩ := I.sd _ _ c1
      refine ⟨vs ++ [x], ?_⟩
      rw [c4]
      exact hw.snoc (by rw [← e]; exact hz)
  · by_cases hv : vs = []
    · obtain ⟨v, h1, h2⟩ := I.cp vs c x (by rw [hv]; exact Nat.zero_le _) h (.inr hv)
      obtain ⟨u, h3, h4⟩ := mono x v h1
      exact ⟨u, h3, by omega⟩
    · have ax : Alv W E x := ha.resolve_right hv
      obtain ⟨us, q, c1, m, e1, e2, e3, e4⟩ := h.unsnoc hv
      rw [e1, List.length_append] at hl
      have hl' : us.length ≤ j := by simpa using hl
      obtain ⟨v, h1, h2⟩ := I.cp us c1 q hl' e2 (.inl (Alv.back e3 ax))
      have hxal : x ∈ al := (G.al x (G.w _ e3).2).mpr ax
      by_cases hlt : (lk b x).getD (-1) < v + m
      · have hc : cand b al (q, m, x) = some (v + m) := by
          unfold cand
          dsimp only
          rw [h1]
          dsimp only
          rw [if_pos hxal, if_pos hlt]
        obtain ⟨u, h3, h4⟩ := m2 _ e3 _ hc
        refine ⟨u, ?_, by omega⟩
        rw [eq]
        have h3 : lk (moF b al W []) x = some u := h3
        rw [h3]
      · have h0 := nn q v h1
        have hm : 0 ≤ m := G.g _ e3
        cases hx : lk b x with
        | none =>
          rw [hx] at hlt
          have hlt' : ¬ (-1 : Int) < v + m := hlt
          omega
        | some w =>
          rw [hx] at hlt
          have hlt' : ¬ w < v + m := hlt
          obtain ⟨u, h3, h4⟩ := mono x w hx
          exact ⟨u, h3, by omega⟩
theorem go_some (G : Gv W E kn al a) {v : Int} : ∀ (k : Nat) (b : List (P × Int)) (j : Nat), Iv W E a b j → go W al E k b = some v → ∃ b' j', Iv W E a b' j' ∧ moF b' al W [] = [] ∧ v = resB E b'
  | 0, _, _, _, h => by cases h
  | k + 1, b, j, I, h => by
    unfold go at h
    split at h
    · rename_i e
      cases h
      exact ⟨b, j, I, List.isEmpty_iff.mp e, rfl⟩
    · exact go_some G k _ _ (I.step G) h
theorem go_none (G : Gv W E kn al a) : ∀ (k : Nat) (b : List (P × Int)) (j : Nat), Iv W E a b j → go W al E (k + 1) b = none → ∃ b', Iv W E a b' (j + k) ∧ moF b' al W [] ≠ []
  | 0, b, j, I, h => by
    unfold go at h
    split at h
    · cases h
    · rename_i e
      exact ⟨b, I, fun z => e (by rw [z]; rfl)⟩
  | k + 1, b, j, I, h => by
    unfold go at h
    split at h
    · cases h
    · obtain ⟨b', I', hn⟩ := go_none G k _ _ (I.step G) h
      exact ⟨b', by rw [show j + (k + 1) = j + 1 + k by omega]; exact I', hn⟩
/-- a bound, and where it is met -/
theorem some_ok (G : Gv W E kn al a) {k : Nat} {v : Int} (h : go W al E k [(a, 0)] = some v) : (∀ vs c e, Wk W a vs c e → E e = true → c ≤ v) ∧ (v = 0 ∨ ∃ vs e, Wk W a vs v e ∧ E e = true) ∧ 0 ≤ v := by
  obtain ⟨b, j, I, hm, hv⟩ := go_some G k _ 0 iv0 h
  have nn := I.nn G
  obtain ⟨_, m2, _⟩ := moF_ok (W := W) (al := al) nn W [] (fun z hz => hz) (fun x v h => by cases h)
  rw [hm] at m2
  have all : ∀ (n : Nat) (vs : List P) (c : Int) (x : P), vs.length = n → Wk W a vs c x → Alv W E x → ∃ v, lk b x = some v ∧ c ≤ v := fun n => by
    induction n with
    | zero =>
      intro vs c x hl h ax
      exact I.cp vs c x (by omega) h (.inl ax)
    | succ n ih =>
      intro vs c x hl h ax
      obtain ⟨us, q, c1, m, e1, e2, e3, e4⟩ := h.unsnoc (by intro z; rw [z] at hl; cases hl)
      rw [e1, List.length_append] at hl
      obtain ⟨v, h1, h2⟩ := ih us c1 q (by simpa using hl) e2 (Alv.back e3 ax)
      have hxal : x ∈ al := (G.al x (G.w _ e3).2).mpr ax
      by_cases hlt : (lk b x).getD (-1) < v + m
      · have hc : cand b al (q, m, x) = some (v + m) := by
          unfold cand
          dsimp only
          rw [h1]
          dsimp only
          rw [if_pos hxal, if_pos hlt]
        obtain ⟨u, h3, _⟩ := m2 _ e3 _ hc
        cases h3
      · have h0 := nn q v h1
        have hm : 0 ≤ m := G.g _ e3
        cases hx : lk b x with
        | none =>
          rw [hx] at hlt
          have hlt' : ¬ (-1 : Int) < v + m := hlt
          omega
        | some w =>
          rw [hx] at hlt
          have hlt' : ¬ w < v + m := hlt
          exact ⟨w, rfl, by omega⟩
  obtain ⟨t1, t2⟩ := topI_spec (0 :: (b.filter fun z => E z.1).map (·.2)) (by simp)
  rw [show topI (0 :: (b.filter fun z => E z.1).map (·.2)) = v from hv.symm] at t1 t2
  refine ⟨fun vs c e h1 he => ?_, ?_, t2 0 List.mem_cons_self⟩
  · obtain ⟨u, h2, h3⟩ := all vs.length vs c e rfl h1 ⟨[], 0, e, .nil e, he⟩
    have := t2 u (List.mem_cons_of_mem _ (List.mem_map.mpr ⟨(e, u), List.mem_filter.mpr ⟨lk_mem h2, he⟩, rfl⟩))
    omega
  · rcases List.mem_cons.mp t1 with e | e
    · exact .inl e
    · obtain ⟨z, hz, ez⟩ := List.mem_map.mp e
      obtain ⟨z1, z2⟩ := List.mem_filter.mp hz
      have hl : lk b z.1 = some z.2 := mem_lk I.nd z1
      obtain ⟨vs, hw⟩ := I.sd _ _ hl
      exact .inr ⟨vs, z.1, by rw [← ez]; exact hw, z2⟩
/-- there is no bound -/
theorem none_ok (G : Gv W E kn al a) (h : go W al E (kn.length + 1) [(a, 0)] = none) (B : Int) : ∃ vs c e, Wk W a vs c e ∧ E e = true ∧ B ≤ c := by
  obtain ⟨b, I, hm⟩ := go_none G kn.length _ 0 iv0 h
  rw [Nat.zero_add] at I
  have nn := I.nn G
  obtain ⟨m1, _, _⟩ := moF_ok (W := W) (al := al) nn W [] (fun z hz => hz) (fun x v h => by cases h)
  obtain ⟨x, v, hx⟩ : ∃ x v, lk (moF b al W []) x = some v := by
    cases hq : moF b al W [] with
    | nil => exact absurd hq hm
    | cons z r => exact ⟨z.1, z.2, if_pos rfl⟩
  obtain ⟨z, hz, e, hc⟩ := m1 x v hx
  subst e
  obtain ⟨u, c1, c2, c3, c4⟩ := cand_inv hc
  have ax : Alv W E z.2.2 := (G.al _ (G.w z hz).2).mp c2
  obtain ⟨vs0, hw0⟩ := I.sd _ _ c1
  have hw1 := hw0.snoc (m := z.2.1) (r := z.2.2) hz
  -- a ring that gains
  have ring : ∀ (n : Nat) (vs : List P) (c : Int), vs.length ≤ n → Wk W a vs c z.2.2 → v ≤ c → ∃ r v1 v2 v3 d1 d2 d3, Wk W a v1 d1 r ∧ Wk W r v2 d2 r ∧ Wk W r v3 d3 z.2.2 ∧ 1 ≤ d2 := fun n => by
    induction n with
    | zero =>
      intro vs c hl h hv
      obtain ⟨w, h1, h2⟩ := I.cp vs c _ (by omega) h (.inl ax)
      rw [h1] at c3
      have c3' : w < v := c3
      omega
    | succ n ih =>
      intro vs c hl h hv
      by_cases hs : vs.length ≤ kn.length
      · obtain ⟨w, h1, h2⟩ := I.cp vs c _ hs h (.inl ax)
        rw [h1] at c3
        have c3' : w < v := c3
        omega
      · have hnd : ¬ (a :: vs).Nodup := fun nd => by
          have := List.Nodup.length_le_of_subset nd (l₂ := kn) (fun y hy => by
            rcases List.mem_cons.mp hy with q | q
            · rw [q]; exact G.a
            · exact h.mem G.w y q)
          rw [List.length_cons] at this
          omega
        obtain ⟨r, v1, v2, v3, d1, d2, d3, e1, e2, e3, e4, e5, e6⟩ := h.dup hnd
        by_cases hd : 1 ≤ d2
        · exact ⟨r, v1, v2, v3, d1, d2, d3, e1, e2, e3, hd⟩
        · have : 0 < v2.length := List.length_pos_iff.mpr e4
          exact ih (v1 ++ v3) (d1 + d3) (by rw [List.length_append]; omega) (e1.app e3) (by omega)
  obtain ⟨r, v1, v2, v3, d1, d2, d3, e1, e2, e3, hd⟩ := ring _ _ _ (Nat.le_refl _) hw1 (by omega)
  obtain ⟨v4, d4, e, h4, he⟩ := ax
  obtain ⟨v5, h5⟩ := e2.pump B.toNat
  refine ⟨_, _, e, ((e1.app h5).app e3).app h4, he, ?_⟩
  have p1 := e1.nn G.g
  have p3 := e3.nn G.g
  have p4 := h4.nn G.g
  have : (B.toNat : Int) * 1 ≤ (B.toNat : Int) * d2 := Int.mul_le_mul_of_nonneg_left hd (by omega)
  omega
end
end Lg

set_option Elab.async false
set_option linter.all false
set_option maxRecDepth 100000
set_option maxHeartbeats 1000000
namespace Lw
open PySem MD L2
variable {ww : WW}
/-! ### things at the end of the store -/
/-- the store with more things -/
def Xs (st : S) (r : List Ob) : S := { st with ob := st.ob ++ r }
theorem Xs_at (st : S) (r : List Ob) (i : Nat) : (Xs st r).ob[st.ob.length + i]? = r[i]? := by
  show (st.ob ++ r)[st.ob.length + i]? = _
  rw [List.getElem?_append_right (by omega), Nat.add_sub_cancel_left]
theorem Xs_put (st : S) (r : List Ob) (i : Nat) (o : Ob) : (Xs st r).put (st.ob.length + i) o = Xs st (r.set i o) := by
  show ({ st with ob := (st.ob ++ r).set (st.ob.length + i) o } : S) = _
  rw [List.set_append_right _ _ (by omega), Nat.add_sub_cancel_left]; rfl
theorem Xs_ad (st : S) (r : List Ob) (o : Ob) : (Xs st r).ad o = Xs st (r ++ [o]) := by
  show ({ st with ob := (st.ob ++ r) ++ [o] } : S) = _
  rw [List.append_assoc]; rfl
theorem Xs_len (st : S) (r : List Ob) : (Xs st r).ob.length = st.ob.length + r.length := List.length_append
theorem Xs_nil (st : S) : Xs st [] = st := by
  show ({ st with ob := st.ob ++ [] } : S) = st
  rw [List.append_nil]
/-! ### lists of the store -/
section
variable {st : S} {n : Nat} {ds : List D} {env : Sg} {fo fx : ME}
theorem lstAt_of (h : st.ob[n]? = some (.lst ds)) : lstAt st n = some ds := by
  unfold lstAt
  rw [h]
theorem sapp_of {d : D} (h : st.ob[n]? = some (.lst ds)) (hl : ds.length ≤ 900000) (ho : fo env st = some (.ref n, st)) (hx : fx env st = some (d, st)) : sappM fo fx env st = some (.nx env, st.put n (.lst (ds ++ [d]))) := by
  unfold sappM
  rw [ho, Option.bind_some]
  show (lstAt st n).bind _ = _
  rw [lstAt_of h, Option.bind_some, hx, Option.bind_some]
  show ((lstAt st n).bind fun ds => if ds.length < sizeLine then some (Fl.nx env, st.put n (.lst (ds ++ [d]))) else none) = _
  rw [lstAt_of h, Option.bind_some, if_pos (Nat.lt_of_le_of_lt hl (by decide))]
theorem spop_of {d : D} (h : st.ob[n]? = some (.lst (ds ++ [d]))) (ho : fo env st = some (.ref n, st)) : spopM fo env st = some (d, st.put n (.lst ds)) := by
  unfold spopM
  rw [ho, Option.bind_some]
  show (lstAt st n).bind (fun ds => (ds[ds.length - 1]?).map fun d => (d, st.put n (.lst ds.dropLast))) = _
  rw [lstAt_of h, Option.bind_some, List.dropLast_concat, List.length_append]
  have : (ds ++ [d])[ds.length + [d].length - 1]? = some d := by
    rw [List.getElem?_append_right (by simp)]
    simp
  rw [this]; rfl
end
/-! ### dicts of the store -/
section
variable {P V : Type} [DecidableEq P] {kd : P → D} {kk : P → NestedKey} (hn : Nkd kd kk) {f : V → D} {st : S} {i : Nat} {al : List (P × V)} {env : Sg} {fd fk fv fx : ME} {p : P}
def DtG (kd : P → D) (f : V → D) (st : S) (i : Nat) (al : List (P × V)) : Prop := st.ob[i]? = some (.nkd (aK kd al) (aV f al))
theorem DtG.at (h : DtG kd f st i al) : nkdAt st i = some (aK kd al, aV f al) := by
  unfold nkdAt
  rw [h]
include hn
theorem DtG.nget (h : DtG kd f st i al) (hd : fd env st = some (.ref i, st)) (hk : fk env st = some (kd p, st)) {v : V} (hv : lk al p = some v) : ngetM fd fk env st = some (f v, st) := by
  unfold ngetM
  rw [hd, Option.bind_some]
  show ((fk env st).bind _) = _
  rw [hk, Option.bind_some]
  show ((nkdAt st i).bind fun z => (nkT (kd p)).bind fun k => if k.depth ≤ 8 then (getN z.1 z.2 k).map fun d => (d, st) else none) = _
  rw [h.at, Option.bind_some, hn.tp, Option.bind_some, if_pos (hn.dp p), getN_al hn, hv]
  rfl
theorem DtG.nget2 {d : D} (h : DtG kd f st i al) (hd : fd env st = some (.ref i, st)) (hk : fk env st = some (kd p, st)) (hx : fx env st = some (d, st)) : nget2M fd fk fx env st = some (((lk al p).map f).getD d, st) := by
  unfold nget2M
  rw [hd, Option.bind_some]
  show ((nkdAt st i).bind fun _ => (fk env st).bind fun q => (fx env q.2).bind fun r => (nkdAt r.2 i).bind fun z => (nkT q.1).bind fun k => if k.depth ≤ 8 then some ((getN z.1 z.2 k).getD r.1, r.2) else none) = _
  rw [h.at, Option.bind_some, hk, Option.bind_some]
  show ((fx env st).bind fun r => (nkdAt r.2 i).bind fun z => (nkT (kd p)).bind fun k => if k.depth ≤ 8 then some ((getN z.1 z.2 k).getD r.1, r.2) else none) = _
  rw [hx, Option.bind_some]
  show ((nkdAt st i).bind fun z => (nkT (kd p)).bind fun k => if k.depth ≤ 8 then some ((getN z.1 z.2 k).getD d, st) else none) = _
  rw [h.at, Option.bind_some, hn.tp, Option.bind_some, if_pos (hn.dp p), getN_al hn]
theorem DtG.nin (neg : Bool) (h : DtG kd f st i al) (hd : fd env st = some (.ref i, st)) (hk : fk env st = some (kd p, st)) : ninM neg fk fd env st = some (.bl (if neg = true then !(lk al p).isSome else (lk al p).isSome), st) := by
  unfold ninM
  rw [hk, Option.bind_some]
  show ((fd env st).bind _) = _
  rw [hd, Option.bind_some]
  show ((nkdAt st i).bind fun z => (nkT (kd p)).bind fun k => if k.depth ≤ 8 then some (D.bl (if neg = true then !hasN z.1 k else hasN z.1 k), st) else none) = _
  rw [h.at, Option.bind_some, hn.tp, Option.bind_some, if_pos (hn.dp p), hasN_al hn]
theorem DtG.nput {v : V} (h : DtG kd f st i al) (nd : (al.map (·.1)).Nodup) (hl : al.length ≤ 900000) (hv : fv env st = some (f v, st)) (hd : fd env st = some (.ref i, st)) (hk : fk env st = some (kd p, st)) :
    nputM fd fk fv env st = some (.nx env, st.put i (.nkd (aK kd (ups al p v)) (aV f (ups al p v)))) := by
  unfold nputM
  rw [hv, Option.bind_some]
  show ((fd env st).bind _) = _
  rw [hd, Option.bind_some]
  show ((fk env st).bind _) = _
  rw [hk, Option.bind_some]
  show ((nkT (kd p)).bind fun k => (nkdAt st i).bind fun z => if k.depth ≤ 8 ∧ z.1.length < sizeLine then some (Fl.nx env, st.put i (.nkd (putNK z.1 (kd p) k) (putNV z.1 z.2 k (f v)))) else none) = _
  rw [hn.tp, Option.bind_some, h.at, Option.bind_some]
  have hlen : (aK kd al).length < sizeLine := by
    rw [List.length_map]
    exact Nat.lt_of_le_of_lt hl (by decide)
  rw [if_pos ⟨hn.dp p, hlen⟩]
  obtain ⟨e1, e2⟩ := put_al (f := f) hn nd p v
  show some (Fl.nx env, st.put i (.nkd (putNK (aK kd al) (kd p) (kk p)) (putNV (aK kd al) (aV f al) (kk p) (f v)))) = _
  rw [e1, e2]
omit hn in
theorem DtG.nlen (h : DtG kd f st i al) (hd : fd env st = some (.ref i, st)) : nlenM fd env st = some (.int ((al.length : Nat) : Int), st) := by
  unfold nlenM
  rw [hd, Option.bind_some]
  show ((nkdAt st i).map fun z => (D.int ((z.1.length : Nat) : Int), st)) = _
  rw [h.at]
  show some (D.int (((aK kd al).length : Nat) : Int), st) = _
  rw [List.length_map]
omit hn in
theorem DtG.nem (h : DtG kd f st i al) (hd : fd env st = some (.ref i, st)) : nemM fd env st = some (.bl al.isEmpty, st) := by
  unfold nemM
  rw [hd, Option.bind_some]
  show ((nkdAt st i).map fun z => (D.bl z.1.isEmpty, st)) = _
  rw [h.at]
  cases al <;> rfl
end
section
variable {P : Type} [DecidableEq P] {kd : P → D} {kk : P → NestedKey} (hn : Nkd kd kk) {f : Int → D}
include hn in
theorem updF_al : ∀ (mo b : List (P × Int)), (b.map (·.1)).Nodup → updF (aK kd b) (aV f b) (aK kd mo) (aV f mo) = (aK kd (Lg.updA b mo), aV f (Lg.updA b mo))
  | [], b, _ => by
    cases b <;> rfl
  | z :: r, b, nd => by
    obtain ⟨e1, e2⟩ := put_al (f := f) hn nd z.1 z.2
    show (match nkOf (kd z.1) with | some k => updF (putNK (aK kd b) (kd z.1) k) (putNV (aK kd b) (aV f b) k (f z.2)) (aK kd r) (aV f r) | none => (aK kd b, aV f b)) = _
    rw [hn.of]
    show updF (putNK (aK kd b) (kd z.1) (kk z.1)) (putNV (aK kd b) (aV f b) (kk z.1) (f z.2)) (aK kd r) (aV f r) = _
    rw [e1, e2, updF_al r _ (ups_nd nd z.1 z.2)]
    rfl
include hn in
theorem DtG.nupd {st : S} {i j : Nat} {b mo : List (P × Int)} {env : Sg} {fd fo : ME} (h : DtG kd f st i b) (h2 : DtG kd f st j mo) (hij : i ≠ j) (nd : (b.map (·.1)).Nodup) (hb : b ≠ []) (hl : b.length + mo.length ≤ 900000)
    (hd : fd env st = some (.ref i, st)) (ho : fo env st = some (.ref j, st)) : nupdM fd fo env st = some (.non, st.put i (.nkd (aK kd (Lg.updA b mo)) (aV f (Lg.updA b mo)))) := by
  unfold nupdM
  rw [hd, Option.bind_some]
  show ((nkdAt st i).bind fun _ => (fo env st).bind fun q => (refOf q.1).bind fun m => (nkdAt q.2 i).bind fun z => (nkdAt q.2 m).bind fun y =>
    if i ≠ m ∧ z.1 ≠ [] ∧ z.1.length + y.1.length ≤ sizeLine then some (D.non, q.2.put i (.nkd (updF z.1 z.2 y.1 y.2).1 (updF z.1 z.2 y.1 y.2).2)) else none) = _
  rw [h.at, Option.bind_some, ho, Option.bind_some]
  show ((nkdAt st i).bind fun z => (nkdAt st j).bind fun y =>
    if i ≠ j ∧ z.1 ≠ [] ∧ z.1.length + y.1.length ≤ sizeLine then some (D.non, st.put i (.nkd (updF z.1 z.2 y.1 y.2).1 (updF z.1 z.2 y.1 y.2).2)) else none) = _
  rw [h.at, Option.bind_some, h2.at, Option.bind_some]
  rw [if_pos ⟨hij, by simpa using hb, by rw [List.length_map, List.length_map]; exact Nat.le_trans hl (by decide)⟩]
  rw [updF_al hn mo b nd]
end
end Lw

set_option Elab.async false
set_option linter.all false
set_option maxRecDepth 100000
set_option maxHeartbeats 2000000
namespace Lw
open PySem MD L2 Lc
variable {ww : WW}
/-! ### the reader -/
abbrev fS : List Str := ["letters", "rows", "ends", "units", "cuts"]
/-- the reader's things, from L on -/
def obR (L l : Nat) (rows ends units cuts : List D) : List Ob := [.ins "SchemeReader" fS [nD l, .ref (L + 1), .ref (L + 2), .ref (L + 3), .ref (L + 4)], .lst rows, .lst ends, .lst units, .lst cuts]
abbrev Xr (st : S) (l : Nat) (rows ends units cuts : List D) : S := Xs st (obR st.ob.length l rows ends units cuts)
theorem set_X {st : S} {f : Str} {fo fv : ME} {env : Sg} {fs : List Str} {xs : List D} {r r' : List Ob} {d : D} (hv : fv env (Xs st (.ins "SchemeReader" fs xs :: r)) = some (d, Xs st (.ins "SchemeReader" fs xs :: r'))) (h : fo env (Xs st (.ins "SchemeReader" fs xs :: r')) = some (.ref (st.ob.length + 0), Xs st (.ins "SchemeReader" fs xs :: r'))) (hl : fs.length < 1000) :
    setM ["SchemeReader"] f fo fv env (Xs st (.ins "SchemeReader" fs xs :: r)) = some (.nx env, Xs st (.ins "SchemeReader" (putFN fs f) (putFV fs xs f d) :: r')) := by
  rw [Lm.set_of hv h (by rw [Xs_at]; rfl) hl, Xs_put]; rfl
theorem sto_X {env : Sg} {st : S} {r : List Ob} : stoL (lstM aNil) env (Xs st r) = some (.ref (st.ob.length + r.length), Xs st (r ++ [.lst []])) := by
  have h : lstM aNil env (Xs st r) = some ([], Xs st r) := by
    rw [v_lstM, v_aNil, Option.bind_some]
    exact grd_of (show 0 ≤ 1000000 by decide)
  unfold stoL
  rw [h]
  show some (D.ref (Xs st r).ob.length, (Xs st r).ad (.lst [])) = _
  rw [Xs_len, Xs_ad]
theorem rinit_ok (st : S) : m_SchemeReader___init__ [.ref st.ob.length] (st.ad (.ins "SchemeReader" [] [])) = some (.non, Xr st 0 [] [] [] []) := by
  have hb : b_SchemeReader___init__ = (seqM (setM ["SchemeReader"] "letters" (rd 0) (cst (.int 0)))
 (seqM (setM ["SchemeReader"] "rows" (rd 0) (stoL (lstM aNil)))
 (seqM (setM ["SchemeReader"] "ends" (rd 0) (stoL (lstM aNil)))
 (seqM (setM ["SchemeReader"] "units" (rd 0) (stoL (lstM aNil)))
 (setM ["SchemeReader"] "cuts" (rd 0) (stoL (lstM aNil))))))) := rfl
  have e0 : st.ad (.ins "SchemeReader" [] []) = Xs st [.ins "SchemeReader" [] []] := by
    rw [← Xs_nil st, Xs_ad, Xs_nil]; rfl
  have er : m_SchemeReader___init__ [.ref st.ob.length] (Xs st [.ins "SchemeReader" [] []]) = (b_SchemeReader___init__ [.val (.ref st.ob.length)] (Xs st [.ins "SchemeReader" [] []])).bind fun p => match p.1 with | .rt d => some (d, p.2) | .nx _ => some (.non, p.2) | _ => none := rfl
  rw [e0, er, hb, Lm.seq_nx (set_X (r' := []) rfl rfl (by decide)), Lm.seq_nx (set_X sto_X rfl (by decide)), Lm.seq_nx (set_X sto_X rfl (by decide)), Lm.seq_nx (set_X sto_X rfl (by decide)), set_X sto_X rfl (by decide)]
  rfl
theorem atL {f : ME} {env : Sg} {st s1 : S} {ds : List D} {j : Nat} {d : D} (h : f env st = some (.lst ds, s1)) (hj : ds[j]? = some d) : opM subD f (cst (.int ((j : Nat) : Int))) env st = some (d, s1) :=
  Lh.sub_of (x := .lst ds) (y := .int ((j : Nat) : Int)) h rfl (fun s => dr_lst s ds) (fun s => rfl) (by rw [v_subL, v_ixL]; exact atI_of hj)
theorem atL0 {f : ME} {env : Sg} {st s1 : S} {ds : List D} {d : D} (h : f env st = some (.lst ds, s1)) (hj : ds[0]? = some d) : opM subD f (cst (.int 0)) env st = some (d, s1) := atL (j := 0) h hj
theorem atL1 {f : ME} {env : Sg} {st s1 : S} {ds : List D} {d : D} (h : f env st = some (.lst ds, s1)) (hj : ds[1]? = some d) : opM subD f (cst (.int 1)) env st = some (d, s1) := atL (j := 1) h hj
theorem atL2 {f : ME} {env : Sg} {st s1 : S} {ds : List D} {d : D} (h : f env st = some (.lst ds, s1)) (hj : ds[2]? = some d) : opM subD f (cst (.int 2)) env st = some (d, s1) := atL (j := 2) h hj
theorem lenL {f : ME} {env : Sg} {st s1 : S} {ds : List D} (h : f env st = some (.lst ds, s1)) : cbM lenA (aCons f aNil) env st = some (.int ((ds.length : Nat) : Int), s1) := by
  rw [v_cbM, Lm.cons_of h v_aNil, Option.bind_some]
  show ((lenA [dr s1 (.lst ds)]).map _ : Option (D × S)) = _
  rw [dr_lst]; rfl
theorem slL {f : ME} {fl fh : MO} {env : Sg} {st s1 s2 s3 : S} {ds : List D} {lo hi : Option Int} (h : f env st = some (.lst ds, s1)) (h1 : fl env s1 = some (lo, s2)) (h2 : fh env s2 = some (hi, s3)) : slM slAny f fl fh env st = some (.lst (cutD ds lo hi), s3) := by
  rw [v_slM, h, Option.bind_some, h1, Option.bind_some, h2, Option.bind_some, dr_lst]; rfl
theorem cut_tl {d : D} {ds : List D} : cutD (d :: ds) (some 1) none = ds := by
  rw [cutD_from (by decide) (by rw [List.length_cons]; omega)]; rfl
theorem cut_last {ds : List D} {d : D} : cutD (ds ++ [d]) (some (-1)) none = [d] := by
  unfold cutD
  have h : HT.sIx (ds ++ [d]).length 0 (some (-1)) = ds.length := by
    show (if (-1 : Int) < 0 then (-1 + ((ds ++ [d]).length : Int)).toNat else min (-1 : Int).toNat (ds ++ [d]).length) = _
    rw [if_pos (by decide), List.length_append, List.length_singleton]; omega
  rw [h, HT.sIx_none, List.drop_left, List.length_append, List.length_singleton, Nat.add_sub_cancel_left]; rfl
theorem cut_but {ds : List D} {d : D} : cutD (ds ++ [d]) none (some (-1)) = ds := by
  unfold cutD
  have h : HT.sIx (ds ++ [d]).length (ds ++ [d]).length (some (-1)) = ds.length := by
    show (if (-1 : Int) < 0 then (-1 + ((ds ++ [d]).length : Int)).toNat else min (-1 : Int).toNat (ds ++ [d]).length) = _
    rw [if_pos (by decide), List.length_append, List.length_singleton]; omega
  rw [h, HT.sIx_none, List.drop_zero, Nat.sub_zero, List.take_left]
theorem fld_X {st : S} {f : Str} {env : Sg} {fo : ME} {l : Nat} {rows ends units cuts : List D} {d : D} (h : fo env (Xr st l rows ends units cuts) = some (.ref (st.ob.length + 0), Xr st l rows ends units cuts)) (hl : lookF fS [nD l, .ref (st.ob.length + 1), .ref (st.ob.length + 2), .ref (st.ob.length + 3), .ref (st.ob.length + 4)] f = some d) :
    fldM ["SchemeReader"] f fo env (Xr st l rows ends units cuts) = some (d, Xr st l rows ends units cuts) := Lm.fld_of h (by rw [Xs_at]; rfl) hl
abbrev wD (ws : List (List Nat)) : List D := ws.map fun p => .str (W p)
theorem wD_map {α : Type} (F : α → List Nat) (l : List α) : wD (l.map F) = l.map fun o => D.str (W (F o)) := by
  show (l.map F).map (fun p => D.str (W p)) = _
  rw [List.map_map]; rfl
theorem starts_abcd {k : Nat} (h : k ≤ 4) : Txt.startswith (W (ltr 4)) (W (ltr k)) = true := by
  have hk : k = 0 ∨ k = 1 ∨ k = 2 ∨ k = 3 ∨ k = 4 := by omega
  rcases hk with rfl | rfl | rfl | rfl | rfl <;> decide +kernel
theorem rletters_ok {k : Nat} (h1 : 1 ≤ k) (h4 : k ≤ 4) (st : S) (rows ends units cuts : List D) : m_SchemeReader_read_letters [.ref (st.ob.length + 0), .lst (wD (wle k))] (Xr st 0 rows ends units cuts) = some (.bl true, Xr st k rows ends units cuts) := by
  have hb : b_SchemeReader_read_letters = (seqM (ifS (orM (tstM (opM neM (cbM lenA (aCons (rd 1) aNil)) (cst (.int 2)))) (orM (tstM (opM neM (opM subD (rd 1) (cst (.int 0))) (cst (.str "letters")))) (orM (tstM (opM eqM (opM subD (rd 1) (cst (.int 1))) (cst (.str "")))) (notM (truM (m1M startsM (cst (.str "abcd")) (opM subD (rd 1) (cst (.int 1)))))))))
 (retM (cst (.bl false)))
 nxM)
 (seqM (setM ["SchemeReader"] "letters" (rd 0) (cbM lenA (aCons (opM subD (rd 1) (cst (.int 1))) aNil)))
 (retM (cst (.bl true))))) := rfl
  refine Lm.run_of ?_
  show b_SchemeReader_read_letters [.val (.ref (st.ob.length + 0)), .val (.lst (wD (wle k)))] (Xr st 0 rows ends units cuts) = _
  rw [hb]
  obtain ⟨E, hE⟩ : ∃ E : Sg, E = [.val (.ref (st.ob.length + 0)), .val (.lst (wD (wle k)))] := ⟨_, rfl⟩
  rw [← hE]
  have h1' : ∀ S1, rd 1 E S1 = some (.lst (wD (wle k)), S1) := fun S1 => by rw [hE]; rfl
  have w0 := fun S1 => atL0 (d := .str (W leW)) (h1' S1) rfl
  have w1 := fun S1 => atL1 (d := .str (W (ltr k))) (h1' S1) rfl
  have t1 := Lh.ne_int (h := cst (.int 2)) (j := 2) (s2 := Xr st 0 rows ends units cuts) (lenL (h1' (Xr st 0 rows ends units cuts))) rfl
  rw [decide_eq_false (by show ¬ ((2 : Int) ≠ 2); simp)] at t1
  have t2 := Lm.tst_of (ne_W (w0 (Xr st 0 rows ends units cuts)) (str_of s_letters))
  rw [decide_eq_true rfl] at t2
  have t3 := Lm.tst_of (eq_W (w1 (Xr st 0 rows ends units cuts)) (str_of empty_W))
  rw [decide_eq_false (by
    obtain ⟨j, rfl⟩ : ∃ j, k = j + 1 := ⟨k - 1, by omega⟩
    intro e
    have := congrArg List.length e
    simp at this)] at t3
  have t4 : m1M startsM (cst (.str "abcd")) (opM subD (rd 1) (cst (.int 1))) E (Xr st 0 rows ends units cuts) = some (.bl true, Xr st 0 rows ends units cuts) := by
    rw [v_m1M, str_of s_abcd, Option.bind_some]
    show ((opM subD (rd 1) (cst (.int 1)) E (Xr st 0 rows ends units cuts)).bind _) = _
    rw [show opM subD (rd 1) (cst (.int 1)) E (Xr st 0 rows ends units cuts) = _ from w1 _, Option.bind_some]
    show ((startsM (.str (W (ltr 4))) [.str (W (ltr k))]).map _) = _
    show ((some (D.bl (Txt.startswith (W (ltr 4)) (W (ltr k))))).map _) = _
    rw [starts_abcd h4]; rfl
  have tt := Lh.or_f t1 (Lh.or_f t2 (Lh.or_f t3 (Lh.not_of (Lh.tru_of t4))))
  rw [Lm.seq_nx (Lm.ifs_f tt v_nxM)]
  have e1 := Lh.len_str (w := ltr k) (w1 (Xr st 0 rows ends units cuts)) (by simp; omega)
  have hk : (ltr k).length = k := by simp
  rw [hk] at e1
  have s1 := set_X (f := "letters") (fo := rd 0) (st := st) (r := [.lst rows, .lst ends, .lst units, .lst cuts]) (fs := fS) (xs := [nD 0, .ref (st.ob.length + 1), .ref (st.ob.length + 2), .ref (st.ob.length + 3), .ref (st.ob.length + 4)]) e1 (by rw [hE]; rfl) (by decide)
  exact (Lm.seq_nx s1).trans rfl
theorem eq_one {f h : ME} {env : Sg} {st s1 s2 : S} {a b : List Nat} (ha : ∀ c ∈ a, c < 128) (hb : ∀ c ∈ b, c < 128) (h1 : f env st = some (.lst [.str (W a)], s1)) (h2 : h env s1 = some (.lst [.str (W b)], s2)) : opM eqM f h env st = some (.bl (decide (a = b)), s2) := by
  have e := Lh.eqN_of (d := .lst [.str (W a)]) (e := .lst [.str (W b)]) ((Lh.Nd.lst (n := 0) fun d hd => by
    have : d = .str (W a) := by simpa using hd
    rw [this]; exact Lh.Nd.strW ha).nice (by decide)) ((Lh.Nd.lst (n := 0) fun d hd => by
    have : d = .str (W b) := by simpa using hd
    rw [this]; exact Lh.Nd.strW hb).nice (by decide)) rfl
  have e2 : PyData.eqv (D.lst [.str (W a)]).py (D.lst [.str (W b)]).py = decide (a = b) := by
    show ((W a == W b) && true) = _
    rw [Bool.and_true]
    by_cases h : a = b
    · rw [h]; simp
    · rw [decide_eq_false h]
      exact beq_false_of_ne fun z => h (W_inj z)
  rw [v_opM, h1, Option.bind_some, h2, Option.bind_some, dr_lst, dr_lst, e, e2]; rfl
theorem wd128 {p : List Nat} (h : Wd p) : ∀ c ∈ p, c < 128 := fun c hc => by have := h.f c hc; omega
section
variable {s : Sm} (ok : s.Ok) (st : S) (l : Nat) (rows ends units cuts : List D)
include ok
theorem rstate_ok {r : List (Option Nat)} (hr : r ∈ s.rows) (e : Bool) (h1 : rows.length ≤ 1000) (h2 : ends.length ≤ 1000) : m_SchemeReader_read_state [.ref (st.ob.length + 0), .lst (wD (r.map itm ++ if e = true then [enW] else []))] (Xr st l rows ends units cuts) = some (.bl true, Xr st l (rows ++ [rwD r]) (ends ++ [.bl e]) units cuts) := by
  have hb : b_SchemeReader_read_state = (seqM (asgM (nameT 2) (opM eqM (slM slAny (rd 1) (prt (unM (unI fun i => .int (-i)) (cst (.int 1)))) noP) (frz (lstM (aCons (cst (.str "end")) aNil)))))
 (seqM (asgM (nameT 3) (callM m_items_of (aCons (ifM (truM (rd 2)) (slM slAny (rd 1) noP (prt (unM (unI fun i => .int (-i)) (cst (.int 1))))) (rd 1)) (aCons (cst (.str ".")) aNil))))
 (seqM (ifS (tstM (opM isM (rd 3) (cst .non)))
 (retM (cst (.bl false)))
 nxM)
 (seqM (sappM (fldM ["SchemeReader"] "rows" (rd 0)) (rd 3))
 (seqM (sappM (fldM ["SchemeReader"] "ends" (rd 0)) (rd 2))
 (retM (cst (.bl true)))))))) := rfl
  have hlen := (ok.row r hr).1
  have hk0 := ok.k0
  have hk4 := ok.k4
  have hit := fun o (ho : o ∈ r) => Wd.itm (ok.item hr ho)
  obtain ⟨ws, hws⟩ : ∃ ws, ws = r.map itm ++ if e = true then [enW] else [] := ⟨_, rfl⟩
  rw [← hws]
  refine Lm.run_of ?_
  show b_SchemeReader_read_state [.val (.ref (st.ob.length + 0)), .val (.lst (wD ws)), .un, .un] (Xr st l rows ends units cuts) = _
  rw [hb]
  have hrn : r ≠ [] := fun z => by rw [z] at hlen; simp at hlen; omega
  obtain ⟨r0, o, hro⟩ : ∃ r0 o, r = r0 ++ [o] := ⟨r.dropLast, r.getLast hrn, (List.dropLast_concat_getLast hrn).symm⟩
  -- the last word
  have c1 : opM eqM (slM slAny (rd 1) (prt (unM (unI fun i => .int (-i)) (cst (.int 1)))) noP) (frz (lstM (aCons (cst (.str "end")) aNil))) [.val (.ref (st.ob.length + 0)), .val (.lst (wD ws)), .un, .un] (Xr st l rows ends units cuts) = some (.bl e, Xr st l rows ends units cuts) := by
    have a1 := slL (f := rd 1) (fl := prt (unM (unI fun i => .int (-i)) (cst (.int 1)))) (fh := noP) (env := [.val (.ref (st.ob.length + 0)), .val (.lst (wD ws)), .un, .un]) (st := Xr st l rows ends units cuts) (s1 := Xr st l rows ends units cuts) (s2 := Xr st l rows ends units cuts) (s3 := Xr st l rows ends units cuts) (ds := wD ws) (lo := some (-1)) (hi := none) rfl rfl rfl
    cases e with
    | true =>
      have ew : wD ws = wD (r.map itm) ++ [.str (W enW)] := by rw [hws, if_pos rfl]; simp
      have ec : cutD (wD ws) (some (-1)) none = [.str (W enW)] := by rw [ew, cut_last]
      rw [ec] at a1
      have := eq_one (a := enW) (b := enW) (by decide) (by decide) a1 (lstD_of s_end)
      rw [decide_eq_true rfl] at this
      exact this
    | false =>
      have ew : wD ws = wD (r0.map itm) ++ [.str (W (itm o))] := by rw [hws, if_neg (by decide), hro]; simp
      have ec : cutD (wD ws) (some (-1)) none = [.str (W (itm o))] := by rw [ew, cut_last]
      rw [ec] at a1
      have := eq_one (a := itm o) (b := enW) (wd128 (hit o (by rw [hro]; simp))) (by decide) a1 (lstD_of s_end)
      rw [decide_eq_false (by
        cases o with
        | none => decide
        | some n => exact num_ne (by decide))] at this
      exact this
  rw [Lm.seq_nx (Lm.asg_nx c1)]
  show seqM _ _ [.val (.ref (st.ob.length + 0)), .val (.lst (wD ws)), .val (.bl e), .un] (Xr st l rows ends units cuts) = _
  have c2 : ifM (truM (rd 2)) (slM slAny (rd 1) noP (prt (unM (unI fun i => .int (-i)) (cst (.int 1))))) (rd 1) [.val (.ref (st.ob.length + 0)), .val (.lst (wD ws)), .val (.bl e), .un] (Xr st l rows ends units cuts) = some (.lst (r.map fun o => .str (W (itm o))), Xr st l rows ends units cuts) := by
    have t1 := Lh.tru_of (f := rd 2) (env := [.val (.ref (st.ob.length + 0)), .val (.lst (wD ws)), .val (.bl e), .un]) (st := Xr st l rows ends units cuts) (s1 := Xr st l rows ends units cuts) (b := e) rfl
    cases e with
    | true =>
      have a1 := slL (f := rd 1) (fl := noP) (fh := prt (unM (unI fun i => .int (-i)) (cst (.int 1)))) (env := [.val (.ref (st.ob.length + 0)), .val (.lst (wD ws)), .val (.bl true), .un]) (st := Xr st l rows ends units cuts) (s1 := Xr st l rows ends units cuts) (s2 := Xr st l rows ends units cuts) (s3 := Xr st l rows ends units cuts) (ds := wD ws) (lo := none) (hi := some (-1)) rfl rfl rfl
      have ew : wD ws = wD (r.map itm) ++ [.str (W enW)] := by rw [hws, if_pos rfl]; simp
      have e2 : cutD (wD ws) none (some (-1)) = r.map fun o => .str (W (itm o)) := by
        rw [ew, cut_but, wD_map]
      rw [e2] at a1
      exact if_t t1 a1
    | false =>
      have ew : wD ws = r.map fun o => .str (W (itm o)) := by rw [hws, if_neg (by decide), List.append_nil, wD_map]
      refine if_f t1 ?_
      rw [← ew]; rfl
  have c3 := items_ok (os := r) (no := [46]) (by decide) (by omega) (by omega) (fun n hn => ok.item hr hn n rfl) itm (fun o ho => by cases o <;> rfl) (by decide) (Xr st l rows ends units cuts)
  have c4 := Lm.call_of (Lm.cons_of c2 (Lm.cons_of (str_of s_dot) v_aNil)) c3
  rw [Lm.seq_nx (Lm.asg_nx c4)]
  show seqM _ _ [.val (.ref (st.ob.length + 0)), .val (.lst (wD ws)), .val (.bl e), .val (rwD r)] (Xr st l rows ends units cuts) = _
  have t1 := is_of (f := rd 3) (env := [.val (.ref (st.ob.length + 0)), .val (.lst (wD ws)), .val (.bl e), .val (rwD r)]) (st := Xr st l rows ends units cuts) (s1 := Xr st l rows ends units cuts) (d := rwD r) rfl rfl
  rw [Lm.seq_nx (Lm.ifs_f t1 v_nxM)]
  have p1 := sapp_of (n := st.ob.length + 1) (ds := rows) (d := rwD r) (st := Xr st l rows ends units cuts) (env := [.val (.ref (st.ob.length + 0)), .val (.lst (wD ws)), .val (.bl e), .val (rwD r)]) (fo := fldM ["SchemeReader"] "rows" (rd 0)) (fx := rd 3) (by rw [Xs_at]; rfl) (by omega) (fld_X rfl rfl) rfl
  rw [Xs_put] at p1
  rw [Lm.seq_nx p1]
  have p2 := sapp_of (n := st.ob.length + 2) (ds := ends) (d := .bl e) (st := Xr st l (rows ++ [rwD r]) ends units cuts) (env := [.val (.ref (st.ob.length + 0)), .val (.lst (wD ws)), .val (.bl e), .val (rwD r)]) (fo := fldM ["SchemeReader"] "ends" (rd 0)) (fx := rd 2) (by rw [Xs_at]; rfl) (by omega) (fld_X rfl rfl) rfl
  rw [Xs_put] at p2
  show seqM _ _ _ (Xr st l (rows ++ [rwD r]) ends units cuts) = _
  rw [Lm.seq_nx p2]
  rfl
theorem runit_ok {us : List Nat} (hu : us ∈ s.units) (h1 : units.length ≤ 1000) : m_SchemeReader_read_unit [.ref (st.ob.length + 0), .lst (wD (us.map TL.numL))] (Xr st l rows ends units cuts) = some (.bl true, Xr st l rows ends (units ++ [unD us]) cuts) := by
  have hb : b_SchemeReader_read_unit = (seqM (asgM (nameT 2) (callM m_items_of (aCons (rd 1) (aCons (cst (.str "")) aNil))))
 (seqM (ifS (orM (tstM (opM isM (rd 2) (cst .non))) (tstM (opM (cntD false) (cst .non) (rd 2))))
 (retM (cst (.bl false)))
 nxM)
 (seqM (sappM (fldM ["SchemeReader"] "units" (rd 0)) (rd 2))
 (retM (cst (.bl true)))))) := rfl
  obtain ⟨hl, hn⟩ := ok.un us hu
  have hk0 := ok.k0
  have hk4 := ok.k4
  refine Lm.run_of ?_
  show b_SchemeReader_read_unit [.val (.ref (st.ob.length + 0)), .val (.lst (wD (us.map TL.numL))), .un] (Xr st l rows ends units cuts) = _
  rw [hb]
  have c3 := items_ok (os := us.map some) (no := []) (by intro c hc; cases hc) (by rw [List.length_map]; omega) (by rw [List.length_map]; omega) (fun n hn2 => by
    obtain ⟨m, hm, e⟩ := List.mem_map.mp hn2
    cases e
    have := hn n hm
    omega) (fun o => match o with | some n => TL.numL n | none => []) (fun o ho => by cases o <;> rfl) (by intro c hc; cases hc) (Xr st l rows ends units cuts)
  have e1 : ((us.map some).map fun o : Option Nat => D.str (W (match o with | some n => TL.numL n | none => []))) = wD (us.map TL.numL) := by
    rw [wD_map, List.map_map]; rfl
  have e2 : (us.map some).map oD = us.map nD := by
    rw [List.map_map]; rfl
  rw [e1, e2] at c3
  have c4 := Lm.call_of (Lm.cons_of (f := rd 1) (env := [.val (.ref (st.ob.length + 0)), .val (.lst (wD (us.map TL.numL))), .un]) (st := Xr st l rows ends units cuts) (s1 := Xr st l rows ends units cuts) rfl (Lm.cons_of (str_of empty_W) v_aNil)) c3
  rw [Lm.seq_nx (Lm.asg_nx c4)]
  show seqM _ _ [.val (.ref (st.ob.length + 0)), .val (.lst (wD (us.map TL.numL))), .val (unD us)] (Xr st l rows ends units cuts) = _
  have t1 := is_of (f := rd 2) (env := [.val (.ref (st.ob.length + 0)), .val (.lst (wD (us.map TL.numL))), .val (unD us)]) (st := Xr st l rows ends units cuts) (s1 := Xr st l rows ends units cuts) (d := unD us) rfl rfl
  have t2 : tstM (opM (cntD false) (cst .non) (rd 2)) [.val (.ref (st.ob.length + 0)), .val (.lst (wD (us.map TL.numL))), .val (unD us)] (Xr st l rows ends units cuts) = some (false, Xr st l rows ends units cuts) := by
    refine Lm.tst_of ?_
    rw [v_opM, v_cst, Option.bind_some]
    show ((cntD false .non (unD us)).map _) = _
    have hf : (us.map nD).all flatD = true := by
      rw [List.all_eq_true]
      intro d hd
      obtain ⟨n, _, rfl⟩ := List.mem_map.mp hd
      rfl
    have hb2 : inB .non (us.map nD) = false := by
      unfold inB
      rw [List.any_eq_false]
      intro d hd
      obtain ⟨n, _, rfl⟩ := List.mem_map.mp hd
      simp [eqFD]
    show ((if (flatD .non && (us.map nD).all flatD) = true then some (D.bl (if false = true then !inB .non (us.map nD) else inB .non (us.map nD))) else none).map _) = _
    rw [hf, hb2]; rfl
  rw [Lm.seq_nx (Lm.ifs_f (Lh.or_f t1 t2) v_nxM)]
  have p1 := sapp_of (n := st.ob.length + 3) (ds := units) (d := unD us) (st := Xr st l rows ends units cuts) (env := [.val (.ref (st.ob.length + 0)), .val (.lst (wD (us.map TL.numL))), .val (unD us)]) (fo := fldM ["SchemeReader"] "units" (rd 0)) (fx := rd 2) (by rw [Xs_at]; rfl) (by omega) (fld_X rfl rfl) rfl
  rw [Xs_put] at p1
  rw [Lm.seq_nx p1]
  rfl
theorem rcut_ok {c : Nat × Nat × List Nat} (hc : c ∈ s.cuts) (h1 : cuts.length ≤ 1000) : m_SchemeReader_read_cut [.ref (st.ob.length + 0), .lst (wD [TL.numL c.1, TL.numL c.2.1, clg c.2.2])] (Xr st l rows ends units cuts) = some (.bl true, Xr st l rows ends units (cuts ++ [cuD c])) := by
  have hb : b_SchemeReader_read_cut = (seqM (ifS (orM (tstM (opM neM (cbM lenA (aCons (rd 1) aNil)) (cst (.int 3)))) (notM (truM (callM m_are_clings (aCons (opM subD (rd 1) (cst (.int 2))) aNil)))))
 (retM (cst (.bl false)))
 nxM)
 (seqM (ifS (orM (notM (truM (callM m_is_figures (aCons (opM subD (rd 1) (cst (.int 0))) (aCons (cst (.int 9)) aNil))))) (notM (truM (callM m_is_figures (aCons (opM subD (rd 1) (cst (.int 1))) (aCons (cst (.int 9)) aNil))))))
 (retM (cst (.bl false)))
 nxM)
 (seqM (sappM (fldM ["SchemeReader"] "cuts" (rd 0)) (tupM (aCons (cbM intSM (aCons (opM subD (rd 1) (cst (.int 0))) aNil)) (aCons (cbM intSM (aCons (opM subD (rd 1) (cst (.int 1))) aNil)) (aCons (callM m_clings_of (aCons (opM subD (rd 1) (cst (.int 2))) aNil)) aNil)))))
 (retM (cst (.bl true)))))) := rfl
  obtain ⟨q1, q2, _⟩ := ok.cu c hc
  obtain ⟨q3, q4⟩ := ok.cl hc
  have hu2 := ok.u2
  have hk4 := ok.k4
  have q5 : ∀ x ∈ c.2.2, x ∈ ltr 4 := fun x hx => by
    obtain ⟨i, hi, rfl⟩ := List.mem_map.mp (q4 x hx)
    exact List.mem_map.mpr ⟨i, List.mem_range.mpr (by have := List.mem_range.mp hi; omega), rfl⟩
  obtain ⟨E, hE⟩ : ∃ E : Sg, E = [.val (.ref (st.ob.length + 0)), .val (.lst (wD [TL.numL c.1, TL.numL c.2.1, clg c.2.2]))] := ⟨_, rfl⟩
  obtain ⟨S1, hS⟩ : ∃ S1, S1 = Xr st l rows ends units cuts := ⟨_, rfl⟩
  refine Lm.run_of ?_
  show b_SchemeReader_read_cut [.val (.ref (st.ob.length + 0)), .val (.lst (wD [TL.numL c.1, TL.numL c.2.1, clg c.2.2]))] (Xr st l rows ends units cuts) = _
  rw [hb, ← hE, ← hS]
  have h1' : rd 1 E S1 = some (.lst (wD [TL.numL c.1, TL.numL c.2.1, clg c.2.2]), S1) := by rw [hE]; rfl
  have w0 := atL0 (d := .str (W (TL.numL c.1))) h1' rfl
  have w1 := atL1 (d := .str (W (TL.numL c.2.1))) h1' rfl
  have w2 := atL2 (d := .str (W (clg c.2.2))) h1' rfl
  have t1 := Lh.ne_int (h := cst (.int 3)) (j := 3) (s2 := S1) (lenL h1') rfl
  rw [decide_eq_false (by show ¬ ((3 : Int) ≠ 3); simp)] at t1
  have t2 := Lm.call_of (Lm.cons_of w2 v_aNil) (clings_ok q3 q5 S1)
  have fg : ∀ n, n ≤ 20 → m_is_figures [.str (W (TL.numL n)), nD 9] S1 = some (.bl true, S1) := fun n hn => by
    have f1 := fig_ok (w := TL.numL n) (fun c hc => by have := TL.numL_digits n c hc; omega) (by have := num2 hn; omega) S1
    rw [fig_num hn] at f1
    exact f1
  have t3 := Lm.call_of (Lm.cons_of w0 (Lm.cons_of (f := cst (.int 9)) (d := nD 9) (s1 := S1) rfl v_aNil)) (fg c.1 (by omega))
  have t4 := Lm.call_of (Lm.cons_of w1 (Lm.cons_of (f := cst (.int 9)) (d := nD 9) (s1 := S1) rfl v_aNil)) (fg c.2.1 q2)
  rw [Lm.seq_nx (Lm.ifs_f (Lh.or_f t1 (Lh.not_of (Lh.tru_of t2))) v_nxM), Lm.seq_nx (Lm.ifs_f (Lh.or_f (Lh.not_of (Lh.tru_of t3)) (Lh.not_of (Lh.tru_of t4))) v_nxM)]
  have v1 := Lm.cons_of (intS_of w0 (by omega)) (Lm.cons_of (intS_of w1 (by omega)) (Lm.cons_of (Lm.call_of (Lm.cons_of w2 v_aNil) (clingsof_ok q5 S1)) v_aNil))
  have v2 : tupM (aCons (cbM intSM (aCons (opM subD (rd 1) (cst (.int 0))) aNil)) (aCons (cbM intSM (aCons (opM subD (rd 1) (cst (.int 1))) aNil)) (aCons (callM m_clings_of (aCons (opM subD (rd 1) (cst (.int 2))) aNil)) aNil))) E S1 = some (cuD c, S1) := by
    rw [v_tupM, show (aCons (cbM intSM (aCons (opM subD (rd 1) (cst (.int 0))) aNil)) (aCons (cbM intSM (aCons (opM subD (rd 1) (cst (.int 1))) aNil)) (aCons (callM m_clings_of (aCons (opM subD (rd 1) (cst (.int 2))) aNil)) aNil))) E S1 = _ from v1, Option.bind_some]
    exact grd_of (show 3 ≤ 1000000 by decide)
  have p1 := sapp_of (n := st.ob.length + 4) (ds := cuts) (d := cuD c) (st := S1) (env := E) (fo := fldM ["SchemeReader"] "cuts" (rd 0)) (by rw [hS, Xs_at]; rfl) (by omega) (by rw [hS]; exact fld_X (by rw [hE]; rfl) rfl) v2
  rw [hS, Xs_put] at p1
  rw [hS, Lm.seq_nx p1]
  rfl
end
end Lw

set_option Elab.async false
set_option linter.all false
set_option maxRecDepth 100000
set_option maxHeartbeats 2000000
namespace Lw
open PySem MD L2 Lc
variable {ww : WW}
/-! ### lines are read -/
theorem refnil {f : ME} {env : Sg} {st : S} {n : Nat} {ds : List D} (hn : ∀ d ∈ ds, Nice d) (h : st.ob[n]? = some (.lst ds)) (hf : f env st = some (.ref n, st)) : tstM (opM neM f (frz (lstM aNil))) env st = some (!ds.isEmpty, st) ∧ tstM (opM eqM f (frz (lstM aNil))) env st = some (ds.isEmpty, st) ∧ opM neM f (frz (lstM aNil)) env st = some (.bl (!ds.isEmpty), st) := by
  have hd : dr st (.ref n) = .lst ds := by
    show (match st.ob[n]? with | some (.lst ds) => D.lst ds | some (.dic _ ks ds) => .dic ks ds | _ => .ref n) = _
    rw [h]
  have hl : frz (lstM aNil) env st = some (.lst [], st) := Lm.lst_of v_aNil (by simp)
  have e1 : opM neM f (frz (lstM aNil)) env st = some (.bl (!ds.isEmpty), st) := by
    rw [v_opM, hf, Option.bind_some]
    show (((frz (lstM aNil)) env st).bind fun q => (neM (dr q.2 (.ref n)) (dr q.2 q.1)).map fun z => (z, q.2)) = _
    rw [hl]
    show ((neM (dr st (.ref n)) (dr st (.lst []))).map fun z => (z, st)) = _
    rw [hd, dr_lst, ne_nil hn]; rfl
  have e2 : opM eqM f (frz (lstM aNil)) env st = some (.bl ds.isEmpty, st) := by
    rw [v_opM, hf, Option.bind_some]
    show (((frz (lstM aNil)) env st).bind fun q => (eqM (dr q.2 (.ref n)) (dr q.2 q.1)).map fun z => (z, q.2)) = _
    rw [hl]
    show ((eqM (dr st (.ref n)) (dr st (.lst []))).map fun z => (z, st)) = _
    rw [hd, dr_lst, eq_nil hn]; rfl
  exact ⟨Lm.tst_of e1, Lm.tst_of e2, e1⟩
theorem nice_row (r : List (Option Nat)) : Nice (rwD r) := (Lh.Nd.tup (n := 0) fun d hd => by
  obtain ⟨o, _, rfl⟩ := List.mem_map.mp hd
  cases o with
  | none => exact Lh.Nd.non
  | some n => exact Lh.Nd.int _).nice (by decide)
theorem nice_un (us : List Nat) : Nice (unD us) := (Lh.Nd.tup (n := 0) fun d hd => by
  obtain ⟨o, _, rfl⟩ := List.mem_map.mp hd
  exact Lh.Nd.int _).nice (by decide)
theorem nice_rows (rs : List (List (Option Nat))) : ∀ d ∈ rs.map rwD, Nice d := fun d hd => by
  obtain ⟨r, _, rfl⟩ := List.mem_map.mp hd
  exact nice_row r
theorem nice_uns (us : List (List Nat)) : ∀ d ∈ us.map unD, Nice d := fun d hd => by
  obtain ⟨r, _, rfl⟩ := List.mem_map.mp hd
  exact nice_un r
noncomputable def rE1 : ME := (methM "SchemeReader" "read_letters" m_SchemeReader_read_letters (rd 0) (aCons (rd 3) aNil))
noncomputable def rE2 : ME := (methM "SchemeReader" "read_state" m_SchemeReader_read_state (rd 0) (aCons (slM slAny (rd 3) (prt (cst (.int 1))) noP) aNil))
noncomputable def rE3 : ME := (methM "SchemeReader" "read_unit" m_SchemeReader_read_unit (rd 0) (aCons (slM slAny (rd 3) (prt (cst (.int 1))) noP) aNil))
noncomputable def rE4 : ME := (methM "SchemeReader" "read_cut" m_SchemeReader_read_cut (rd 0) (aCons (slM slAny (rd 3) (prt (cst (.int 1))) noP) aNil))
theorem b_read : b_SchemeReader_read = (seqM (asgM (nameT 3) (frz (splM (rd 2) (cst (.str " ")))))
 (seqM (ifS (tstM (opM eqM (rd 1) (cst (.int 0)))) (retM rE1) nxM)
 (seqM (ifS (andM (tstM (opM eqM (opM subD (rd 3) (cst (.int 0))) (cst (.str "state")))) (tstM (opM eqM (fldM ["SchemeReader"] "units" (rd 0)) (frz (lstM aNil))))) (retM rE2) nxM)
 (seqM (ifS (andM (tstM (opM eqM (opM subD (rd 3) (cst (.int 0))) (cst (.str "unit")))) (andM (tstM (opM neM (fldM ["SchemeReader"] "rows" (rd 0)) (frz (lstM aNil)))) (tstM (opM eqM (fldM ["SchemeReader"] "cuts" (rd 0)) (frz (lstM aNil)))))) (retM rE3) nxM)
 (retM (andV (opM eqM (opM subD (rd 3) (cst (.int 0))) (cst (.str "cut"))) (andV (opM neM (fldM ["SchemeReader"] "units" (rd 0)) (frz (lstM aNil))) rE4))))))) := rfl
abbrev envR (st : S) (i : Nat) (ws : List (List Nat)) : Sg := [.val (.ref (st.ob.length + 0)), .val (nD i), .val (.str (W (ln ws))), .val (.lst (wD ws))]
section
variable {s : Sm} (ok : s.Ok) (st : S)
theorem read_head {ws : List (List Nat)} (h0 : ws ≠ []) (h6 : ws.length ≤ 6) (hw : ∀ p ∈ ws, Wd p) (i l : Nat) (rows ends units cuts : List D) : asgM (nameT 3) (frz (splM (rd 2) (cst (.str " ")))) [.val (.ref (st.ob.length + 0)), .val (nD i), .val (.str (W (ln ws))), .un] (Xr st l rows ends units cuts) = some (.nx (envR st i ws), Xr st l rows ends units cuts) := by
  have e := spl_of (c := 32) (ps := ws) (f := rd 2) (env := [.val (.ref (st.ob.length + 0)), .val (nD i), .val (.str (W (ln ws))), .un]) (st := Xr st l rows ends units cuts) (s1 := Xr st l rows ends units cuts) (by decide) h0 (fun p hp h => by
    have := (hw p hp).f 32 h
    omega) rfl (str_of s_blank) (by have := (ln_ok h6 hw).1; show (ln ws).length ≤ 900000; omega)
  rw [Lm.asg_nx e]; rfl
theorem tail_of {w : List Nat} {ws : List (List Nat)} (i l : Nat) (rows ends units cuts : List D) : aCons (slM slAny (rd 3) (prt (cst (.int 1))) noP) aNil (envR st i (w :: ws)) (Xr st l rows ends units cuts) = some ([.lst (wD ws)], Xr st l rows ends units cuts) := by
  have e := slL (f := rd 3) (fl := prt (cst (.int 1))) (fh := noP) (env := envR st i (w :: ws)) (st := Xr st l rows ends units cuts) (s1 := Xr st l rows ends units cuts) (s2 := Xr st l rows ends units cuts) (s3 := Xr st l rows ends units cuts) (ds := wD (w :: ws)) (lo := some 1) (hi := none) rfl rfl rfl
  have ec : cutD (wD (w :: ws)) (some 1) none = wD ws := cut_tl
  rw [ec] at e
  exact Lm.cons_of e v_aNil
theorem head_of {w : List Nat} {ws : List (List Nat)} (i l : Nat) (rows ends units cuts : List D) : opM subD (rd 3) (cst (.int 0)) (envR st i (w :: ws)) (Xr st l rows ends units cuts) = some (.str (W w), Xr st l rows ends units cuts) := atL0 (f := rd 3) (s1 := Xr st l rows ends units cuts) (ds := wD (w :: ws)) rfl rfl
theorem first_of (i l : Nat) (ws : List (List Nat)) (rows ends units cuts : List D) : tstM (opM eqM (rd 1) (cst (.int 0))) (envR st i ws) (Xr st l rows ends units cuts) = some (decide (i = 0), Xr st l rows ends units cuts) := by
  have := Lh.eq_int (f := rd 1) (h := cst (.int 0)) (i := ((i : Nat) : Int)) (j := 0) (env := envR st i ws) (st := Xr st l rows ends units cuts) (s1 := Xr st l rows ends units cuts) (s2 := Xr st l rows ends units cuts) rfl rfl
  rw [this]
  congr 2
  rw [Bool.eq_iff_iff, decide_eq_true_iff, decide_eq_true_iff]
  omega
include ok
theorem read_letters : m_SchemeReader_read [.ref (st.ob.length + 0), nD 0, .str (W (ln (wle s.k)))] (Xr st 0 [] [] [] []) = some (.bl true, Xr st s.k [] [] [] []) := by
  obtain ⟨w1, w2⟩ := wle_wd ok
  refine Lm.run_of ?_
  show b_SchemeReader_read [.val (.ref (st.ob.length + 0)), .val (nD 0), .val (.str (W (ln (wle s.k)))), .un] (Xr st 0 [] [] [] []) = _
  rw [b_read, Lm.seq_nx (read_head st (by unfold wle; simp) w1 w2 0 0 [] [] [] [])]
  have t1 := first_of st 0 0 (wle s.k) [] [] [] []
  rw [decide_eq_true rfl] at t1
  have e1 : rE1 (envR st 0 (wle s.k)) (Xr st 0 [] [] [] []) = some (.bl true, Xr st s.k [] [] [] []) :=
    Lm.meth_of (s1 := Xr st 0 [] [] [] []) (s2 := Xr st 0 [] [] [] []) (n := st.ob.length + 0) (fs := fS) rfl (by rw [Xs_at]; rfl) (by decide) (Lm.cons_of (f := rd 3) (s1 := Xr st 0 [] [] [] []) rfl v_aNil) (rletters_ok ok.k0 ok.k4 st [] [] [] [])
  exact Lm.seq_rt (Lm.ifs_t t1 (Lm.ret_of e1))
theorem read_state {r : List (Option Nat)} (hr : r ∈ s.rows) (e : Bool) {i : Nat} (hi : i ≠ 0) (l : Nat) (rows ends : List D) (h1 : rows.length ≤ 1000) (h2 : ends.length ≤ 1000) : m_SchemeReader_read [.ref (st.ob.length + 0), nD i, .str (W (ln (wst r e)))] (Xr st l rows ends [] []) = some (.bl true, Xr st l (rows ++ [rwD r]) (ends ++ [.bl e]) [] []) := by
  obtain ⟨w1, w2⟩ := wst_wd ok hr e
  refine Lm.run_of ?_
  show b_SchemeReader_read [.val (.ref (st.ob.length + 0)), .val (nD i), .val (.str (W (ln (wst r e)))), .un] (Xr st l rows ends [] []) = _
  rw [b_read, Lm.seq_nx (read_head st (by unfold wst; simp) w1 w2 i l rows ends [] [])]
  have t1 := first_of st i l (wst r e) rows ends [] []
  rw [decide_eq_false hi] at t1
  rw [Lm.seq_nx (Lm.ifs_f t1 v_nxM)]
  have hh : opM subD (rd 3) (cst (.int 0)) (envR st i (wst r e)) (Xr st l rows ends [] []) = some (.str (W stW), Xr st l rows ends [] []) := head_of st (w := stW) (ws := r.map itm ++ if e = true then [enW] else []) i l rows ends [] []
  have t2 := Lm.tst_of (eq_W hh (str_of s_state))
  rw [decide_eq_true rfl] at t2
  have t3 := (refnil (f := fldM ["SchemeReader"] "units" (rd 0)) (env := envR st i (wst r e)) (st := Xr st l rows ends [] []) (n := st.ob.length + 3) (ds := []) (by intro d hd; cases hd) (by rw [Xs_at]; rfl) (fld_X rfl rfl)).2.1
  have e1 : rE2 (envR st i (wst r e)) (Xr st l rows ends [] []) = some (.bl true, Xr st l (rows ++ [rwD r]) (ends ++ [.bl e]) [] []) :=
    Lm.meth_of (s1 := Xr st l rows ends [] []) (s2 := Xr st l rows ends [] []) (n := st.ob.length + 0) (fs := fS) rfl (by rw [Xs_at]; rfl) (by decide) (tail_of st i l rows ends [] []) (rstate_ok ok st l rows ends [] [] hr e h1 h2)
  exact Lm.seq_rt (Lm.ifs_t (Lh.and_t t2 t3) (Lm.ret_of e1))
theorem read_unit {us : List Nat} (hu : us ∈ s.units) {i : Nat} (hi : i ≠ 0) (l : Nat) (rows ends units : List D) (h1 : units.length ≤ 1000) (hr : rows ≠ []) (nr : ∀ d ∈ rows, Nice d) : m_SchemeReader_read [.ref (st.ob.length + 0), nD i, .str (W (ln (wun us)))] (Xr st l rows ends units []) = some (.bl true, Xr st l rows ends (units ++ [unD us]) []) := by
  obtain ⟨w1, w2⟩ := wun_wd ok hu
  refine Lm.run_of ?_
  show b_SchemeReader_read [.val (.ref (st.ob.length + 0)), .val (nD i), .val (.str (W (ln (wun us)))), .un] (Xr st l rows ends units []) = _
  rw [b_read, Lm.seq_nx (read_head st (by unfold wun; simp) w1 w2 i l rows ends units [])]
  have t1 := first_of st i l (wun us) rows ends units []
  rw [decide_eq_false hi] at t1
  rw [Lm.seq_nx (Lm.ifs_f t1 v_nxM)]
  have hh : opM subD (rd 3) (cst (.int 0)) (envR st i (wun us)) (Xr st l rows ends units []) = some (.str (W unW), Xr st l rows ends units []) := head_of st (w := unW) (ws := us.map TL.numL) i l rows ends units []
  have t2 := Lm.tst_of (eq_W hh (str_of s_state))
  rw [decide_eq_false (by decide)] at t2
  rw [Lm.seq_nx (Lm.ifs_f (Lh.and_f t2) v_nxM)]
  have t3 := Lm.tst_of (eq_W hh (str_of s_unit))
  rw [decide_eq_true rfl] at t3
  have t4 := (refnil (f := fldM ["SchemeReader"] "rows" (rd 0)) (env := envR st i (wun us)) (st := Xr st l rows ends units []) (n := st.ob.length + 1) (ds := rows) nr (by rw [Xs_at]; rfl) (fld_X rfl rfl)).1
  have hre : (!rows.isEmpty) = true := by
    cases rows with
    | nil => exact absurd rfl hr
    | cons a b => rfl
  rw [hre] at t4
  have t5 := (refnil (f := fldM ["SchemeReader"] "cuts" (rd 0)) (env := envR st i (wun us)) (st := Xr st l rows ends units []) (n := st.ob.length + 4) (ds := []) (by intro d hd; cases hd) (by rw [Xs_at]; rfl) (fld_X rfl rfl)).2.1
  have e1 : rE3 (envR st i (wun us)) (Xr st l rows ends units []) = some (.bl true, Xr st l rows ends (units ++ [unD us]) []) :=
    Lm.meth_of (s1 := Xr st l rows ends units []) (s2 := Xr st l rows ends units []) (n := st.ob.length + 0) (fs := fS) rfl (by rw [Xs_at]; rfl) (by decide) (tail_of st i l rows ends units []) (runit_ok ok st l rows ends units [] hu h1)
  exact Lm.seq_rt (Lm.ifs_t (Lh.and_t t3 (Lh.and_t t4 t5)) (Lm.ret_of e1))
theorem read_cut {c : Nat × Nat × List Nat} (hc : c ∈ s.cuts) {i : Nat} (hi : i ≠ 0) (l : Nat) (rows ends units cuts : List D) (h1 : cuts.length ≤ 1000) (hr : units ≠ []) (nr : ∀ d ∈ units, Nice d) : m_SchemeReader_read [.ref (st.ob.length + 0), nD i, .str (W (ln (wcu c)))] (Xr st l rows ends units cuts) = some (.bl true, Xr st l rows ends units (cuts ++ [cuD c])) := by
  obtain ⟨w1, w2⟩ := wcu_wd ok hc
  refine Lm.run_of ?_
  show b_SchemeReader_read [.val (.ref (st.ob.length + 0)), .val (nD i), .val (.str (W (ln (wcu c)))), .un] (Xr st l rows ends units cuts) = _
  rw [b_read, Lm.seq_nx (read_head st (by unfold wcu; simp) w1 w2 i l rows ends units cuts)]
  have t1 := first_of st i l (wcu c) rows ends units cuts
  rw [decide_eq_false hi] at t1
  rw [Lm.seq_nx (Lm.ifs_f t1 v_nxM)]
  have hh : opM subD (rd 3) (cst (.int 0)) (envR st i (wcu c)) (Xr st l rows ends units cuts) = some (.str (W cuW), Xr st l rows ends units cuts) := head_of st (w := cuW) (ws := [TL.numL c.1, TL.numL c.2.1, clg c.2.2]) i l rows ends units cuts
  have t2 := Lm.tst_of (eq_W hh (str_of s_state))
  rw [decide_eq_false (by decide)] at t2
  rw [Lm.seq_nx (Lm.ifs_f (Lh.and_f t2) v_nxM)]
  have t3 := Lm.tst_of (eq_W hh (str_of s_unit))
  rw [decide_eq_false (by decide)] at t3
  rw [Lm.seq_nx (Lm.ifs_f (Lh.and_f t3) v_nxM)]
  have t4 := eq_W hh (str_of s_cut)
  rw [decide_eq_true rfl] at t4
  have t5 := (refnil (f := fldM ["SchemeReader"] "units" (rd 0)) (env := envR st i (wcu c)) (st := Xr st l rows ends units cuts) (n := st.ob.length + 3) (ds := units) nr (by rw [Xs_at]; rfl) (fld_X rfl rfl)).2.2
  have hre : (!units.isEmpty) = true := by
    cases units with
    | nil => exact absurd rfl hr
    | cons a b => rfl
  rw [hre] at t5
  have e1 : rE4 (envR st i (wcu c)) (Xr st l rows ends units cuts) = some (.bl true, Xr st l rows ends units (cuts ++ [cuD c])) :=
    Lm.meth_of (s1 := Xr st l rows ends units cuts) (s2 := Xr st l rows ends units cuts) (n := st.ob.length + 0) (fs := fS) rfl (by rw [Xs_at]; rfl) (by decide) (tail_of st i l rows ends units cuts) (rcut_ok ok st l rows ends units cuts hc h1)
  refine Lm.ret_of ?_
  have a1 : andV (opM neM (fldM ["SchemeReader"] "units" (rd 0)) (frz (lstM aNil))) rE4 (envR st i (wcu c)) (Xr st l rows ends units cuts) = some (.bl true, Xr st l rows ends units (cuts ++ [cuD c])) := by
    rw [v_andV, t5, Option.bind_some]
    exact e1
  rw [v_andV, show opM eqM (opM subD (rd 3) (cst (.int 0))) (cst (.str "cut")) (envR st i (wcu c)) (Xr st l rows ends units cuts) = _ from t4, Option.bind_some]
  exact a1
end
end Lw

set_option Elab.async false
set_option linter.all false
set_option maxRecDepth 100000
set_option maxHeartbeats 2000000
namespace Lw
open PySem MD L2 Lc
variable {ww : WW}
/-! ### nothing is wrong with a scheme -/
theorem isi_of {T : String} {f : ME} {env : Sg} {st s1 : S} {d : D} {b : Bool} (h : f env st = some (d, s1)) (hd : dr s1 d = d) (ht : ((tyD d).bind fun t => kitB t T) = some b) : isiM T f env st = some (.bl b, s1) := by
  unfold isiM
  rw [h, Option.bind_some]
  show ((tyD (dr s1 d)).bind fun t => (kitB t T).map fun b => (D.bl b, s1)) = _
  rw [hd]
  cases hq : tyD d with
  | none => rw [hq] at ht; cases ht
  | some t =>
    rw [hq] at ht
    have ht : kitB t T = some b := ht
    show (kitB t T).map _ = _
    rw [ht]; rfl
theorem isiT {f : ME} {env : Sg} {st s1 : S} {ds : List D} (h : f env st = some (.tup ds, s1)) : isiM "tuple" f env st = some (.bl true, s1) := isi_of h rfl (by show kitB "tuple" "tuple" = some true; decide +kernel)
theorem isiS {f : ME} {env : Sg} {st s1 : S} {x : Str} (h : f env st = some (.str x, s1)) : isiM "str" f env st = some (.bl true, s1) := isi_of h rfl (by show kitB "str" "str" = some true; decide +kernel)
theorem isiI {f : ME} {env : Sg} {st s1 : S} {i : Int} (h : f env st = some (.int i, s1)) : isiM "int" f env st = some (.bl true, s1) ∧ isiM "bool" f env st = some (.bl false, s1) := ⟨isi_of h rfl (by show kitB "int" "int" = some true; decide +kernel), isi_of h rfl (by show kitB "int" "bool" = some false; decide +kernel)⟩
theorem isiB {f : ME} {env : Sg} {st s1 : S} {b : Bool} (h : f env st = some (.bl b, s1)) : isiM "bool" f env st = some (.bl true, s1) := isi_of h rfl (by show kitB "bool" "bool" = some true; decide +kernel)
theorem notV_of {f : ME} {env : Sg} {st s1 : S} {b : Bool} (h : f env st = some (.bl b, s1)) : notV f env st = some (.bl (!b), s1) := by
  simp [h]
theorem intw_ok (i a b : Int) (st : S) : m_is_integer_words [.int i, .int a, .int b] st = some (.bl (decide (a ≤ i ∧ i ≤ b)), st) := by
  have hb : b_is_integer_words = (retM (andV (isiM "int" (rd 0)) (andV (notV (isiM "bool" (rd 0))) (chM leM leM (rd 1) (rd 0) (rd 2))))) := rfl
  refine Lm.run_of ?_
  show b_is_integer_words [.val (.int i), .val (.int a), .val (.int b)] st = _
  rw [hb]
  obtain ⟨h1, h2⟩ := isiI (f := rd 0) (env := [.val (.int i), .val (.int a), .val (.int b)]) (st := st) (s1 := st) (i := i) rfl
  exact Lm.ret_of ((andV_of h1 fun _ => andV_of (notV_of h2) fun _ => ch_of (f := rd 1) (h := rd 0) (k := rd 2) rfl rfl rfl).trans (by simp))
theorem intc_ok (i a b : Int) (st : S) : m_is_integer_cuts [.int i, .int a, .int b] st = some (.bl (decide (a ≤ i ∧ i ≤ b)), st) := intw_ok i a b st
theorem lenT {f : ME} {env : Sg} {st s1 : S} {ds : List D} (h : f env st = some (.tup ds, s1)) : cbM lenA (aCons f aNil) env st = some (.int ((ds.length : Nat) : Int), s1) := by
  rw [v_cbM, Lm.cons_of h v_aNil, Option.bind_some]; rfl
/-- nothing is left of a tuple's items -/
theorem nothing {α : Type} {t : MG} {c : MT} {f : ME} {env env1 : Sg} {st : S} {F : α → D} {en : α → Sg} {fi : ME} {vs : List Nat} {l : List α} (hi : fi env st = some (.tup (l.map F), st)) (hl : l.length ≤ 1000) (hw : wipeE env vs = env1) (h : ∀ a ∈ l, t (F a) env1 = some (en a) ∧ c (en a) st = some (false, st) ∧ f (en a) st = some (F a, st)) :
    opM eqM (frz (compM (seqI fi) t c f vs)) (frz (lstM aNil)) env st = some (.bl true, st) := by
  have hs : seqI fi env st = some (l.map F, st) := by rw [v_seqI, hi]; rfl
  have c1 := comp_fil (q := fun _ => false) (G := F) hs (by omega) hw h
  rw [List.filter_eq_nil_iff.mpr (by simp)] at c1
  exact eqnil_of c1 (by intro d hd; cases hd)
section
variable {s : Sm} (ok : s.Ok) (st : S)
include ok
theorem row_none {r : List (Option Nat)} (hr : r ∈ s.rows) : m_is_row [rwD r, nD s.k, nD s.rows.length] st = some (.bl true, st) := by
  have hb : b_is_row = (seqM (ifS (orM (notM (truM (isiM "tuple" (rd 0)))) (tstM (opM neM (cbM lenA (aCons (rd 0) aNil)) (rd 1))))
 (retM (cst (.bl false)))
 nxM)
 (retM (opM eqM (frz (compM (seqI (rd 0)) (nameT 3) (andM (tstM (opM isNotM (rd 3) (cst .non))) (notM (truM (callM m_is_integer_words (aCons (rd 3) (aCons (cst (.int 0)) (aCons (opM subM (rd 2) (cst (.int 1))) aNil))))))) (rd 3) [3])) (frz (lstM aNil))))) := rfl
  obtain ⟨hl, hn⟩ := ok.row r hr
  have hk4 := ok.k4
  have hr0 := ok.r0
  refine Lm.run_of ?_
  show b_is_row [.val (rwD r), .val (nD s.k), .val (nD s.rows.length), .un] st = _
  rw [hb]
  have t1 := Lh.not_of (Lh.tru_of (isiT (f := rd 0) (env := [.val (rwD r), .val (nD s.k), .val (nD s.rows.length), .un]) (st := st) (s1 := st) (ds := r.map oD) rfl))
  have t2 := Lh.ne_int (h := rd 1) (j := ((s.k : Nat) : Int)) (s2 := st) (lenT (f := rd 0) (env := [.val (rwD r), .val (nD s.k), .val (nD s.rows.length), .un]) (st := st) (s1 := st) (ds := r.map oD) rfl) rfl
  rw [decide_eq_false (by rw [List.length_map, hl]; simp)] at t2
  rw [Lm.seq_nx (Lm.ifs_f (Lh.or_f t1 t2) v_nxM)]
  refine Lm.ret_of (nothing (F := oD) (en := fun o => [.val (rwD r), .val (nD s.k), .val (nD s.rows.length), .val (oD o)]) (l := r) rfl (by omega) rfl fun o ho => ⟨rfl, ?_, rfl⟩)
  have t1 := Lc.isnot_of (f := rd 3) (env := [.val (rwD r), .val (nD s.k), .val (nD s.rows.length), .val (oD o)]) (st := st) (s1 := st) (d := oD o) rfl (by cases o <;> rfl)
  cases o with
  | none => exact Lh.and_f t1
  | some n =>
    have := hn n ho
    have a1 : opM subM (rd 2) (cst (.int 1)) [.val (rwD r), .val (nD s.k), .val (nD s.rows.length), .val (oD (some n))] st = some (.int (((s.rows.length : Nat) : Int) - 1), st) := rfl
    have c1 := Lm.call_of (Lm.cons_of (f := rd 3) (d := .int ((n : Nat) : Int)) (s1 := st) rfl (Lm.cons_of (f := cst (.int 0)) (d := .int 0) (s1 := st) rfl (Lm.cons_of a1 v_aNil))) (intw_ok ((n : Nat) : Int) 0 (((s.rows.length : Nat) : Int) - 1) st)
    rw [decide_eq_true (by omega)] at c1
    exact Lh.and_t t1 (Lh.not_of (Lh.tru_of c1))
theorem rows_none : m_are_rows [.tup (s.rows.map rwD), nD s.k] st = some (.bl true, st) := by
  have hb : b_are_rows = (seqM (ifS (orM (notM (truM (isiM "tuple" (rd 0)))) (notM (tstM (chM leM leM (cst (.int 1)) (cbM lenA (aCons (rd 0) aNil)) (cst (.int 8))))))
 (retM (cst (.bl false)))
 nxM)
 (retM (opM eqM (frz (compM (seqI (rd 0)) (nameT 2) (notM (truM (callM m_is_row (aCons (rd 2) (aCons (rd 1) (aCons (cbM lenA (aCons (rd 0) aNil)) aNil)))))) (rd 2) [2])) (frz (lstM aNil))))) := rfl
  have hr0 := ok.r0
  have hr8 := ok.r8
  refine Lm.run_of ?_
  show b_are_rows [.val (.tup (s.rows.map rwD)), .val (nD s.k), .un] st = _
  rw [hb]
  have hlen : ∀ x, cbM lenA (aCons (rd 0) aNil) [.val (.tup (s.rows.map rwD)), .val (nD s.k), x] st = some (.int ((s.rows.length : Nat) : Int), st) := fun x => by
    have := lenT (f := rd 0) (env := [.val (.tup (s.rows.map rwD)), .val (nD s.k), x]) (st := st) (s1 := st) (ds := s.rows.map rwD) rfl
    rw [List.length_map] at this
    exact this
  have t1 := Lh.not_of (Lh.tru_of (isiT (f := rd 0) (env := [.val (.tup (s.rows.map rwD)), .val (nD s.k), .un]) (st := st) (s1 := st) (ds := s.rows.map rwD) rfl))
  have c2 := ch_of (f := cst (.int 1)) (k := cst (.int 8)) (a := 1) (c := 8) rfl (hlen .un) rfl
  rw [decide_eq_true (by omega)] at c2
  rw [Lm.seq_nx (Lm.ifs_f (Lh.or_f t1 (Lh.not_of (Lm.tst_of c2))) v_nxM)]
  refine Lm.ret_of (nothing (F := rwD) (en := fun r => [.val (.tup (s.rows.map rwD)), .val (nD s.k), .val (rwD r)]) (l := s.rows) rfl (by omega) rfl fun r hr => ⟨rfl, ?_, rfl⟩)
  exact Lh.not_of (Lh.tru_of (Lm.call_of (Lm.cons_of (f := rd 2) (s1 := st) rfl (Lm.cons_of (f := rd 1) (s1 := st) rfl (Lm.cons_of (hlen _) v_aNil))) (row_none ok st hr)))
theorem ends_none : m_are_ends [.tup (s.ends.map D.bl), nD s.rows.length] st = some (.bl true, st) := by
  have hb : b_are_ends = (seqM (ifS (orM (notM (truM (isiM "tuple" (rd 0)))) (tstM (opM neM (cbM lenA (aCons (rd 0) aNil)) (rd 1))))
 (retM (cst (.bl false)))
 nxM)
 (retM (opM eqM (frz (compM (seqI (rd 0)) (nameT 2) (notM (truM (isiM "bool" (rd 2)))) (rd 2) [2])) (frz (lstM aNil))))) := rfl
  have hr8 := ok.r8
  have hen := ok.en
  refine Lm.run_of ?_
  show b_are_ends [.val (.tup (s.ends.map D.bl)), .val (nD s.rows.length), .un] st = _
  rw [hb]
  have t1 := Lh.not_of (Lh.tru_of (isiT (f := rd 0) (env := [.val (.tup (s.ends.map D.bl)), .val (nD s.rows.length), .un]) (st := st) (s1 := st) (ds := s.ends.map D.bl) rfl))
  have t2 := Lh.ne_int (h := rd 1) (j := ((s.rows.length : Nat) : Int)) (s2 := st) (lenT (f := rd 0) (env := [.val (.tup (s.ends.map D.bl)), .val (nD s.rows.length), .un]) (st := st) (s1 := st) (ds := s.ends.map D.bl) rfl) rfl
  rw [decide_eq_false (by rw [List.length_map, hen]; simp)] at t2
  rw [Lm.seq_nx (Lm.ifs_f (Lh.or_f t1 t2) v_nxM)]
  refine Lm.ret_of (nothing (F := D.bl) (en := fun b => [.val (.tup (s.ends.map D.bl)), .val (nD s.rows.length), .val (.bl b)]) (l := s.ends) rfl (by omega) rfl fun b hb => ⟨rfl, ?_, rfl⟩)
  exact Lh.not_of (Lh.tru_of (isiB (f := rd 2) (s1 := st) (b := b) rfl))
theorem kind_none : m_kind_error [kiD s] st = some (.non, st) := by
  have hb : b_kind_error = (seqM (ifS (orM (notM (truM (isiM "tuple" (rd 0)))) (tstM (opM neM (cbM lenA (aCons (rd 0) aNil)) (cst (.int 3)))))
 (retM (cst (.str "kind")))
 nxM)
 (seqM (ifS (notM (truM (callM m_is_integer_words (aCons (opM subD (rd 0) (cst (.int 0))) (aCons (cst (.int 1)) (aCons (cst (.int 4)) aNil))))))
 (retM (cst (.str "letters")))
 nxM)
 (seqM (ifS (notM (truM (callM m_are_rows (aCons (opM subD (rd 0) (cst (.int 1))) (aCons (opM subD (rd 0) (cst (.int 0))) aNil)))))
 (retM (cst (.str "rows")))
 nxM)
 (retM (ifM (truM (callM m_are_ends (aCons (opM subD (rd 0) (cst (.int 2))) (aCons (cbM lenA (aCons (opM subD (rd 0) (cst (.int 1))) aNil)) aNil)))) (cst .non) (cst (.str "ends"))))))) := rfl
  have hk0 := ok.k0
  have hk4 := ok.k4
  refine Lm.run_of ?_
  show b_kind_error [.val (kiD s)] st = _
  rw [hb]
  obtain ⟨k0, k1, k2⟩ := at3 (f := rd 0) (env := [.val (kiD s)]) (st := st) (d0 := nD s.k) (d1 := .tup (s.rows.map rwD)) (d2 := .tup (s.ends.map D.bl)) rfl
  have t1 := Lh.not_of (Lh.tru_of (isiT (f := rd 0) (env := [.val (kiD s)]) (st := st) (s1 := st) (ds := [nD s.k, .tup (s.rows.map rwD), .tup (s.ends.map D.bl)]) rfl))
  have t2 := Lh.ne_int (h := cst (.int 3)) (j := 3) (s2 := st) (lenT (f := rd 0) (env := [.val (kiD s)]) (st := st) (s1 := st) (ds := [nD s.k, .tup (s.rows.map rwD), .tup (s.ends.map D.bl)]) rfl) rfl
  rw [decide_eq_false (by show ¬ ((3 : Int) ≠ 3); simp)] at t2
  rw [Lm.seq_nx (Lm.ifs_f (Lh.or_f t1 t2) v_nxM)]
  have c1 := Lm.call_of (Lm.cons_of k0 (Lm.cons_of (f := cst (.int 1)) (d := .int 1) (s1 := st) rfl (Lm.cons_of (f := cst (.int 4)) (d := .int 4) (s1 := st) rfl v_aNil))) (intw_ok ((s.k : Nat) : Int) 1 4 st)
  rw [decide_eq_true (by omega)] at c1
  rw [Lm.seq_nx (Lm.ifs_f (Lh.not_of (Lh.tru_of c1)) v_nxM)]
  have c2 := Lm.call_of (Lm.cons_of k1 (Lm.cons_of k0 v_aNil)) (rows_none ok st)
  rw [Lm.seq_nx (Lm.ifs_f (Lh.not_of (Lh.tru_of c2)) v_nxM)]
  have hl := lenT k1
  rw [List.length_map] at hl
  have c3 := Lm.call_of (Lm.cons_of k2 (Lm.cons_of hl v_aNil)) (ends_none ok st)
  exact Lm.ret_of (if_t (Lh.tru_of c3) rfl)
theorem unit_none {us : List Nat} (hu : us ∈ s.units) : m_is_unit [nD s.k, unD us] st = some (.bl true, st) := by
  have hb : b_is_unit = (seqM (ifS (orM (notM (truM (isiM "tuple" (rd 1)))) (tstM (opM neM (cbM lenA (aCons (rd 1) aNil)) (rd 0))))
 (retM (cst (.bl false)))
 nxM)
 (retM (opM eqM (frz (compM (seqI (rd 1)) (nameT 2) (notM (truM (callM m_is_integer_cuts (aCons (rd 2) (aCons (cst (.int 0)) (aCons (cst (.int 9)) aNil)))))) (rd 2) [2])) (frz (lstM aNil))))) := rfl
  obtain ⟨hl, hn⟩ := ok.un us hu
  have hk4 := ok.k4
  refine Lm.run_of ?_
  show b_is_unit [.val (nD s.k), .val (unD us), .un] st = _
  rw [hb]
  have t1 := Lh.not_of (Lh.tru_of (isiT (f := rd 1) (env := [.val (nD s.k), .val (unD us), .un]) (st := st) (s1 := st) (ds := us.map nD) rfl))
  have t2 := Lh.ne_int (h := rd 0) (j := ((s.k : Nat) : Int)) (s2 := st) (lenT (f := rd 1) (env := [.val (nD s.k), .val (unD us), .un]) (st := st) (s1 := st) (ds := us.map nD) rfl) rfl
  rw [decide_eq_false (by rw [List.length_map, hl]; simp)] at t2
  rw [Lm.seq_nx (Lm.ifs_f (Lh.or_f t1 t2) v_nxM)]
  refine Lm.ret_of (nothing (F := nD) (en := fun n => [.val (nD s.k), .val (unD us), .val (nD n)]) (l := us) rfl (by omega) rfl fun n hnu => ⟨rfl, ?_, rfl⟩)
  have := hn n hnu
  have c1 := Lm.call_of (Lm.cons_of (f := rd 2) (env := [.val (nD s.k), .val (unD us), .val (nD n)]) (st := st) (d := .int ((n : Nat) : Int)) (s1 := st) rfl (Lm.cons_of (f := cst (.int 0)) (d := .int 0) (s1 := st) rfl (Lm.cons_of (f := cst (.int 9)) (d := .int 9) (s1 := st) rfl v_aNil))) (intc_ok ((n : Nat) : Int) 0 9 st)
  rw [decide_eq_true (by omega)] at c1
  exact Lh.not_of (Lh.tru_of c1)
theorem units_none : m_are_units [nD s.k, .tup (s.units.map unD)] st = some (.bl true, st) := by
  have hb : b_are_units = (seqM (ifS (orM (notM (truM (isiM "tuple" (rd 1)))) (notM (tstM (chM leM leM (cst (.int 1)) (cbM lenA (aCons (rd 1) aNil)) (cst (.int 2))))))
 (retM (cst (.bl false)))
 nxM)
 (retM (opM eqM (frz (compM (seqI (rd 1)) (nameT 2) (notM (truM (callM m_is_unit (aCons (rd 0) (aCons (rd 2) aNil))))) (rd 2) [2])) (frz (lstM aNil))))) := rfl
  have hu1 := ok.u1
  have hu2 := ok.u2
  refine Lm.run_of ?_
  show b_are_units [.val (nD s.k), .val (.tup (s.units.map unD)), .un] st = _
  rw [hb]
  have hlen := lenT (f := rd 1) (env := [.val (nD s.k), .val (.tup (s.units.map unD)), .un]) (st := st) (s1 := st) (ds := s.units.map unD) rfl
  rw [List.length_map] at hlen
  have t1 := Lh.not_of (Lh.tru_of (isiT (f := rd 1) (env := [.val (nD s.k), .val (.tup (s.units.map unD)), .un]) (st := st) (s1 := st) (ds := s.units.map unD) rfl))
  have c2 := ch_of (f := cst (.int 1)) (k := cst (.int 2)) (a := 1) (c := 2) rfl hlen rfl
  rw [decide_eq_true (by omega)] at c2
  rw [Lm.seq_nx (Lm.ifs_f (Lh.or_f t1 (Lh.not_of (Lm.tst_of c2))) v_nxM)]
  refine Lm.ret_of (nothing (F := unD) (en := fun us => [.val (nD s.k), .val (.tup (s.units.map unD)), .val (unD us)]) (l := s.units) rfl (by omega) rfl fun us hu => ⟨rfl, ?_, rfl⟩)
  exact Lh.not_of (Lh.tru_of (Lm.call_of (Lm.cons_of (f := rd 0) (s1 := st) rfl (Lm.cons_of (f := rd 2) (s1 := st) rfl v_aNil)) (unit_none ok st hu)))
omit ok in
theorem joinL_one : ∀ l : List Nat, TL.joinL [] (l.map fun c => [c]) = l
  | [] => rfl
  | [c] => rfl
  | c :: d :: l => by
    have ih := joinL_one (d :: l)
    show [c] ++ ([] ++ TL.joinL [] ((d :: l).map fun c => [c])) = _
    rw [ih]; rfl
theorem cling_none {c : Nat × Nat × List Nat} (hc : c ∈ s.cuts) : m_are_clinging [nD s.k, .str (W c.2.2)] st = some (.bl true, st) := by
  have hb : b_are_clinging = (seqM (ifS (notM (truM (isiM "str" (rd 1))))
 (retM (cst (.bl false)))
 nxM)
 (retM (opM eqM (rd 1) (m1M joinM (cst (.str "")) (frz (compM (seqI (slM slAny (cst (.str "abcd")) noP (prt (rd 0)))) (nameT 2) (tstM (opM (cntD false) (rd 2) (rd 1))) (rd 2) [2])))))) := rfl
  obtain ⟨_, _, hcl⟩ := ok.cu c hc
  have hk4 := ok.k4
  refine Lm.run_of ?_
  show b_are_clinging [.val (nD s.k), .val (.str (W c.2.2)), .un] st = _
  rw [hb]
  have t1 := Lh.not_of (Lh.tru_of (isiS (f := rd 1) (env := [.val (nD s.k), .val (.str (W c.2.2)), .un]) (st := st) (s1 := st) (x := W c.2.2) rfl))
  rw [Lm.seq_nx (Lm.ifs_f t1 v_nxM)]
  have e1 := sl_to (f := cst (.str "abcd")) (h := rd 0) (env := [.val (nD s.k), .val (.str (W c.2.2)), .un]) (st := st) (s1 := st) (s2 := st) (w := ltr 4) (p := s.k) (by rw [s_abcd]; rfl) rfl (by simp)
  have e2 : (ltr 4).take s.k = ltr s.k := by
    have hk : s.k = 0 ∨ s.k = 1 ∨ s.k = 2 ∨ s.k = 3 ∨ s.k = 4 := by omega
    rcases hk with hk | hk | hk | hk | hk <;> rw [hk] <;> rfl
  rw [e2] at e1
  have c2 := comp_fil (F := fun x => D.str (W [x])) (G := fun x => D.str (W [x])) (t := nameT 2) (c := tstM (opM (cntD false) (rd 2) (rd 1))) (f := rd 2) (q := fun x => decide (x ∈ c.2.2)) (vs := [2]) (env1 := [.val (nD s.k), .val (.str (W c.2.2)), .un]) (en := fun x => [.val (nD s.k), .val (.str (W c.2.2)), .val (.str (W [x]))]) (l := ltr s.k) (signs_of e1) (by simp; omega) rfl
    (fun x hx => ⟨rfl, Lm.tst_of (in_W (s1 := st) rfl rfl), rfl⟩)
  rw [← hcl] at c2
  have hl4 := (ok.cl hc).1
  have e3 : (c.2.2.map fun x => D.str (W [x])) = (c.2.2.map fun x => [x]).map fun p => D.str (W p) := by rw [List.map_map]; rfl
  rw [e3] at c2
  have j1 := join_of (str_of empty_W) c2 (by
    have : ∀ l : List Nat, ((l.map fun x => [x]).map List.length).sum = l.length := fun l => by
      induction l with
      | nil => rfl
      | cons a l ih => rw [List.map_cons, List.map_cons, List.sum_cons, ih, List.length_cons]; simp; omega
    rw [this, List.length_map]
    simp; omega)
  rw [joinL_one] at j1
  have := eq_W (f := rd 1) (env := [.val (nD s.k), .val (.str (W c.2.2)), .un]) (st := st) (s1 := st) (a := c.2.2) rfl j1
  rw [decide_eq_true rfl] at this
  exact Lm.ret_of this
theorem cut_none {c : Nat × Nat × List Nat} (hc : c ∈ s.cuts) : m_is_cut [nD s.k, .tup (s.units.map unD), cuD c] st = some (.bl true, st) := by
  have hb : b_is_cut = (seqM (ifS (orM (notM (truM (isiM "tuple" (rd 2)))) (tstM (opM neM (cbM lenA (aCons (rd 2) aNil)) (cst (.int 3)))))
 (retM (cst (.bl false)))
 nxM)
 (retM (andV (callM m_is_cut_limit (aCons (rd 1) (aCons (slM slAny (rd 2) noP (prt (cst (.int 2)))) aNil))) (callM m_are_clinging (aCons (rd 0) (aCons (opM subD (rd 2) (cst (.int 2))) aNil)))))) := rfl
  have hb2 : b_is_cut_limit = (seqM (ifS (orM (notM (truM (isiM "tuple" (rd 1)))) (tstM (opM neM (cbM lenA (aCons (rd 1) aNil)) (cst (.int 2)))))
 (retM (cst (.bl false)))
 nxM)
 (retM (andV (callM m_is_integer_cuts (aCons (opM subD (rd 1) (cst (.int 0))) (aCons (cst (.int 0)) (aCons (opM subM (cbM lenA (aCons (rd 0) aNil)) (cst (.int 1))) aNil)))) (callM m_is_integer_cuts (aCons (opM subD (rd 1) (cst (.int 1))) (aCons (cst (.int 0)) (aCons (cst (.int 20)) aNil))))))) := rfl
  obtain ⟨q1, q2, _⟩ := ok.cu c hc
  have lim : m_is_cut_limit [.tup (s.units.map unD), .tup [nD c.1, nD c.2.1]] st = some (.bl true, st) := by
    refine Lm.run_of ?_
    show b_is_cut_limit [.val (.tup (s.units.map unD)), .val (.tup [nD c.1, nD c.2.1])] st = _
    rw [hb2]
    have t1 := Lh.not_of (Lh.tru_of (isiT (f := rd 1) (env := [.val (.tup (s.units.map unD)), .val (.tup [nD c.1, nD c.2.1])]) (st := st) (s1 := st) (ds := [nD c.1, nD c.2.1]) rfl))
    have t2 := Lh.ne_int (h := cst (.int 2)) (j := 2) (s2 := st) (lenT (f := rd 1) (env := [.val (.tup (s.units.map unD)), .val (.tup [nD c.1, nD c.2.1])]) (st := st) (s1 := st) (ds := [nD c.1, nD c.2.1]) rfl) rfl
    rw [decide_eq_false (by show ¬ ((2 : Int) ≠ 2); simp)] at t2
    rw [Lm.seq_nx (Lm.ifs_f (Lh.or_f t1 t2) v_nxM)]
    have u0 : opM subD (rd 1) (cst (.int 0)) [.val (.tup (s.units.map unD)), .val (.tup [nD c.1, nD c.2.1])] st = some (nD c.1, st) := Lh.at_tup (j := 0) (f := rd 1) (s1 := st) (ds := [nD c.1, nD c.2.1]) rfl rfl
    have u1 : opM subD (rd 1) (cst (.int 1)) [.val (.tup (s.units.map unD)), .val (.tup [nD c.1, nD c.2.1])] st = some (nD c.2.1, st) := Lh.at_tup (j := 1) (f := rd 1) (s1 := st) (ds := [nD c.1, nD c.2.1]) rfl rfl
    have hlen := lenT (f := rd 0) (env := [.val (.tup (s.units.map unD)), .val (.tup [nD c.1, nD c.2.1])]) (st := st) (s1 := st) (ds := s.units.map unD) rfl
    rw [List.length_map] at hlen
    have a1 : opM subM (cbM lenA (aCons (rd 0) aNil)) (cst (.int 1)) [.val (.tup (s.units.map unD)), .val (.tup [nD c.1, nD c.2.1])] st = some (.int (((s.units.length : Nat) : Int) - 1), st) := by
      rw [v_opM, hlen]; rfl
    have c1 := Lm.call_of (Lm.cons_of u0 (Lm.cons_of (f := cst (.int 0)) (d := .int 0) (s1 := st) rfl (Lm.cons_of a1 v_aNil))) (intc_ok ((c.1 : Nat) : Int) 0 (((s.units.length : Nat) : Int) - 1) st)
    rw [decide_eq_true (by omega)] at c1
    have c2 := Lm.call_of (Lm.cons_of u1 (Lm.cons_of (f := cst (.int 0)) (d := .int 0) (s1 := st) rfl (Lm.cons_of (f := cst (.int 20)) (d := .int 20) (s1 := st) rfl v_aNil))) (intc_ok ((c.2.1 : Nat) : Int) 0 20 st)
    rw [decide_eq_true (by omega)] at c2
    exact Lm.ret_of (andV_of c1 fun _ => c2)
  refine Lm.run_of ?_
  show b_is_cut [.val (nD s.k), .val (.tup (s.units.map unD)), .val (cuD c)] st = _
  rw [hb]
  have t1 := Lh.not_of (Lh.tru_of (isiT (f := rd 2) (env := [.val (nD s.k), .val (.tup (s.units.map unD)), .val (cuD c)]) (st := st) (s1 := st) (ds := [nD c.1, nD c.2.1, .str (W c.2.2)]) rfl))
  have t2 := Lh.ne_int (h := cst (.int 3)) (j := 3) (s2 := st) (lenT (f := rd 2) (env := [.val (nD s.k), .val (.tup (s.units.map unD)), .val (cuD c)]) (st := st) (s1 := st) (ds := [nD c.1, nD c.2.1, .str (W c.2.2)]) rfl) rfl
  rw [decide_eq_false (by show ¬ ((3 : Int) ≠ 3); simp)] at t2
  rw [Lm.seq_nx (Lm.ifs_f (Lh.or_f t1 t2) v_nxM)]
  obtain ⟨_, _, k2⟩ := at3 (f := rd 2) (env := [.val (nD s.k), .val (.tup (s.units.map unD)), .val (cuD c)]) (st := st) (d0 := nD c.1) (d1 := nD c.2.1) (d2 := .str (W c.2.2)) rfl
  have e1 : slM slAny (rd 2) noP (prt (cst (.int 2))) [.val (nD s.k), .val (.tup (s.units.map unD)), .val (cuD c)] st = some (.tup [nD c.1, nD c.2.1], st) := rfl
  exact Lm.ret_of (andV_of (Lm.call_of (Lm.cons_of (f := rd 1) (s1 := st) rfl (Lm.cons_of e1 v_aNil)) lim) fun _ => Lm.call_of (Lm.cons_of (f := rd 0) (s1 := st) rfl (Lm.cons_of k2 v_aNil)) (cling_none ok st hc))
noncomputable def ceB : MS := (ifS (notM (truM (callM m_is_cut (aCons (rd 0) (aCons (rd 1) (aCons (rd 4) aNil))))))
 (retM (tupM (aCons (rd 3) (aCons (cst (.str "cut")) aNil))))
 nxM)
theorem ce_loop : ∀ (cs : List (Nat × Nat × List Nat)), (∀ c ∈ cs, c ∈ s.cuts) → ∀ (i : Nat) (x3 x4 : Sl), ∃ y3 y4, forL (tupT 2 (consT (nameT 3) (consT (nameT 4) nilT))) ceB (((cs.map cuD).zipIdx i).map fun p => D.tup [.int ((p.2 : Nat) : Int), p.1]) [.val (nD s.k), .val (.tup (s.units.map unD)), .val (.tup (s.cuts.map cuD)), x3, x4] st = some (.nx [.val (nD s.k), .val (.tup (s.units.map unD)), .val (.tup (s.cuts.map cuD)), y3, y4], st)
  | [], _, i, x3, x4 => ⟨x3, x4, rfl⟩
  | c :: cs, hc, i, x3, x4 => by
    obtain ⟨y3, y4, h2⟩ := ce_loop cs (fun y hy => hc y (List.mem_cons_of_mem _ hy)) (i + 1) (.val (nD i)) (.val (cuD c))
    refine ⟨y3, y4, ?_⟩
    have h1 : ceB [.val (nD s.k), .val (.tup (s.units.map unD)), .val (.tup (s.cuts.map cuD)), .val (nD i), .val (cuD c)] st = some (.nx [.val (nD s.k), .val (.tup (s.units.map unD)), .val (.tup (s.cuts.map cuD)), .val (nD i), .val (cuD c)], st) :=
      Lm.ifs_f (Lh.not_of (Lh.tru_of (Lm.call_of (Lm.cons_of (f := rd 0) (s1 := st) rfl (Lm.cons_of (f := rd 1) (s1 := st) rfl (Lm.cons_of (f := rd 4) (s1 := st) rfl v_aNil))) (cut_none ok st (hc c List.mem_cons_self))))) v_nxM
    have et : tupT 2 (consT (nameT 3) (consT (nameT 4) nilT)) (D.tup [.int ((i : Nat) : Int), cuD c]) [.val (nD s.k), .val (.tup (s.units.map unD)), .val (.tup (s.cuts.map cuD)), x3, x4] = some [.val (nD s.k), .val (.tup (s.units.map unD)), .val (.tup (s.cuts.map cuD)), .val (nD i), .val (cuD c)] := rfl
    rw [List.map_cons, List.zipIdx_cons, List.map_cons, v_forL, et, Option.bind_some, h1, Option.bind_some]
    exact h2
theorem cuts_none : m_cuts_error [nD s.k, .tup (s.units.map unD), .tup (s.cuts.map cuD)] st = some (.non, st) := by
  have hb : b_cuts_error = (seqM (ifS (notM (truM (isiM "tuple" (rd 2))))
 (retM (tupM (aCons (cst .non) (aCons (cst (.str "cuts")) aNil))))
 nxM)
 (seqM (forM (enumI (rd 2)) (tupT 2 (consT (nameT 3) (consT (nameT 4) nilT))) ceB)
 (retM (ifM (tstM (opM gtM (cbM lenA (aCons (rd 2) aNil)) (cst (.int 3)))) (tupM (aCons (cst .non) (aCons (cst (.str "many")) aNil))) (cst .non))))) := rfl
  have hc3 := ok.c3
  refine Lm.run_of ?_
  show b_cuts_error [.val (nD s.k), .val (.tup (s.units.map unD)), .val (.tup (s.cuts.map cuD)), .un, .un] st = _
  rw [hb]
  have t1 := Lh.not_of (Lh.tru_of (isiT (f := rd 2) (env := [.val (nD s.k), .val (.tup (s.units.map unD)), .val (.tup (s.cuts.map cuD)), .un, .un]) (st := st) (s1 := st) (ds := s.cuts.map cuD) rfl))
  rw [Lm.seq_nx (Lm.ifs_f t1 v_nxM)]
  obtain ⟨y3, y4, h2⟩ := ce_loop ok st s.cuts (fun c hc => hc) 0 .un .un
  rw [Lm.seq_nx (forM_of' (show enumI (rd 2) [.val (nD s.k), .val (.tup (s.units.map unD)), .val (.tup (s.cuts.map cuD)), .un, .un] st = some (enumD (s.cuts.map cuD), st) from rfl) h2)]
  have hlen := lenT (f := rd 2) (env := [.val (nD s.k), .val (.tup (s.units.map unD)), .val (.tup (s.cuts.map cuD)), y3, y4]) (st := st) (s1 := st) (ds := s.cuts.map cuD) rfl
  rw [List.length_map] at hlen
  have t3 := Lh.gt_of (h := cst (.int 3)) (j := 3) (s2 := st) hlen rfl
  rw [decide_eq_false (by omega)] at t3
  exact Lm.ret_of (if_f t3 rfl)
theorem scheme_none : m_scheme_error [smD s] st = some (.non, st) := by
  have hb : b_scheme_error = (seqM (ifS (orM (notM (truM (isiM "tuple" (rd 0)))) (tstM (opM neM (cbM lenA (aCons (rd 0) aNil)) (cst (.int 3)))))
 (retM (tupM (aCons (cst (.str "scheme")) (aCons (cst .non) aNil))))
 nxM)
 (seqM (asgM (tupT 3 (consT (nameT 1) (consT (nameT 2) (consT (nameT 3) nilT)))) (rd 0))
 (seqM (asgM (nameT 4) (callM m_kind_error (aCons (rd 1) aNil)))
 (seqM (ifS (tstM (opM isNotM (rd 4) (cst .non)))
 (retM (tupM (aCons (cst (.str "kind")) (aCons (rd 4) aNil))))
 nxM)
 (seqM (ifS (notM (truM (callM m_are_units (aCons (opM subD (rd 1) (cst (.int 0))) (aCons (rd 2) aNil)))))
 (retM (tupM (aCons (cst (.str "units")) (aCons (cst .non) aNil))))
 nxM)
 (seqM (asgM (nameT 4) (callM m_cuts_error (aCons (opM subD (rd 1) (cst (.int 0))) (aCons (rd 2) (aCons (rd 3) aNil)))))
 (retM (ifM (tstM (opM isM (rd 4) (cst .non))) (cst .non) (tupM (aCons (cst (.str "cuts")) (aCons (rd 4) aNil))))))))))) := rfl
  refine Lm.run_of ?_
  show b_scheme_error [.val (smD s), .un, .un, .un, .un] st = _
  rw [hb]
  have t1 := Lh.not_of (Lh.tru_of (isiT (f := rd 0) (env := [.val (smD s), .un, .un, .un, .un]) (st := st) (s1 := st) (ds := [kiD s, .tup (s.units.map unD), .tup (s.cuts.map cuD)]) rfl))
  have t2 := Lh.ne_int (h := cst (.int 3)) (j := 3) (s2 := st) (lenT (f := rd 0) (env := [.val (smD s), .un, .un, .un, .un]) (st := st) (s1 := st) (ds := [kiD s, .tup (s.units.map unD), .tup (s.cuts.map cuD)]) rfl) rfl
  rw [decide_eq_false (by show ¬ ((3 : Int) ≠ 3); simp)] at t2
  rw [Lm.seq_nx (Lm.ifs_f (Lh.or_f t1 t2) v_nxM)]
  have e0 : asgM (tupT 3 (consT (nameT 1) (consT (nameT 2) (consT (nameT 3) nilT)))) (rd 0) [.val (smD s), .un, .un, .un, .un] st = some (.nx [.val (smD s), .val (kiD s), .val (.tup (s.units.map unD)), .val (.tup (s.cuts.map cuD)), .un], st) := rfl
  rw [Lm.seq_nx e0]
  have c1 := Lm.call_of (Lm.cons_of (f := rd 1) (env := [.val (smD s), .val (kiD s), .val (.tup (s.units.map unD)), .val (.tup (s.cuts.map cuD)), .un]) (st := st) (s1 := st) rfl v_aNil) (kind_none ok st)
  rw [Lm.seq_nx (e := [.val (smD s), .val (kiD s), .val (.tup (s.units.map unD)), .val (.tup (s.cuts.map cuD)), .val .non]) (Lm.asg_nx c1)]
  have t3 := Lc.isnot_of (f := rd 4) (env := [.val (smD s), .val (kiD s), .val (.tup (s.units.map unD)), .val (.tup (s.cuts.map cuD)), .val .non]) (st := st) (s1 := st) (d := .non) rfl rfl
  rw [Lm.seq_nx (Lm.ifs_f t3 v_nxM)]
  obtain ⟨k0, _, _⟩ := at3 (f := rd 1) (env := [.val (smD s), .val (kiD s), .val (.tup (s.units.map unD)), .val (.tup (s.cuts.map cuD)), .val .non]) (st := st) (d0 := nD s.k) (d1 := .tup (s.rows.map rwD)) (d2 := .tup (s.ends.map D.bl)) rfl
  have c2 := Lm.call_of (Lm.cons_of k0 (Lm.cons_of (f := rd 2) (s1 := st) rfl v_aNil)) (units_none ok st)
  rw [Lm.seq_nx (Lm.ifs_f (Lh.not_of (Lh.tru_of c2)) v_nxM)]
  have c3 := Lm.call_of (Lm.cons_of k0 (Lm.cons_of (f := rd 2) (s1 := st) rfl (Lm.cons_of (f := rd 3) (s1 := st) rfl v_aNil))) (cuts_none ok st)
  rw [Lm.seq_nx (e := [.val (smD s), .val (kiD s), .val (.tup (s.units.map unD)), .val (.tup (s.cuts.map cuD)), .val .non]) (Lm.asg_nx c3)]
  exact Lm.ret_of (if_t (Lc.is_of (f := rd 4) (s1 := st) (d := .non) rfl rfl) rfl)
end
end Lw

set_option Elab.async false
set_option linter.all false
set_option maxRecDepth 100000
set_option maxHeartbeats 2000000
namespace Lw
open PySem MD L2 Lc
variable {ww : WW}
/-! ### a text is read -/
noncomputable def lnB : MS := (ifS (notM (truM (methM "SchemeReader" "read" m_SchemeReader_read (rd 2) (aCons (rd 3) (aCons (rd 4) aNil)))))
 stkM
 nxM)
noncomputable abbrev lnT : MG := tupT 2 (consT (nameT 3) (consT (nameT 4) nilT))
def enL (k : Nat) (ps : List (List Nat)) : List D := ((wD ps).zipIdx k).map fun p => D.tup [.int ((p.2 : Nat) : Int), p.1]
theorem enL_cons (k : Nat) (p : List Nat) (ps : List (List Nat)) : enL k (p :: ps) = .tup [nD k, .str (W p)] :: enL (k + 1) ps := rfl
theorem enL_app (k : Nat) (ps qs : List (List Nat)) : enL k (ps ++ qs) = enL k ps ++ enL (k + ps.length) qs := by
  unfold enL
  show (((ps ++ qs).map fun p => D.str (W p)).zipIdx k).map _ = _
  rw [List.map_append, List.zipIdx_append, List.map_append, List.length_map]
abbrev envP (st : S) (v w : D) (x3 x4 : Sl) : Sg := [.val v, .val w, .val (.ref (st.ob.length + 0)), x3, x4, .un, .un]
section
variable {s : Sm} (ok : s.Ok) (st : S) (v w : D)
theorem ln_turn {i : Nat} {p : List Nat} {l : Nat} {rows ends units cuts : List D} {S2 : S} (h : m_SchemeReader_read [.ref (st.ob.length + 0), nD i, .str (W p)] (Xr st l rows ends units cuts) = some (.bl true, S2)) (rest : List D) (x3 x4 : Sl) :
    forL lnT lnB (.tup [nD i, .str (W p)] :: rest) (envP st v w x3 x4) (Xr st l rows ends units cuts) = forL lnT lnB rest (envP st v w (.val (nD i)) (.val (.str (W p)))) S2 := by
  have e1 : methM "SchemeReader" "read" m_SchemeReader_read (rd 2) (aCons (rd 3) (aCons (rd 4) aNil)) (envP st v w (.val (nD i)) (.val (.str (W p)))) (Xr st l rows ends units cuts) = some (.bl true, S2) :=
    Lm.meth_of (s1 := Xr st l rows ends units cuts) (s2 := Xr st l rows ends units cuts) (n := st.ob.length + 0) (fs := fS) rfl (by rw [Xs_at]; rfl) (by decide) (Lm.cons_of (f := rd 3) (s1 := Xr st l rows ends units cuts) rfl (Lm.cons_of (f := rd 4) (s1 := Xr st l rows ends units cuts) rfl v_aNil)) h
  have hb : lnB (envP st v w (.val (nD i)) (.val (.str (W p)))) (Xr st l rows ends units cuts) = some (.nx (envP st v w (.val (nD i)) (.val (.str (W p)))), S2) := Lm.ifs_f (Lh.not_of (Lh.tru_of e1)) v_nxM
  have et : lnT (.tup [nD i, .str (W p)]) (envP st v w x3 x4) = some (envP st v w (.val (nD i)) (.val (.str (W p)))) := rfl
  rw [v_forL, et, Option.bind_some, hb, Option.bind_some]
include ok
theorem seg_states (l : Nat) (rest : List D) : ∀ (zs : List (List (Option Nat) × Bool)), (∀ z ∈ zs, z.1 ∈ s.rows) → ∀ (i : Nat), i ≠ 0 → ∀ (rows ends : List D), rows.length + zs.length ≤ 1000 → ends.length + zs.length ≤ 1000 → ∀ (x3 x4 : Sl), ∃ y3 y4,
    forL lnT lnB (enL i (zs.map fun z => ln (wst z.1 z.2)) ++ rest) (envP st v w x3 x4) (Xr st l rows ends [] []) = forL lnT lnB rest (envP st v w y3 y4) (Xr st l (rows ++ zs.map fun z => rwD z.1) (ends ++ zs.map fun z => D.bl z.2) [] [])
  | [], _, i, _, rows, ends, _, _, x3, x4 => ⟨x3, x4, by simp [enL]⟩
  | z :: zs, hz, i, hi, rows, ends, h1, h2, x3, x4 => by
    rw [List.length_cons] at h1 h2
    have e1 := ln_turn st v w (read_state ok st (hz z List.mem_cons_self) z.2 hi l rows ends (by omega) (by omega)) (enL (i + 1) (zs.map fun z => ln (wst z.1 z.2)) ++ rest) x3 x4
    obtain ⟨y3, y4, e2⟩ := seg_states l rest zs (fun y hy => hz y (List.mem_cons_of_mem _ hy)) (i + 1) (by omega) (rows ++ [rwD z.1]) (ends ++ [.bl z.2]) (by simp; omega) (by simp; omega) (.val (nD i)) (.val (.str (W (ln (wst z.1 z.2)))))
    refine ⟨y3, y4, ?_⟩
    rw [List.map_cons, enL_cons, List.cons_append, e1, e2]
    simp
theorem seg_units (l : Nat) (rows ends : List D) (hr : rows ≠ []) (nr : ∀ d ∈ rows, Nice d) (rest : List D) : ∀ (us : List (List Nat)), (∀ u ∈ us, u ∈ s.units) → ∀ (i : Nat), i ≠ 0 → ∀ (units : List D), units.length + us.length ≤ 1000 → ∀ (x3 x4 : Sl), ∃ y3 y4,
    forL lnT lnB (enL i (us.map fun u => ln (wun u)) ++ rest) (envP st v w x3 x4) (Xr st l rows ends units []) = forL lnT lnB rest (envP st v w y3 y4) (Xr st l rows ends (units ++ us.map unD) [])
  | [], _, i, _, units, _, x3, x4 => ⟨x3, x4, by simp [enL]⟩
  | u :: us, hu, i, hi, units, h1, x3, x4 => by
    rw [List.length_cons] at h1
    have e1 := ln_turn st v w (read_unit ok st (hu u List.mem_cons_self) hi l rows ends units (by omega) hr nr) (enL (i + 1) (us.map fun u => ln (wun u)) ++ rest) x3 x4
    obtain ⟨y3, y4, e2⟩ := seg_units l rows ends hr nr rest us (fun y hy => hu y (List.mem_cons_of_mem _ hy)) (i + 1) (by omega) (units ++ [unD u]) (by simp; omega) (.val (nD i)) (.val (.str (W (ln (wun u)))))
    refine ⟨y3, y4, ?_⟩
    rw [List.map_cons, enL_cons, List.cons_append, e1, e2]
    simp
theorem seg_cuts (l : Nat) (rows ends units : List D) (hr : units ≠ []) (nr : ∀ d ∈ units, Nice d) (rest : List D) : ∀ (cs : List (Nat × Nat × List Nat)), (∀ c ∈ cs, c ∈ s.cuts) → ∀ (i : Nat), i ≠ 0 → ∀ (cuts : List D), cuts.length + cs.length ≤ 1000 → ∀ (x3 x4 : Sl), ∃ y3 y4,
    forL lnT lnB (enL i (cs.map fun c => ln (wcu c)) ++ rest) (envP st v w x3 x4) (Xr st l rows ends units cuts) = forL lnT lnB rest (envP st v w y3 y4) (Xr st l rows ends units (cuts ++ cs.map cuD))
  | [], _, i, _, cuts, _, x3, x4 => ⟨x3, x4, by simp [enL]⟩
  | c :: cs, hc, i, hi, cuts, h1, x3, x4 => by
    rw [List.length_cons] at h1
    have e1 := ln_turn st v w (read_cut ok st (hc c List.mem_cons_self) hi l rows ends units cuts (by omega) hr nr) (enL (i + 1) (cs.map fun c => ln (wcu c)) ++ rest) x3 x4
    obtain ⟨y3, y4, e2⟩ := seg_cuts l rows ends units hr nr rest cs (fun y hy => hc y (List.mem_cons_of_mem _ hy)) (i + 1) (by omega) (cuts ++ [cuD c]) (by simp; omega) (.val (nD i)) (.val (.str (W (ln (wcu c)))))
    refine ⟨y3, y4, ?_⟩
    rw [List.map_cons, enL_cons, List.cons_append, e1, e2]
    simp
theorem parse_ok : ∃ st', m_parse_scheme [.str (W (txt s))] st = some (smD s, st') ∧ st'.n = st.n := by
  have hb : b_parse_scheme = (seqM (ifS (notM (truM (isiM "str" (rd 0))))
 stkM
 nxM)
 (seqM (asgM (nameT 1) (frz (splM (rd 0) (cst (.str "\n")))))
 (seqM (asgM (nameT 2) (makeM "SchemeReader" m_SchemeReader___init__ aNil))
 (seqM (forM (enumI (rd 1)) lnT lnB)
 (seqM (ifS (tstM (opM eqM (fldM ["SchemeReader"] "units" (rd 2)) (frz (lstM aNil))))
 stkM
 nxM)
 (seqM (asgM (nameT 5) (methM "SchemeReader" "scheme" m_SchemeReader_scheme (rd 2) aNil))
 (seqM (asgM (nameT 6) (callM m_scheme_error (aCons (rd 5) aNil)))
 (seqM (ifS (tstM (opM isNotM (rd 6) (cst .non)))
 stkM
 nxM)
 (retM (rd 5)))))))))) := rfl
  have hr0 := ok.r0
  have hr8 := ok.r8
  have hen := ok.en
  have hu1 := ok.u1
  have hu2 := ok.u2
  have hc3 := ok.c3
  obtain ⟨l1, l2⟩ := lines_ok ok
  have hrn : s.rows.map rwD ≠ [] := fun h => by
    rw [List.map_eq_nil_iff] at h
    rw [h] at hr0; simp at hr0
  have hun : s.units.map unD ≠ [] := fun h => by
    rw [List.map_eq_nil_iff] at h
    rw [h] at hu1; simp at hu1
  refine ⟨Xr st s.k (s.rows.map rwD) (s.ends.map D.bl) (s.units.map unD) (s.cuts.map cuD), Lm.run_of ?_, rfl⟩
  show b_parse_scheme [.val (.str (W (txt s))), .un, .un, .un, .un, .un, .un] st = _
  rw [hb]
  have t1 := Lh.not_of (Lh.tru_of (isiS (f := rd 0) (env := [.val (.str (W (txt s))), .un, .un, .un, .un, .un, .un]) (st := st) (s1 := st) (x := W (txt s)) rfl))
  rw [Lm.seq_nx (Lm.ifs_f t1 v_nxM)]
  have hlen : (txt s).length ≤ 900000 := by
    have h1 := join_len [10] ((wls s).map ln)
    have h2 := sum_le ((wls s).map ln) 48 fun p hp => (l2 p hp).1
    have h3 : ((wls s).map ln).length * 48 ≤ 14 * 48 := Nat.mul_le_mul_right _ l1
    have h4 : ((wls s).map ln).length * [10].length = ((wls s).map ln).length := by simp
    show (TL.joinL [10] ((wls s).map ln)).length ≤ 900000
    omega
  have e1 := spl_of (c := 10) (ps := (wls s).map ln) (f := rd 0) (env := [.val (.str (W (txt s))), .un, .un, .un, .un, .un, .un]) (st := st) (s1 := st) (by decide) (by unfold wls; simp) (fun p hp => (l2 p hp).2) rfl (str_of s_line) hlen
  rw [Lm.seq_nx (e := [.val (.str (W (txt s))), .val (.lst (wD ((wls s).map ln))), .un, .un, .un, .un, .un]) (Lm.asg_nx e1)]
  have e2 : makeM "SchemeReader" m_SchemeReader___init__ aNil [.val (.str (W (txt s))), .val (.lst (wD ((wls s).map ln))), .un, .un, .un, .un, .un] st = some (.ref (st.ob.length + 0), Xr st 0 [] [] [] []) := Lm.make_of (s1 := st) v_aNil (rinit_ok st)
  rw [Lm.seq_nx (e := envP st (.str (W (txt s))) (.lst (wD ((wls s).map ln))) .un .un) (Lm.asg_nx e2)]
  -- the lines
  have hl : (wls s).map ln = ln (wle s.k) :: ((s.rows.zip s.ends).map (fun z => ln (wst z.1 z.2)) ++ (s.units.map (fun u => ln (wun u)) ++ (s.cuts.map (fun c => ln (wcu c)) ++ []))) := by
    unfold wls
    simp [Function.comp_def]
  have f0 := ln_turn st (.str (W (txt s))) (.lst (wD ((wls s).map ln))) (read_letters ok st) (enL 1 ((s.rows.zip s.ends).map (fun z => ln (wst z.1 z.2)) ++ (s.units.map (fun u => ln (wun u)) ++ (s.cuts.map (fun c => ln (wcu c)) ++ [])))) .un .un
  obtain ⟨y3, y4, f1⟩ := seg_states ok st (.str (W (txt s))) (.lst (wD ((wls s).map ln))) s.k (enL (1 + ((s.rows.zip s.ends).map fun z => ln (wst z.1 z.2)).length) (s.units.map (fun u => ln (wun u)) ++ (s.cuts.map (fun c => ln (wcu c)) ++ []))) (s.rows.zip s.ends) (fun z hz => (List.of_mem_zip hz).1) 1 (by decide) [] [] (by simp; omega) (by simp; omega) (.val (nD 0)) (.val (.str (W (ln (wle s.k)))))
  have er : (s.rows.zip s.ends).map (fun z => rwD z.1) = s.rows.map rwD := by
    have h := congrArg (List.map rwD) (List.map_fst_zip (l₁ := s.rows) (l₂ := s.ends) (by omega))
    rw [List.map_map] at h
    exact h
  have ee : (s.rows.zip s.ends).map (fun z => D.bl z.2) = s.ends.map D.bl := by
    have h := congrArg (List.map D.bl) (List.map_snd_zip (l₁ := s.rows) (l₂ := s.ends) (by omega))
    rw [List.map_map] at h
    exact h
  rw [List.nil_append, List.nil_append, er, ee] at f1
  obtain ⟨z3, z4, f2⟩ := seg_units ok st (.str (W (txt s))) (.lst (wD ((wls s).map ln))) s.k (s.rows.map rwD) (s.ends.map D.bl) hrn (nice_rows s.rows) (enL (1 + ((s.rows.zip s.ends).map fun z => ln (wst z.1 z.2)).length + (s.units.map fun u => ln (wun u)).length) (s.cuts.map (fun c => ln (wcu c)) ++ [])) s.units (fun u hu => hu) (1 + ((s.rows.zip s.ends).map fun z => ln (wst z.1 z.2)).length) (by omega) [] (by simp; omega) y3 y4
  obtain ⟨a3, a4, f3⟩ := seg_cuts ok st (.str (W (txt s))) (.lst (wD ((wls s).map ln))) s.k (s.rows.map rwD) (s.ends.map D.bl) (s.units.map unD) hun (nice_uns s.units) (enL (1 + ((s.rows.zip s.ends).map fun z => ln (wst z.1 z.2)).length + (s.units.map fun u => ln (wun u)).length + (s.cuts.map fun c => ln (wcu c)).length) []) s.cuts (fun c hc => hc) (1 + ((s.rows.zip s.ends).map fun z => ln (wst z.1 z.2)).length + (s.units.map fun u => ln (wun u)).length) (by omega) [] (by simp; omega) z3 z4
  rw [List.nil_append] at f2 f3
  have hf : forL lnT lnB (enL 0 ((wls s).map ln)) (envP st (.str (W (txt s))) (.lst (wD ((wls s).map ln))) .un .un) (Xr st 0 [] [] [] []) = some (.nx (envP st (.str (W (txt s))) (.lst (wD ((wls s).map ln))) a3 a4), Xr st s.k (s.rows.map rwD) (s.ends.map D.bl) (s.units.map unD) (s.cuts.map cuD)) := by
    have e0 : enL 0 ((wls s).map ln) = .tup [nD 0, .str (W (ln (wle s.k)))] :: enL 1 ((s.rows.zip s.ends).map (fun z => ln (wst z.1 z.2)) ++ (s.units.map (fun u => ln (wun u)) ++ (s.cuts.map (fun c => ln (wcu c)) ++ []))) := by
      rw [hl, enL_cons]
    rw [e0, f0, enL_app, f1, enL_app, f2, enL_app, f3]
    rfl
  rw [Lm.seq_nx (forM_of' (show enumI (rd 1) (envP st (.str (W (txt s))) (.lst (wD ((wls s).map ln))) .un .un) (Xr st 0 [] [] [] []) = some (enL 0 ((wls s).map ln), Xr st 0 [] [] [] []) from rfl) hf)]
  obtain ⟨S1, hS⟩ : ∃ S1, S1 = Xr st s.k (s.rows.map rwD) (s.ends.map D.bl) (s.units.map unD) (s.cuts.map cuD) := ⟨_, rfl⟩
  have t2 := (refnil (f := fldM ["SchemeReader"] "units" (rd 2)) (env := envP st (.str (W (txt s))) (.lst (wD ((wls s).map ln))) a3 a4) (st := Xr st s.k (s.rows.map rwD) (s.ends.map D.bl) (s.units.map unD) (s.cuts.map cuD)) (n := st.ob.length + 3) (ds := s.units.map unD) (nice_uns s.units) (by rw [Xs_at]; rfl) (fld_X rfl rfl)).2.1
  have hre : (s.units.map unD).isEmpty = false := by
    cases h : s.units.map unD with
    | nil => exact absurd h hun
    | cons a b => rfl
  rw [hre] at t2
  rw [Lm.seq_nx (Lm.ifs_f t2 v_nxM)]
  have hs : m_SchemeReader_scheme [.ref (st.ob.length + 0)] (Xr st s.k (s.rows.map rwD) (s.ends.map D.bl) (s.units.map unD) (s.cuts.map cuD)) = some (smD s, Xr st s.k (s.rows.map rwD) (s.ends.map D.bl) (s.units.map unD) (s.cuts.map cuD)) := by
    have hb2 : b_SchemeReader_scheme = (retM (tupM (aCons (tupM (aCons (fldM ["SchemeReader"] "letters" (rd 0)) (aCons (cbM tupleM (aCons (fldM ["SchemeReader"] "rows" (rd 0)) aNil)) (aCons (cbM tupleM (aCons (fldM ["SchemeReader"] "ends" (rd 0)) aNil)) aNil)))) (aCons (cbM tupleM (aCons (fldM ["SchemeReader"] "units" (rd 0)) aNil)) (aCons (cbM tupleM (aCons (fldM ["SchemeReader"] "cuts" (rd 0)) aNil)) aNil))))) := rfl
    refine Lm.run_of ?_
    show b_SchemeReader_scheme [.val (.ref (st.ob.length + 0))] _ = _
    rw [hb2, ← hS]
    have tp : ∀ (f : Str) (j : Nat) (ds : List D), fldM ["SchemeReader"] f (rd 0) [.val (.ref (st.ob.length + 0))] S1 = some (.ref (st.ob.length + j), S1) → S1.ob[st.ob.length + j]? = some (.lst ds) → cbM tupleM (aCons (fldM ["SchemeReader"] f (rd 0)) aNil) [.val (.ref (st.ob.length + 0))] S1 = some (.tup ds, S1) := fun f j ds h1 h2 => by
      have hd : dr S1 (.ref (st.ob.length + j)) = .lst ds := by
        show (match S1.ob[st.ob.length + j]? with | some (.lst ds) => D.lst ds | some (.dic _ ks ds) => .dic ks ds | _ => .ref (st.ob.length + j)) = _
        rw [h2]
      rw [v_cbM, Lm.cons_of h1 v_aNil, Option.bind_some]
      show ((tupleM [dr S1 (.ref (st.ob.length + j))]).map _ : Option (D × S)) = _
      rw [hd]; rfl
    have g0 : fldM ["SchemeReader"] "letters" (rd 0) [.val (.ref (st.ob.length + 0))] S1 = some (nD s.k, S1) := by rw [hS]; exact fld_X rfl rfl
    have g1 := tp "rows" 1 (s.rows.map rwD) (by rw [hS]; exact fld_X rfl rfl) (by rw [hS, Xs_at]; rfl)
    have g2 := tp "ends" 2 (s.ends.map D.bl) (by rw [hS]; exact fld_X rfl rfl) (by rw [hS, Xs_at]; rfl)
    have g3 := tp "units" 3 (s.units.map unD) (by rw [hS]; exact fld_X rfl rfl) (by rw [hS, Xs_at]; rfl)
    have g4 := tp "cuts" 4 (s.cuts.map cuD) (by rw [hS]; exact fld_X rfl rfl) (by rw [hS, Xs_at]; rfl)
    have tup3 : ∀ {f h k : ME} {x y z : D}, f [.val (.ref (st.ob.length + 0))] S1 = some (x, S1) → h [.val (.ref (st.ob.length + 0))] S1 = some (y, S1) → k [.val (.ref (st.ob.length + 0))] S1 = some (z, S1) → tupM (aCons f (aCons h (aCons k aNil))) [.val (.ref (st.ob.length + 0))] S1 = some (.tup [x, y, z], S1) := fun h1 h2 h3 => by
      rw [v_tupM, Lm.cons_of h1 (Lm.cons_of h2 (Lm.cons_of h3 v_aNil)), Option.bind_some]
      exact grd_of (show 3 ≤ 1000000 by decide)
    exact Lm.ret_of (tup3 (tup3 g0 g1 g2) g3 g4)
  have e5 : methM "SchemeReader" "scheme" m_SchemeReader_scheme (rd 2) aNil (envP st (.str (W (txt s))) (.lst (wD ((wls s).map ln))) a3 a4) (Xr st s.k (s.rows.map rwD) (s.ends.map D.bl) (s.units.map unD) (s.cuts.map cuD)) = some (smD s, Xr st s.k (s.rows.map rwD) (s.ends.map D.bl) (s.units.map unD) (s.cuts.map cuD)) :=
    Lm.meth_of (s1 := Xr st s.k (s.rows.map rwD) (s.ends.map D.bl) (s.units.map unD) (s.cuts.map cuD)) (s2 := Xr st s.k (s.rows.map rwD) (s.ends.map D.bl) (s.units.map unD) (s.cuts.map cuD)) (n := st.ob.length + 0) (fs := fS) rfl (by rw [Xs_at]; rfl) (by decide) v_aNil hs
  rw [Lm.seq_nx (e := [.val (.str (W (txt s))), .val (.lst (wD ((wls s).map ln))), .val (.ref (st.ob.length + 0)), a3, a4, .val (smD s), .un]) (Lm.asg_nx e5)]
  have e6 := Lm.call_of (Lm.cons_of (f := rd 5) (env := [.val (.str (W (txt s))), .val (.lst (wD ((wls s).map ln))), .val (.ref (st.ob.length + 0)), a3, a4, .val (smD s), .un]) (st := Xr st s.k (s.rows.map rwD) (s.ends.map D.bl) (s.units.map unD) (s.cuts.map cuD)) (s1 := Xr st s.k (s.rows.map rwD) (s.ends.map D.bl) (s.units.map unD) (s.cuts.map cuD)) rfl v_aNil) (scheme_none ok _)
  rw [Lm.seq_nx (e := [.val (.str (W (txt s))), .val (.lst (wD ((wls s).map ln))), .val (.ref (st.ob.length + 0)), a3, a4, .val (smD s), .val .non]) (Lm.asg_nx e6)]
  have t3 := Lc.isnot_of (f := rd 6) (env := [.val (.str (W (txt s))), .val (.lst (wD ((wls s).map ln))), .val (.ref (st.ob.length + 0)), a3, a4, .val (smD s), .val .non]) (st := Xr st s.k (s.rows.map rwD) (s.ends.map D.bl) (s.units.map unD) (s.cuts.map cuD)) (s1 := Xr st s.k (s.rows.map rwD) (s.ends.map D.bl) (s.units.map unD) (s.cuts.map cuD)) (d := .non) rfl rfl
  rw [Lm.seq_nx (Lm.ifs_f t3 v_nxM)]
  rfl
end
end Lw

set_option Elab.async false
set_option linter.all false
set_option maxRecDepth 100000
set_option maxHeartbeats 2000000
namespace Lw
open PySem MD L2 Lc
variable {ww : WW}
/-! ### draws that leave the store alone -/
def YesO {α : Type} (c : Nat) (o : S → Option (α × S)) (P : α → Prop) : Prop :=
  ∀ st : S, 0 ≤ st.n → st.n + (c : Int) ≤ nMax → ∃ a st', o st = some (a, st') ∧ P a ∧ st'.ob = st.ob ∧ st.n ≤ st'.n ∧ st'.n ≤ st.n + (c : Int)
theorem YesO.yes {α : Type} {c : Nat} {o : S → Option (α × S)} {P : α → Prop} (h : YesO c o P) : Yes c o P := fun st h0 hn => by
  obtain ⟨a, s1, e, p, _, l1, l2⟩ := h st h0 hn
  exact ⟨a, s1, e, p, l1, l2⟩
theorem drawT_ob (many : Int) (st : S) : (drawT many st).ob = st.ob := by unfold drawT; split <;> rfl
theorem drawO {m : Nat} (h0 : 0 < m) (h1 : m ≤ 1000) : YesO 1 (m__law_draw [.deck, nD m]) fun d => ∃ r : Nat, d = nD r ∧ r < m := fun st h hn => by
  have hlt := drawV_lt (c := dc) (many := (m : Int)) (by omega) st
  refine ⟨.int (drawV dc (m : Int) st), drawT (m : Int) st, ?_, ⟨(drawV dc (m : Int) st).toNat, ?_, by omega⟩, drawT_ob _ _, ?_, ?_⟩
  · show drawM dc [.deck, .int (m : Int)] st = _
    unfold drawM
    exact if_pos ⟨by omega, by omega, h, by omega⟩
  · show D.int _ = D.int _
    rw [Int.toNat_of_nonneg hlt.1]
  · rw [drawT_n]; omega
  · rw [drawT_n]; omega
theorem drw {f : ME} {m : Nat} {env : Sg} (h0 : 0 < m) (h1 : m ≤ 1000) (hd : ∀ s : S, rd 0 env s = some (.deck, s)) (hf : ∀ s : S, f env s = some (nD m, s)) : YesO 1 (callM m__law_draw (aCons (rd 0) (aCons f aNil)) env) fun d => ∃ r : Nat, d = nD r ∧ r < m := fun st h hn => by
  obtain ⟨d, s1, e, r⟩ := drawO h0 h1 st h hn
  exact ⟨d, s1, Lm.call_of (Lm.cons_of (hd st) (Lm.cons_of (hf st) v_aNil)) e, r⟩
theorem one_lst {ds : List D} {st : S} (h0 : ds ≠ []) (h1 : ds.length ≤ 1000) (hs : 0 ≤ st.n) (hn : st.n + 1 ≤ nMax) : ∃ d s1, m__law_one [.deck, .lst ds] st = some (d, s1) ∧ d ∈ ds ∧ s1.ob = st.ob ∧ st.n ≤ s1.n ∧ s1.n ≤ st.n + 1 := by
  have hp := List.length_pos_iff.mpr h0
  have e0 : cbM lenA (aCons (rd 1) aNil) [.val .deck, .val (.lst ds)] st = some (nD ds.length, st) := lenL (f := rd 1) (s1 := st) rfl
  obtain ⟨d, s1, e, ⟨r, rfl, hr⟩, ho, l1, l2⟩ := drawO (m := ds.length) hp h1 st hs (by omega)
  refine ⟨ds[r], s1, ?_, List.getElem_mem hr, ho, l1, l2⟩
  have hc := Lm.call_of (Lm.cons_of (f := rd 0) (env := [.val .deck, .val (.lst ds)]) (st := st) (s1 := st) rfl (Lm.cons_of e0 v_aNil)) e
  have hb : b__law_one = retM (opM subD (rd 1) (callM m__law_draw (aCons (rd 0) (aCons (cbM lenA (aCons (rd 1) aNil)) aNil)))) := rfl
  refine Lm.run_of ?_
  show b__law_one [.val .deck, .val (.lst ds)] st = _
  rw [hb]
  exact Lm.ret_of (Lh.sub_of (f := rd 1) (s1 := st) (x := .lst ds) (y := nD r) rfl hc (fun s => dr_lst s _) (fun s => rfl) (by rw [v_subL, v_ixL, atI_of (j := r) (by rw [List.getElem?_eq_getElem hr])]))
/-! comprehensions that draw -/
theorem compL_yesO {α : Type} {t : MG} {f : ME} {env : Sg} {k : Nat} {F : α → D} {P : α → Prop} : ∀ (ds : List D), (∀ d ∈ ds, ∃ e, t d env = some e ∧ YesO k (f e) fun x => ∃ a, x = F a ∧ P a) → YesO (ds.length * k) (compL t yesM f env ds) fun l => ∃ as : List α, l = as.map F ∧ as.length = ds.length ∧ ∀ a ∈ as, P a
  | [], _ => fun st h0 hn => ⟨[], st, rfl, ⟨[], rfl, rfl, fun _ h => nomatch h⟩, rfl, Int.le_refl _, by simp⟩
  | d :: ds, h => by
    obtain ⟨e, h1, h2⟩ := h d List.mem_cons_self
    have ih := compL_yesO ds fun x hx => h x (List.mem_cons_of_mem _ hx)
    intro st h0 hn
    have en : ((d :: ds).length * k : Nat) = k + ds.length * k := by rw [List.length_cons, Nat.succ_mul]; omega
    rw [en] at hn ⊢
    obtain ⟨y, s1, e1, ⟨a, rfl, p1⟩, o1, l1, l2⟩ := h2 st h0 (by omega)
    obtain ⟨l, s2, e2, ⟨as, rfl, p2, p3⟩, o2, l3, l4⟩ := ih s1 (by omega) (by omega)
    refine ⟨F a :: as.map F, s2, ?_, ⟨a :: as, rfl, by simp [p2], fun x hx => ?_⟩, o2.trans o1, by omega, by omega⟩
    · rw [v_compL, h1]
      simp [e1, e2]
    · rcases List.mem_cons.mp hx with z | z
      · rw [z]; exact p1
      · exact p3 x z
theorem compL_subO {α : Type} {t : MG} {c : MT} {f : ME} {env : Sg} {k : Nat} {F G : α → D} : ∀ (as : List α), (∀ a ∈ as, ∃ e, t (F a) env = some e ∧ YesO k (c e) (fun _ => True) ∧ ∀ s, f e s = some (G a, s)) → YesO (as.length * k) (compL t c f env (as.map F)) fun l => ∃ bs : List α, l = bs.map G ∧ bs.Sublist as
  | [], _ => fun st h0 hn => ⟨[], st, rfl, ⟨[], rfl, List.Sublist.slnil⟩, rfl, Int.le_refl _, by simp⟩
  | d :: ds, h => by
    obtain ⟨e, h1, h2, h3⟩ := h d List.mem_cons_self
    have ih := compL_subO ds fun x hx => h x (List.mem_cons_of_mem _ hx)
    intro st h0 hn
    have en : ((d :: ds).length * k : Nat) = k + ds.length * k := by rw [List.length_cons, Nat.succ_mul]; omega
    rw [en] at hn ⊢
    obtain ⟨y, s1, e1, _, o1, l1, l2⟩ := h2 st h0 (by omega)
    obtain ⟨l, s2, e2, ⟨as, rfl, p2⟩, o2, l3, l4⟩ := ih s1 (by omega) (by omega)
    cases y with
    | true =>
      refine ⟨G d :: as.map G, s2, ?_, ⟨d :: as, rfl, p2.cons_cons d⟩, o2.trans o1, by omega, by omega⟩
      rw [List.map_cons, v_compL, h1]
      simp [e1, e2, h3]
    | false =>
      refine ⟨as.map G, s2, ?_, ⟨as, rfl, p2.cons d⟩, o2.trans o1, by omega, by omega⟩
      rw [List.map_cons, v_compL, h1]
      simp [e1, e2]
theorem fil_sub {bs as : List Nat} (h : bs.Sublist as) (hn : as.Nodup) : bs = as.filter fun x => decide (x ∈ bs) := by
  induction h with
  | slnil => rfl
  | cons a hs ih =>
    rename_i l1 l2
    rw [List.nodup_cons] at hn
    have : a ∉ l1 := fun h => hn.1 (hs.subset h)
    rw [List.filter_cons_of_neg (by simpa using this)]
    exact ih hn.2
  | cons_cons a hs ih =>
    rename_i l1 l2
    rw [List.nodup_cons] at hn
    rw [List.filter_cons_of_pos (by simp)]
    congr 1
    have e := ih hn.2
    rw [show (List.filter (fun x => decide (x ∈ a :: l1)) l2) = List.filter (fun x => decide (x ∈ l1)) l2 from List.filter_congr fun x hx => by
      have : x ≠ a := fun z => hn.1 (z ▸ hx)
      simp [this]]
    exact e
/-! ### states -/
theorem sapp2 {fo fx : ME} {env : Sg} {st s1 : S} {n : Nat} {ds0 ds : List D} {d : D} (h : st.ob[n]? = some (.lst ds0)) (h1 : s1.ob[n]? = some (.lst ds)) (hl : ds.length ≤ 900000) (ho : fo env st = some (.ref n, st)) (hx : fx env st = some (d, s1)) : sappM fo fx env st = some (.nx env, s1.put n (.lst (ds ++ [d]))) := by
  rw [v_sappM, ho, Option.bind_some, v_refOf, Option.bind_some]
  show (lstAt st n).bind _ = _
  rw [lstAt_of h, Option.bind_some, hx, Option.bind_some]
  show (lstAt s1 n).bind _ = _
  rw [lstAt_of h1, Option.bind_some]
  exact grd_of (show ds.length + 1 ≤ 1000000 by omega)
theorem tupR {f : ME} {env : Sg} {st s1 : S} {n : Nat} {ds : List D} (h1 : f env st = some (.ref n, s1)) (h2 : s1.ob[n]? = some (.lst ds)) : cbM tupleM (aCons f aNil) env st = some (.tup ds, s1) := by
  have hd : dr s1 (.ref n) = .lst ds := by
    show (match s1.ob[n]? with | some (.lst ds) => D.lst ds | some (.dic _ ks ds) => .dic ks ds | _ => .ref n) = _
    rw [h2]
  rw [v_cbM, Lm.cons_of h1 v_aNil, Option.bind_some]
  show ((tupleM [dr s1 (.ref n)]).map _ : Option (D × S)) = _
  rw [hd]; rfl
noncomputable def rowE : ME := (ifM (tstM (opM eqM (callM m__law_draw (aCons (rd 0) (aCons (cst (.int 5)) aNil))) (cst (.int 0)))) (cst .non) (callM m__law_draw (aCons (rd 0) (aCons (rd 3) aNil))))
theorem rowE_yes {m : Nat} (h0 : 0 < m) (h1 : m ≤ 1000) {env : Sg} (hd : ∀ s : S, rd 0 env s = some (.deck, s)) (hf : ∀ s : S, rd 3 env s = some (nD m, s)) : YesO 2 (rowE env) fun x => ∃ o : Option Nat, x = oD o ∧ ∀ n, o = some n → n < m := fun st h hn => by
  obtain ⟨_, s1, e1, ⟨r, rfl, hr⟩, o1, l1, l2⟩ := drw (f := cst (.int 5)) (m := 5) (env := env) (by decide) (by decide) hd (fun s => rfl) st h (by omega)
  have t := Lh.eq_int (h := cst (.int 0)) (j := 0) (s2 := s1) e1 rfl
  by_cases hz : ((r : Nat) : Int) = 0
  · rw [decide_eq_true hz] at t
    exact ⟨.non, s1, if_t t rfl, ⟨none, rfl, fun n h => nomatch h⟩, o1, by omega, by omega⟩
  · rw [decide_eq_false hz] at t
    obtain ⟨_, s2, e2, ⟨q, rfl, hq⟩, o2, l3, l4⟩ := drw (f := rd 3) (m := m) (env := env) h0 h1 hd hf s1 (by omega) (by omega)
    exact ⟨nD q, s2, if_f t e2, ⟨some q, rfl, fun n h => by cases h; exact hq⟩, o2.trans o1, by omega, by omega⟩
noncomputable def kiB : MS := (seqM (asgM (nameT 7) (frz (compM (r1M (aCons (rd 1) aNil)) (nameT 8) yesM rowE [8])))
 (seqM (sappM (rd 4) (cbM tupleM (aCons (rd 7) aNil)))
 (sappM (rd 5) (opM gtM (callM m__law_draw (aCons (rd 0) (aCons (cst (.int 3)) aNil))) (cst (.int 0))))))
abbrev envK (k m : Nat) (L : Nat) (x2 x6 x7 x8 : Sl) : Sg := [.val .deck, .val (nD k), x2, .val (nD m), .val (.ref L), .val (.ref (L + 1)), x6, x7, x8]
theorem tup_lst {f : ME} {env : Sg} {st s1 : S} {ds : List D} (h1 : f env st = some (.lst ds, s1)) : cbM tupleM (aCons f aNil) env st = some (.tup ds, s1) := by
  rw [v_cbM, Lm.cons_of h1 v_aNil, Option.bind_some]; rfl
section
variable {k m : Nat} (h4 : k ≤ 4) (hm0 : 0 < m) (hm : m ≤ 8) (x2 : Sl) (L : List Ob)
include h4 hm0 hm
theorem ki_turn (x6 x7 x8 : Sl) (rows : List (List (Option Nat))) (ends : List Bool) (h1 : rows.length ≤ 1000) (h2 : ends.length ≤ 1000) (st : S) (ho : st.ob = L ++ [.lst (rows.map rwD), .lst (ends.map D.bl)]) (h0 : 0 ≤ st.n) (hn : st.n + 10 ≤ nMax) :
    ∃ (row : List (Option Nat)) (b : Bool) (x7' x8' : Sl) (st' : S), kiB (envK k m L.length x2 x6 x7 x8) st = some (.nx (envK k m L.length x2 x6 x7' x8'), st') ∧ row.length = k ∧ (∀ n, some n ∈ row → n < m) ∧ st'.ob = L ++ [.lst ((rows ++ [row]).map rwD), .lst ((ends ++ [b]).map D.bl)] ∧ st.n ≤ st'.n ∧ st'.n ≤ st.n + 10 := by
  have hk : ((List.range k).map fun x => D.int ((x : Nat) : Int)).length = k := by simp
  obtain ⟨_, s1, e1, ⟨row, rfl, r1, r2⟩, o1, l1, l2⟩ := compL_yesO (t := nameT 8) (f := rowE) (env := envK k m L.length x2 x6 x7 .un) (k := 2) (F := oD) (P := fun o => ∀ n, o = some n → n < m) ((List.range k).map fun x => D.int ((x : Nat) : Int)) (fun d _ => ⟨envK k m L.length x2 x6 x7 (.val d), rfl, rowE_yes hm0 (by omega) (fun s => rfl) (fun s => rfl)⟩) st h0 (by rw [hk]; omega)
  rw [hk] at l2 r1
  have er : r1M (aCons (rd 1) aNil) (envK k m L.length x2 x6 x7 x8) st = some ((List.range k).map fun x => D.int ((x : Nat) : Int), st) := Lh.r1_of (f := rd 1) (s1 := st) rfl (by omega)
  have ec : frz (compM (r1M (aCons (rd 1) aNil)) (nameT 8) yesM rowE [8]) (envK k m L.length x2 x6 x7 x8) st = some (.lst (row.map oD), s1) := by
    rw [v_frz, v_compM, er, Option.bind_some]
    show (grd _ (compL _ _ _ (envK k m L.length x2 x6 x7 .un) _ st)).map _ = _
    rw [grd_of (by rw [hk]; omega), e1]; rfl
  have g1 : s1.ob[L.length]? = some (.lst (rows.map rwD)) := by
    rw [o1, ho, List.getElem?_append_right (Nat.le_refl _), Nat.sub_self]; rfl
  have a1 : sappM (rd 4) (cbM tupleM (aCons (rd 7) aNil)) (envK k m L.length x2 x6 (.val (.lst (row.map oD))) x8) s1 = some (.nx (envK k m L.length x2 x6 (.val (.lst (row.map oD))) x8), s1.put L.length (.lst (rows.map rwD ++ [rwD row]))) :=
    sapp2 g1 g1 (by rw [List.length_map]; omega) rfl (tup_lst (f := rd 7) (s1 := s1) rfl)
  have o2 : (s1.put L.length (.lst (rows.map rwD ++ [rwD row]))).ob = L ++ [.lst ((rows ++ [row]).map rwD), .lst (ends.map D.bl)] := by
    show s1.ob.set L.length _ = _
    rw [o1, ho, List.set_append_right _ _ (Nat.le_refl _), Nat.sub_self, List.map_append]; rfl
  obtain ⟨s2, hs2⟩ : ∃ s2, s2 = s1.put L.length (.lst (rows.map rwD ++ [rwD row])) := ⟨_, rfl⟩
  have n2 : s2.n = s1.n := by rw [hs2]; rfl
  rw [← hs2] at a1 o2
  obtain ⟨_, s3, e3, ⟨r, rfl, hr⟩, o3, l3, l4⟩ := drw (f := cst (.int 3)) (m := 3) (env := envK k m L.length x2 x6 (.val (.lst (row.map oD))) x8) (by decide) (by decide) (fun s => rfl) (fun s => rfl) s2 (by omega) (by omega)
  have eg : opM gtM (callM m__law_draw (aCons (rd 0) (aCons (cst (.int 3)) aNil))) (cst (.int 0)) (envK k m L.length x2 x6 (.val (.lst (row.map oD))) x8) s2 = some (.bl (decide ((0 : Int) < ((r : Nat) : Int))), s3) := by
    rw [v_opM, e3]; rfl
  have g2 : ∀ s : S, s.ob = L ++ [.lst ((rows ++ [row]).map rwD), .lst (ends.map D.bl)] → s.ob[L.length + 1]? = some (.lst (ends.map D.bl)) := fun s h => by
    rw [h, List.getElem?_append_right (by omega), Nat.add_sub_cancel_left]; rfl
  have a2 : sappM (rd 5) (opM gtM (callM m__law_draw (aCons (rd 0) (aCons (cst (.int 3)) aNil))) (cst (.int 0))) (envK k m L.length x2 x6 (.val (.lst (row.map oD))) x8) s2 = some (.nx (envK k m L.length x2 x6 (.val (.lst (row.map oD))) x8), s3.put (L.length + 1) (.lst (ends.map D.bl ++ [.bl (decide ((0 : Int) < ((r : Nat) : Int)))]))) :=
    sapp2 (g2 s2 o2) (g2 s3 (o3.trans o2)) (by rw [List.length_map]; omega) rfl eg
  refine ⟨row, decide ((0 : Int) < ((r : Nat) : Int)), .val (.lst (row.map oD)), x8, s3.put (L.length + 1) (.lst (ends.map D.bl ++ [.bl (decide ((0 : Int) < ((r : Nat) : Int)))])), ?_, r1, fun n h => r2 _ h n rfl, ?_, ?_, ?_⟩
  · unfold kiB
    rw [Lm.seq_nx (e := envK k m L.length x2 x6 (.val (.lst (row.map oD))) x8) (Lm.asg_nx ec), Lm.seq_nx a1]
    exact a2
  · show s3.ob.set (L.length + 1) _ = _
    rw [o3, o2, List.set_append_right _ _ (by omega), Nat.add_sub_cancel_left, List.map_append, List.map_append]; rfl
  · show st.n ≤ s3.n; omega
  · show s3.n ≤ _; omega
theorem ki_loop : ∀ (ds : List D) (rows : List (List (Option Nat))) (ends : List Bool) (x6 x7 x8 : Sl) (st : S), st.ob = L ++ [.lst (rows.map rwD), .lst (ends.map D.bl)] → 0 ≤ st.n → st.n + ((ds.length * 10 : Nat) : Int) ≤ nMax → rows.length + ds.length ≤ 1000 → ends.length = rows.length → (∀ r ∈ rows, r.length = k ∧ ∀ n, some n ∈ r → n < m) →
    ∃ (rows' : List (List (Option Nat))) (ends' : List Bool) (y6 y7 y8 : Sl) (st' : S), forL (nameT 6) kiB ds (envK k m L.length x2 x6 x7 x8) st = some (.nx (envK k m L.length x2 y6 y7 y8), st') ∧ st'.ob = L ++ [.lst (rows'.map rwD), .lst (ends'.map D.bl)] ∧ rows'.length = rows.length + ds.length ∧ ends'.length = rows'.length ∧ (∀ r ∈ rows', r.length = k ∧ ∀ n, some n ∈ r → n < m) ∧ st.n ≤ st'.n ∧ st'.n ≤ st.n + ((ds.length * 10 : Nat) : Int)
  | [], rows, ends, x6, x7, x8, st, ho, h0, hn, hl, he, hr => ⟨rows, ends, x6, x7, x8, st, rfl, ho, rfl, he, hr, Int.le_refl _, by simp⟩
  | d :: ds, rows, ends, x6, x7, x8, st, ho, h0, hn, hl, he, hr => by
    rw [List.length_cons] at hn hl ⊢
    obtain ⟨row, b, y7, y8, s1, e1, r1, r2, o1, l1, l2⟩ := ki_turn h4 hm0 hm x2 L (.val d) x7 x8 rows ends (by omega) (by omega) st ho h0 (by omega)
    obtain ⟨rows', ends', z6, z7, z8, s2, e2, o2, q1, q2, q3, l3, l4⟩ := ki_loop ds (rows ++ [row]) (ends ++ [b]) (.val d) y7 y8 s1 o1 (by omega) (by omega) (by simp; omega) (by simp; omega) fun r h => by
      rcases List.mem_append.mp h with h | h
      · exact hr r h
      · rw [List.mem_singleton.mp h]; exact ⟨r1, r2⟩
    refine ⟨rows', ends', z6, z7, z8, s2, ?_, o2, by rw [q1, List.length_append]; simp; omega, q2, q3, by omega, by omega⟩
    have et : nameT 6 d (envK k m L.length x2 x6 x7 x8) = some (envK k m L.length x2 (.val d) x7 x8) := rfl
    rw [v_forL, et, Option.bind_some, e1, Option.bind_some]
    exact e2
end
/-- a kind's parts -/
theorem kind_yes {k : Nat} (h4 : k ≤ 4) : Yes 81 (m__law_kind [.deck, nD k, .int 8]) fun d => ∃ (rows : List (List (Option Nat))) (ends : List Bool), d = .tup [nD k, .tup (rows.map rwD), .tup (ends.map D.bl)] ∧ 1 ≤ rows.length ∧ rows.length ≤ 8 ∧ ends.length = rows.length ∧ ∀ r ∈ rows, r.length = k ∧ ∀ n, some n ∈ r → n < rows.length := by
  intro st h0 hn
  have hb : b__law_kind = (seqM (asgM (tupT 3 (consT (nameT 3) (consT (nameT 4) (consT (nameT 5) nilT)))) (tupM (aCons (opM addM (cst (.int 1)) (callM m__law_draw (aCons (rd 0) (aCons (rd 2) aNil)))) (aCons (stoL (lstM aNil)) (aCons (stoL (lstM aNil)) aNil)))))
    (seqM (forM (r1M (aCons (rd 3) aNil)) (nameT 6) kiB)
    (retM (tupM (aCons (rd 1) (aCons (cbM tupleM (aCons (rd 4) aNil)) (aCons (cbM tupleM (aCons (rd 5) aNil)) aNil))))))) := rfl
  obtain ⟨_, s1, e1, ⟨q, rfl, hq⟩, o1, l1, l2⟩ := drw (f := rd 2) (m := 8) (env := [.val .deck, .val (nD k), .val (.int 8), .un, .un, .un, .un, .un, .un]) (by decide) (by decide) (fun s => rfl) (fun s => rfl) st h0 (by omega)
  obtain ⟨m, hm⟩ : ∃ m : Nat, m = 1 + q := ⟨_, rfl⟩
  have em : (1 : Int) + ((q : Nat) : Int) = ((m : Nat) : Int) := by omega
  have e2 : opM addM (cst (.int 1)) (callM m__law_draw (aCons (rd 0) (aCons (rd 2) aNil))) [.val .deck, .val (nD k), .val (.int 8), .un, .un, .un, .un, .un, .un] st = some (nD m, s1) := by
    rw [Lh.int_add (f := cst (.int 1)) (i := 1) (s1 := st) rfl e1, em]
  obtain ⟨s2, hs2⟩ : ∃ s2, s2 = (s1.ad (.lst [])).ad (.lst []) := ⟨_, rfl⟩
  have e3 : tupM (aCons (opM addM (cst (.int 1)) (callM m__law_draw (aCons (rd 0) (aCons (rd 2) aNil)))) (aCons (stoL (lstM aNil)) (aCons (stoL (lstM aNil)) aNil))) [.val .deck, .val (nD k), .val (.int 8), .un, .un, .un, .un, .un, .un] st = some (.tup [nD m, .ref st.ob.length, .ref (st.ob.length + 1)], s2) := by
    have b1 : ∀ (env : Sg) (s : S), stoL (lstM aNil) env s = some (.ref s.ob.length, s.ad (.lst [])) := fun env s => by
      rw [v_stoL, v_lstM, v_aNil, Option.bind_some]
      show (grd 0 (some (([] : List D), s))).map _ = _
      rw [grd_of (show 0 ≤ 1000000 by decide)]; rfl
    rw [v_tupM, Lm.cons_of e2 (Lm.cons_of (b1 _ s1) (Lm.cons_of (b1 _ (s1.ad (.lst []))) v_aNil)), Option.bind_some]
    have hl : (s1.ad (.lst [])).ob.length = st.ob.length + 1 := by
      show (s1.ob ++ [_]).length = _
      rw [o1, List.length_append]; rfl
    rw [hl, o1, ← hs2]
    exact grd_of (show 3 ≤ 1000000 by decide)
  have o2 : s2.ob = st.ob ++ [.lst (([] : List (List (Option Nat))).map rwD), .lst (([] : List Bool).map D.bl)] := by
    rw [hs2]
    show (s1.ob ++ [_]) ++ [_] = _
    rw [o1, List.append_assoc]; rfl
  have n2 : s2.n = s1.n := by rw [hs2]; rfl
  obtain ⟨rows, ends, y6, y7, y8, s3, e4, o3, r1, r2, r3, l3, l4⟩ := ki_loop h4 (m := m) (by omega) (by omega) (.val (.int 8)) st.ob ((List.range m).map fun x => D.int ((x : Nat) : Int)) [] [] .un .un .un s2 o2 (by omega) (by simp; omega) (by simp; omega) rfl (fun r h => nomatch h)
  have hml : ((List.range m).map fun x => D.int ((x : Nat) : Int)).length = m := by simp
  rw [hml] at r1 l4
  have r1 : rows.length = m := by simpa using r1
  have er : r1M (aCons (rd 3) aNil) (envK k m st.ob.length (.val (.int 8)) .un .un .un) s2 = some ((List.range m).map fun x => D.int ((x : Nat) : Int), s2) := Lh.r1_of (f := rd 3) (s1 := s2) rfl (by omega)
  refine ⟨_, s3, Lm.run_of ?_, ⟨rows, ends, rfl, by omega, by omega, r2, fun r h => by rw [r1]; exact r3 r h⟩, by omega, by omega⟩
  show b__law_kind [.val .deck, .val (nD k), .val (.int 8), .un, .un, .un, .un, .un, .un] st = _
  rw [hb, Lm.seq_nx (e := envK k m st.ob.length (.val (.int 8)) .un .un .un) (s1 := s2) (by rw [v_asgM, e3]; rfl), Lm.seq_nx (forM_of' er e4)]
  have g1 : s3.ob[st.ob.length]? = some (.lst (rows.map rwD)) := by
    rw [o3, List.getElem?_append_right (Nat.le_refl _), Nat.sub_self]; rfl
  have g2 : s3.ob[st.ob.length + 1]? = some (.lst (ends.map D.bl)) := by
    rw [o3, List.getElem?_append_right (by omega), Nat.add_sub_cancel_left]; rfl
  refine Lm.ret_of ?_
  rw [v_tupM, Lm.cons_of (f := rd 1) (s1 := s3) rfl (Lm.cons_of (tupR (f := rd 4) (s1 := s3) rfl g1) (Lm.cons_of (tupR (f := rd 5) (s1 := s3) rfl g2) v_aNil)), Option.bind_some]
  exact grd_of (show 3 ≤ 1000000 by decide)
end Lw

set_option Elab.async false
set_option linter.all false
set_option maxRecDepth 100000
set_option maxHeartbeats 2000000
namespace Lw
open PySem MD L2 Lc
variable {ww : WW}
/-! ### units -/
theorem forM_of2 {it : MI} {t : MG} {b : MS} {env : Sg} {st s1 : S} {ds : List D} {r : Option (Fl × S)} (h : it env st = some (ds, s1)) (e : forL t b ds env s1 = r) : forM it t b env st = r := by
  rw [v_forM, h]
  exact e
noncomputable def oneE : ME := (callM m__law_one (aCons (rd 0) (aCons (frz (lstM (aCons (cst (.int 1)) (aCons (cst (.int 1)) (aCons (cst (.int 1)) (aCons (cst (.int 2)) (aCons (cst (.int 3)) (aCons (cst (.int 0)) (aCons (cst (.int 4)) (aCons (cst (.int 9)) aNil)))))))))) aNil)))
theorem oneE_yes {env : Sg} (hd : ∀ s : S, rd 0 env s = some (.deck, s)) : YesO 1 (oneE env) fun x => ∃ n : Nat, x = nD n ∧ n ≤ 9 := fun st h hn => by
  have a1 : frz (lstM (aCons (cst (.int 1)) (aCons (cst (.int 1)) (aCons (cst (.int 1)) (aCons (cst (.int 2)) (aCons (cst (.int 3)) (aCons (cst (.int 0)) (aCons (cst (.int 4)) (aCons (cst (.int 9)) aNil))))))))) env st = some (.lst [nD 1, nD 1, nD 1, nD 2, nD 3, nD 0, nD 4, nD 9], st) :=
    Lm.lst_of (Lm.cons_of rfl (Lm.cons_of rfl (Lm.cons_of rfl (Lm.cons_of rfl (Lm.cons_of rfl (Lm.cons_of rfl (Lm.cons_of rfl (Lm.cons_of rfl v_aNil)))))))) (by simp)
  obtain ⟨d, s1, e, hm, o, l1, l2⟩ := one_lst (ds := [nD 1, nD 1, nD 1, nD 2, nD 3, nD 0, nD 4, nD 9]) (st := st) (by simp) (by simp) h (by omega)
  refine ⟨d, s1, Lm.call_of (Lm.cons_of (hd st) (Lm.cons_of a1 v_aNil)) e, ?_, o, l1, by omega⟩
  simp only [List.mem_cons, List.mem_nil_iff, or_false] at hm
  rcases hm with h | h | h | h | h | h | h | h <;> exact ⟨_, h, by decide⟩
noncomputable def uiB : MS := (appM 2 (cbM tupleM (aCons (frz (compM (r1M (aCons (rd 1) aNil)) (nameT 4) yesM oneE [4])) aNil)))
section
variable {k : Nat} (h4 : k ≤ 4)
include h4
theorem ui_loop : ∀ (ds : List D) (us : List (List Nat)) (x3 x4 : Sl) (st : S), 0 ≤ st.n → st.n + ((ds.length * 4 : Nat) : Int) ≤ nMax → us.length + ds.length ≤ 1000 → (∀ u ∈ us, u.length = k ∧ ∀ n ∈ u, n ≤ 9) →
    ∃ (us' : List (List Nat)) (y3 y4 : Sl) (st' : S), forL (nameT 3) uiB ds [.val .deck, .val (nD k), .own (.lst, us.map unD), x3, x4] st = some (.nx [.val .deck, .val (nD k), .own (.lst, us'.map unD), y3, y4], st') ∧ us'.length = us.length + ds.length ∧ (∀ u ∈ us', u.length = k ∧ ∀ n ∈ u, n ≤ 9) ∧ st'.ob = st.ob ∧ st.n ≤ st'.n ∧ st'.n ≤ st.n + ((ds.length * 4 : Nat) : Int)
  | [], us, x3, x4, st, h0, hn, hl, hu => ⟨us, x3, x4, st, rfl, rfl, hu, rfl, Int.le_refl _, by simp⟩
  | d :: ds, us, x3, x4, st, h0, hn, hl, hu => by
    rw [List.length_cons] at hn hl ⊢
    have hk : ((List.range k).map fun x => D.int ((x : Nat) : Int)).length = k := by simp
    obtain ⟨_, s1, e1, ⟨u, rfl, r1, r2⟩, o1, l1, l2⟩ := compL_yesO (t := nameT 4) (f := oneE) (env := [.val .deck, .val (nD k), .own (.lst, us.map unD), .val d, .un]) (k := 1) (F := nD) (P := fun n => n ≤ 9) ((List.range k).map fun x => D.int ((x : Nat) : Int)) (fun z _ => ⟨[.val .deck, .val (nD k), .own (.lst, us.map unD), .val d, .val z], rfl, oneE_yes (fun s => rfl)⟩) st h0 (by rw [hk]; omega)
    rw [hk] at l2 r1
    have er : r1M (aCons (rd 1) aNil) [.val .deck, .val (nD k), .own (.lst, us.map unD), .val d, x4] st = some ((List.range k).map fun x => D.int ((x : Nat) : Int), st) := Lh.r1_of (f := rd 1) (s1 := st) rfl (by omega)
    have ec : frz (compM (r1M (aCons (rd 1) aNil)) (nameT 4) yesM oneE [4]) [.val .deck, .val (nD k), .own (.lst, us.map unD), .val d, x4] st = some (.lst (u.map nD), s1) := by
      rw [v_frz, v_compM, er, Option.bind_some]
      show (grd _ (compL _ _ _ [.val .deck, .val (nD k), .own (.lst, us.map unD), .val d, .un] _ st)).map _ = _
      rw [grd_of (by rw [hk]; omega), e1]; rfl
    obtain ⟨us', y3, y4, s2, e2, q1, q2, o2, l3, l4⟩ := ui_loop ds (us ++ [u]) (.val d) x4 s1 (by omega) (by omega) (by simp; omega) fun v hv => by
      rcases List.mem_append.mp hv with h | h
      · exact hu v h
      · rw [List.mem_singleton.mp h]; exact ⟨r1, r2⟩
    refine ⟨us', y3, y4, s2, ?_, by rw [q1, List.length_append]; simp; omega, q2, o2.trans o1, by omega, by omega⟩
    have et : nameT 3 d [.val .deck, .val (nD k), .own (.lst, us.map unD), x3, x4] = some [.val .deck, .val (nD k), .own (.lst, us.map unD), .val d, x4] := rfl
    have ea := app_of (i := 2) (env := [.val .deck, .val (nD k), .own (.lst, us.map unD), .val d, x4]) (ds := us.map unD) rfl (by rw [List.length_map]; omega) (tup_lst ec)
    have ea' : uiB [.val .deck, .val (nD k), .own (.lst, us.map unD), .val d, x4] st = some (.nx [.val .deck, .val (nD k), .own (.lst, (us ++ [u]).map unD), .val d, x4], s1) := by
      rw [List.map_append]
      exact ea
    rw [v_forL, et, Option.bind_some, ea', Option.bind_some]
    exact e2
theorem units_yes : YesO 9 (m__law_units [.deck, nD k]) fun d => ∃ us : List (List Nat), d = .tup (us.map unD) ∧ 1 ≤ us.length ∧ us.length ≤ 2 ∧ ∀ u ∈ us, u.length = k ∧ ∀ n ∈ u, n ≤ 9 := by
  intro st h0 hn
  have hb : b__law_units = (seqM (ownM 2 (lstM aNil))
    (seqM (forM (r1M (aCons (opM addM (cst (.int 1)) (callM m__law_draw (aCons (rd 0) (aCons (cst (.int 2)) aNil)))) aNil)) (nameT 3) uiB)
    (retM (cbM tupleM (aCons (rdW 2) aNil))))) := rfl
  obtain ⟨_, s1, e1, ⟨q, rfl, hq⟩, o1, l1, l2⟩ := drw (f := cst (.int 2)) (m := 2) (env := [.val .deck, .val (nD k), .own (.lst, []), .un, .un]) (by decide) (by decide) (fun s => rfl) (fun s => rfl) st h0 (by omega)
  obtain ⟨m, hm⟩ : ∃ m : Nat, m = 1 + q := ⟨_, rfl⟩
  have em : (1 : Int) + ((q : Nat) : Int) = ((m : Nat) : Int) := by omega
  have e2 : opM addM (cst (.int 1)) (callM m__law_draw (aCons (rd 0) (aCons (cst (.int 2)) aNil))) [.val .deck, .val (nD k), .own (.lst, []), .un, .un] st = some (nD m, s1) := by
    rw [Lh.int_add (f := cst (.int 1)) (i := 1) (s1 := st) rfl e1, em]
  have er := Lh.r1_of e2 (by omega)
  have hml : ((List.range m).map fun x => D.int ((x : Nat) : Int)).length = m := by simp
  obtain ⟨us, y3, y4, s2, e3, r1, r2, o2, l3, l4⟩ := ui_loop h4 ((List.range m).map fun x => D.int ((x : Nat) : Int)) [] .un .un s1 (by omega) (by rw [hml]; omega) (by rw [hml]; simp; omega) (fun u h => nomatch h)
  rw [hml] at r1 l4
  have r1 : us.length = m := by simpa using r1
  refine ⟨_, s2, Lm.run_of ?_, ⟨us, rfl, by omega, by omega, r2⟩, o2.trans o1, by omega, by omega⟩
  show b__law_units [.val .deck, .val (nD k), .un, .un, .un] st = _
  have eo : ownM 2 (lstM aNil) [.val .deck, .val (nD k), .un, .un, .un] st = some (.nx [.val .deck, .val (nD k), .own (.lst, []), .un, .un], st) := Lm.own_nx (a := lstM aNil) (ds := []) (by
    rw [v_lstM, v_aNil, Option.bind_some]
    exact grd_of (show 0 ≤ 1000000 by decide))
  rw [hb, Lm.seq_nx eo, Lm.seq_nx (forM_of2 er e3)]
  exact Lm.ret_of (tup_lst (f := rdW 2) (s1 := s2) rfl)
end
/-! ### cuts -/
theorem nodup_ltr (k : Nat) : (ltr k).Nodup := by
  refine List.Pairwise.map _ ?_ List.nodup_range
  intro a b h
  omega
noncomputable def clC : MT := (tstM (opM eqM (callM m__law_draw (aCons (rd 0) (aCons (cst (.int 4)) aNil))) (cst (.int 0))))
theorem clC_yes {env : Sg} (hd : ∀ s : S, rd 0 env s = some (.deck, s)) : YesO 1 (clC env) fun _ => True := fun st h hn => by
  obtain ⟨_, s1, e1, ⟨r, rfl, hr⟩, o1, l1, l2⟩ := drw (f := cst (.int 4)) (m := 4) (env := env) (by decide) (by decide) hd (fun s => rfl) st h (by omega)
  exact ⟨_, s1, Lh.eq_int (h := cst (.int 0)) (j := 0) (s2 := s1) e1 rfl, trivial, o1, l1, l2⟩
def CuOk (k u : Nat) (c : Nat × Nat × List Nat) : Prop := c.1 < u ∧ c.2.1 ≤ 20 ∧ c.2.2 = (ltr k).filter fun x => decide (x ∈ c.2.2)
theorem cut_yes {k : Nat} (h4 : k ≤ 4) {us : List D} (hu0 : 1 ≤ us.length) (hu : us.length ≤ 2) : YesO 6 (m__law_cut [.deck, nD k, .tup us, .int 20]) fun d => ∃ c, d = cuD c ∧ CuOk k us.length c := by
  intro st h0 hn
  have hb : b__law_cut = (seqM (asgM (nameT 4) (m1M joinM (cst (.str "")) (frz (compM (seqI (slM slAny (cst (.str "abcd")) noP (prt (rd 1)))) (nameT 5) clC (rd 5) [5]))))
    (retM (tupM (aCons (callM m__law_draw (aCons (rd 0) (aCons (cbM lenA (aCons (rd 2) aNil)) aNil))) (aCons (callM m__law_draw (aCons (rd 0) (aCons (opM addM (rd 3) (cst (.int 1))) aNil))) (aCons (rd 4) aNil)))))) := rfl
  have hl : (ltr k).length = k := by simp
  obtain ⟨_, s1, e1, ⟨cl, rfl, hsub⟩, o1, l1, l2⟩ := compL_subO (t := nameT 5) (c := clC) (f := rd 5) (env := [.val .deck, .val (nD k), .val (.tup us), .val (.int 20), .un, .un]) (k := 1) (F := fun c => D.str (W [c])) (G := fun c => D.str (W [c])) (ltr k) (fun c _ => ⟨[.val .deck, .val (nD k), .val (.tup us), .val (.int 20), .un, .val (.str (W [c]))], rfl, clC_yes (fun s => rfl), fun s => rfl⟩) st h0 (by rw [hl]; omega)
  rw [hl] at l2
  have es : slM slAny (cst (.str "abcd")) noP (prt (rd 1)) [.val .deck, .val (nD k), .val (.tup us), .val (.int 20), .un, .un] st = some (.str (W (ltr k)), st) := by
    have := sl_to (f := cst (.str "abcd")) (h := rd 1) (env := [.val .deck, .val (nD k), .val (.tup us), .val (.int 20), .un, .un]) (st := st) (s2 := st) (p := k) (str_of s_abcd) rfl (by decide)
    have e4 : (ltr 4).take k = ltr k := by
      have hk : k = 0 ∨ k = 1 ∨ k = 2 ∨ k = 3 ∨ k = 4 := by omega
      rcases hk with h | h | h | h | h <;> (subst h; decide)
    rw [e4] at this
    exact this
  have ec : frz (compM (seqI (slM slAny (cst (.str "abcd")) noP (prt (rd 1)))) (nameT 5) clC (rd 5) [5]) [.val .deck, .val (nD k), .val (.tup us), .val (.int 20), .un, .un] st = some (.lst ((cl.map fun c => [c]).map fun p => D.str (W p)), s1) := by
    rw [v_frz, v_compM, signs_of es, Option.bind_some]
    show (grd _ (compL _ _ _ [.val .deck, .val (nD k), .val (.tup us), .val (.int 20), .un, .un] _ st)).map _ = _
    rw [grd_of (by rw [List.length_map, hl]; omega), e1, List.map_map]; rfl
  have hcl : cl.length ≤ 4 := Nat.le_trans hsub.length_le (by rw [hl]; exact h4)
  have ej := join_of (f := cst (.str "")) (s := []) (s1 := st) (ps := cl.map fun c => [c]) (show cst (.str "") [.val .deck, .val (nD k), .val (.tup us), .val (.int 20), .un, .un] st = _ from str_of (by decide +kernel)) ec (by
    have := sum_le (cl.map fun c => [c]) 1 (fun p hp => by
      obtain ⟨c, _, rfl⟩ := List.mem_map.mp hp
      exact Nat.le_refl _)
    rw [List.length_map] at this
    simp only [List.length_nil, Nat.mul_zero, Nat.add_zero]
    omega)
  rw [joinL_one] at ej
  have el : cbM lenA (aCons (rd 2) aNil) [.val .deck, .val (nD k), .val (.tup us), .val (.int 20), .val (.str (W cl)), .un] s1 = some (nD us.length, s1) := lenT (f := rd 2) (s1 := s1) rfl
  obtain ⟨_, s2, e2, ⟨i, rfl, hi⟩, o2, l3, l4⟩ := drw (f := cbM lenA (aCons (rd 2) aNil)) (m := us.length) (env := [.val .deck, .val (nD k), .val (.tup us), .val (.int 20), .val (.str (W cl)), .un]) hu0 (by omega) (fun s => rfl) (fun s => lenT (f := rd 2) (s1 := s) rfl) s1 (by omega) (by omega)
  obtain ⟨_, s3, e3, ⟨b, rfl, hb2⟩, o3, l5, l6⟩ := drw (f := opM addM (rd 3) (cst (.int 1))) (m := 21) (env := [.val .deck, .val (nD k), .val (.tup us), .val (.int 20), .val (.str (W cl)), .un]) (by decide) (by decide) (fun s => rfl) (fun s => Lh.int_add (f := rd 3) (i := 20) (j := 1) (s1 := s) rfl rfl) s2 (by omega) (by omega)
  refine ⟨_, s3, Lm.run_of ?_, ⟨(i, b, cl), rfl, hi, by show b ≤ 20; omega, fil_sub hsub (nodup_ltr k)⟩, o3.trans (o2.trans o1), by omega, by omega⟩
  show b__law_cut [.val .deck, .val (nD k), .val (.tup us), .val (.int 20), .un, .un] st = _
  rw [hb, Lm.seq_nx (e := [.val .deck, .val (nD k), .val (.tup us), .val (.int 20), .val (.str (W cl)), .un]) (Lm.asg_nx ej)]
  refine Lm.ret_of ?_
  rw [v_tupM, Lm.cons_of e2 (Lm.cons_of e3 (Lm.cons_of (f := rd 4) (s1 := s3) rfl v_aNil)), Option.bind_some]
  exact grd_of (show 3 ≤ 1000000 by decide)
/-! ### schemes -/
noncomputable def cuE : ME := (callM m__law_cut (aCons (rd 0) (aCons (rd 3) (aCons (rd 5) (aCons (rd 2) aNil)))))
theorem scheme_yes : Yes 120 (m__law_scheme [.deck, .int 8, .int 20]) fun d => ∃ s : Sm, d = smD s ∧ s.Ok := by
  intro st h0 hn
  have hb : b__law_scheme = (seqM (asgM (nameT 3) (opM addM (cst (.int 1)) (callM m__law_draw (aCons (rd 0) (aCons (cst (.int 4)) aNil)))))
    (seqM (asgM (tupT 2 (consT (nameT 4) (consT (nameT 5) nilT))) (tupM (aCons (callM m__law_kind (aCons (rd 0) (aCons (rd 3) (aCons (rd 1) aNil)))) (aCons (callM m__law_units (aCons (rd 0) (aCons (rd 3) aNil))) aNil))))
    (retM (tupM (aCons (rd 4) (aCons (rd 5) (aCons (cbM tupleM (aCons (frz (compM (r1M (aCons (callM m__law_draw (aCons (rd 0) (aCons (cst (.int 4)) aNil))) aNil)) (nameT 6) yesM cuE [6])) aNil)) aNil))))))) := rfl
  obtain ⟨_, s1, e1, ⟨q, rfl, hq⟩, o1, l1, l2⟩ := drw (f := cst (.int 4)) (m := 4) (env := [.val .deck, .val (.int 8), .val (.int 20), .un, .un, .un, .un]) (by decide) (by decide) (fun s => rfl) (fun s => rfl) st h0 (by omega)
  obtain ⟨k, hk⟩ : ∃ k : Nat, k = 1 + q := ⟨_, rfl⟩
  have ek : (1 : Int) + ((q : Nat) : Int) = ((k : Nat) : Int) := by omega
  have h4 : k ≤ 4 := by omega
  have e2 : opM addM (cst (.int 1)) (callM m__law_draw (aCons (rd 0) (aCons (cst (.int 4)) aNil))) [.val .deck, .val (.int 8), .val (.int 20), .un, .un, .un, .un] st = some (nD k, s1) := by
    rw [Lh.int_add (f := cst (.int 1)) (i := 1) (s1 := st) rfl e1, ek]
  obtain ⟨_, s2, e3, ⟨rows, ends, rfl, w1, w2, w3, w4⟩, l3, l4⟩ := kind_yes h4 s1 (by omega) (by omega)
  obtain ⟨_, s3, e4, ⟨us, rfl, u1, u2, u3⟩, o3, l5, l6⟩ := units_yes h4 s2 (by omega) (by omega)
  obtain ⟨K, hK⟩ : ∃ K : D, K = .tup [nD k, .tup (rows.map rwD), .tup (ends.map D.bl)] := ⟨_, rfl⟩
  rw [← hK] at e3
  have e5 : tupM (aCons (callM m__law_kind (aCons (rd 0) (aCons (rd 3) (aCons (rd 1) aNil)))) (aCons (callM m__law_units (aCons (rd 0) (aCons (rd 3) aNil))) aNil)) [.val .deck, .val (.int 8), .val (.int 20), .val (nD k), .un, .un, .un] s1 = some (.tup [K, .tup (us.map unD)], s3) :=
    Lh.tup2 (Lm.call_of (Lm.cons_of (f := rd 0) (s1 := s1) rfl (Lm.cons_of (f := rd 3) (s1 := s1) rfl (Lm.cons_of (f := rd 1) (s1 := s1) rfl v_aNil))) e3) (Lm.call_of (Lm.cons_of (f := rd 0) (s1 := s2) rfl (Lm.cons_of (f := rd 3) (s1 := s2) rfl v_aNil)) e4)
  obtain ⟨_, s4, e6, ⟨m, rfl, hm⟩, o4, l7, l8⟩ := drw (f := cst (.int 4)) (m := 4) (env := [.val .deck, .val (.int 8), .val (.int 20), .val (nD k), .val K, .val (.tup (us.map unD)), .un]) (by decide) (by decide) (fun s => rfl) (fun s => rfl) s3 (by omega) (by omega)
  have er := Lh.r1_of e6 (by omega)
  have hml : ((List.range m).map fun x => D.int ((x : Nat) : Int)).length = m := by simp
  obtain ⟨_, s5, e7, ⟨cs, rfl, c1, c2⟩, o5, l9, l10⟩ := compL_yesO (t := nameT 6) (f := cuE) (env := [.val .deck, .val (.int 8), .val (.int 20), .val (nD k), .val K, .val (.tup (us.map unD)), .un]) (k := 6) (F := cuD) (P := CuOk k (us.map unD).length) ((List.range m).map fun x => D.int ((x : Nat) : Int)) (fun z _ => ⟨[.val .deck, .val (.int 8), .val (.int 20), .val (nD k), .val K, .val (.tup (us.map unD)), .val z], rfl, fun st h0 hn => by
    obtain ⟨d, s', e, p⟩ := cut_yes h4 (us := us.map unD) (by rw [List.length_map]; omega) (by rw [List.length_map]; omega) st h0 hn
    exact ⟨d, s', Lm.call_of (Lm.cons_of (f := rd 0) (s1 := st) rfl (Lm.cons_of (f := rd 3) (s1 := st) rfl (Lm.cons_of (f := rd 5) (s1 := st) rfl (Lm.cons_of (f := rd 2) (s1 := st) rfl v_aNil)))) e, p⟩⟩) s4 (by omega) (by rw [hml]; omega)
  rw [hml] at c1 l10
  have ec : frz (compM (r1M (aCons (callM m__law_draw (aCons (rd 0) (aCons (cst (.int 4)) aNil))) aNil)) (nameT 6) yesM cuE [6]) [.val .deck, .val (.int 8), .val (.int 20), .val (nD k), .val K, .val (.tup (us.map unD)), .un] s3 = some (.lst (cs.map cuD), s5) := by
    rw [v_frz, v_compM, er, Option.bind_some]
    show (grd _ (compL _ _ _ [.val .deck, .val (.int 8), .val (.int 20), .val (nD k), .val K, .val (.tup (us.map unD)), .un] _ s4)).map _ = _
    rw [grd_of (by rw [hml]; omega), e7]; rfl
  refine ⟨smD ⟨k, rows, ends, us, cs⟩, s5, Lm.run_of ?_, ⟨_, rfl, ⟨by show 1 ≤ k; omega, h4, w1, w2, w4, w3, u1, u2, u3, by show cs.length ≤ 3; omega, fun c hc => by
    have := c2 c hc
    unfold CuOk at this
    rw [List.length_map] at this
    exact this⟩⟩, by omega, by omega⟩
  show b__law_scheme [.val .deck, .val (.int 8), .val (.int 20), .un, .un, .un, .un] st = _
  rw [hb, Lm.seq_nx (e := [.val .deck, .val (.int 8), .val (.int 20), .val (nD k), .un, .un, .un]) (Lm.asg_nx e2), Lm.seq_nx (e := [.val .deck, .val (.int 8), .val (.int 20), .val (nD k), .val K, .val (.tup (us.map unD)), .un]) (Lh.asgT2 e5)]
  refine Lm.ret_of ?_
  rw [v_tupM, Lm.cons_of (f := rd 4) (s1 := s3) rfl (Lm.cons_of (f := rd 5) (s1 := s3) rfl (Lm.cons_of (tup_lst ec) v_aNil)), Option.bind_some]
  have : smD ⟨k, rows, ends, us, cs⟩ = .tup [K, .tup (us.map unD), .tup (cs.map cuD)] := by rw [hK]; rfl
  rw [this]
  exact grd_of (show 3 ≤ 1000000 by decide)
end Lw

set_option Elab.async false
set_option linter.all false
set_option maxRecDepth 100000
set_option maxHeartbeats 1000000
namespace Lw
open PySem MD L2
structure Sh (d : D) (n b : Nat) : Prop where
  pl : d.pl = true
  sh : d.py.showable = true
  dp : d.py.depth ≤ n
  lf : d.py.leavesShort 40 = true
  bk : d.py.bulk ≤ b
structure Shs (ds : List D) (n b : Nat) : Prop where
  pl : plAll ds = true
  sh : PyData.showableAll (pyAll ds) = true
  dp : PyData.depthAll (pyAll ds) ≤ n
  lf : PyData.leavesShortAll 40 (pyAll ds) = true
  bk : PyData.bulkAll (pyAll ds) ≤ b
theorem Sh.mono {d : D} {n b n' b' : Nat} (h : Sh d n b) (hn : n ≤ n') (hb : b ≤ b') : Sh d n' b' := ⟨h.pl, h.sh, Nat.le_trans h.dp hn, h.lf, Nat.le_trans h.bk hb⟩
theorem Shs.mono {d : List D} {n b n' b' : Nat} (h : Shs d n b) (hn : n ≤ n') (hb : b ≤ b') : Shs d n' b' := ⟨h.pl, h.sh, Nat.le_trans h.dp hn, h.lf, Nat.le_trans h.bk hb⟩
theorem Sh.non : Sh .non 0 0 := ⟨rfl, by simp [D.py, PyData.showable], by simp [D.py, PyData.depth], by simp [D.py, PyData.leavesShort], by simp [D.py, PyData.bulk]⟩
theorem Sh.bl (c : Bool) : Sh (.bl c) 0 0 := ⟨rfl, by simp [D.py, PyData.showable], by simp [D.py, PyData.depth], by simp [D.py, PyData.leavesShort], by simp [D.py, PyData.bulk]⟩
theorem Sh.int {i : Int} (h : i.natAbs < 10 ^ 39) : Sh (.int i) 0 0 := by
  refine ⟨rfl, ?_, by simp [D.py, PyData.depth], ?_, by simp [D.py, PyData.bulk]⟩
  · simp only [D.py, PyData.showable, decide_eq_true_eq]
    by_cases h0 : i.natAbs = 0
    · rw [h0]; decide
    · rw [Nat.log2_lt h0]
      exact Nat.lt_of_lt_of_le h (Nat.le_trans (show 10 ^ 39 ≤ 2 ^ 130 by decide) (Nat.pow_le_pow_right (by decide) (by decide)))
  · simp only [D.py, PyData.leavesShort, decide_eq_true_eq]
    have e := int_text_length_le10 (k := 39) (by decide) h
    show (Str.ofString (toString i)).length ≤ 40
    rw [ofString_length]; exact e
theorem Sh.nat {n : Nat} (h : n ≤ 1000000) : Sh (.int ((n : Nat) : Int)) 0 0 := Sh.int (by
  rw [Int.natAbs_natCast]
  exact Nat.lt_of_le_of_lt h (by decide))
theorem Sh.str {ws : List Nat} (h : ∀ c ∈ ws, c < 128) : Sh (.str (W ws)) 0 ws.length := by
  refine ⟨rfl, by simp [D.py, PyData.showable], by simp [D.py, PyData.depth], ?_, by simp [D.py, PyData.bulk]⟩
  simp only [D.py, PyData.leavesShort, W_list, List.all_eq_true, decide_eq_true_eq]
  exact fun c hc => Nat.lt_trans (h c hc) (by decide)
theorem Shs.nil {n : Nat} : Shs [] n 0 := ⟨rfl, rfl, Nat.zero_le _, rfl, Nat.le_refl _⟩
theorem Shs.cons {d : D} {ds : List D} {n b b' : Nat} (h : Sh d n b) (hs : Shs ds n b') : Shs (d :: ds) n (b + 1 + b') := by
  refine ⟨?_, ?_, ?_, ?_, ?_⟩
  · show (d.pl && plAll ds) = true
    rw [h.pl, hs.pl]; rfl
  · show (d.py.showable && PyData.showableAll (pyAll ds)) = true
    rw [h.sh, hs.sh]; rfl
  · show max d.py.depth (PyData.depthAll (pyAll ds)) ≤ n
    exact Nat.max_le.mpr ⟨h.dp, hs.dp⟩
  · show (d.py.leavesShort 40 && PyData.leavesShortAll 40 (pyAll ds)) = true
    rw [h.lf, hs.lf]; rfl
  · show d.py.bulk + 1 + PyData.bulkAll (pyAll ds) ≤ _
    have := h.bk
    have := hs.bk
    omega
theorem Shs.all {n b : Nat} : ∀ {ds : List D}, (∀ d ∈ ds, Sh d n b) → Shs ds n (ds.length * (b + 1))
  | [], _ => Shs.nil.mono (Nat.le_refl _) (by simp)
  | d :: ds, h => (Shs.cons (h d List.mem_cons_self) (Shs.all fun x hx => h x (List.mem_cons_of_mem _ hx))).mono (Nat.le_refl _) (by
    rw [List.length_cons, Nat.succ_mul]; omega)
theorem Sh.lst {ds : List D} {n b : Nat} (h : Shs ds n b) : Sh (.lst ds) (n + 1) b := by
  refine ⟨h.pl, h.sh, ?_, h.lf, h.bk⟩
  have := h.dp
  simp only [D.py, PyData.depth]
  omega
theorem Sh.tup {ds : List D} {n b : Nat} (h : Shs ds n b) : Sh (.tup ds) (n + 1) b := by
  refine ⟨h.pl, h.sh, ?_, h.lf, h.bk⟩
  have := h.dp
  simp only [D.py, PyData.depth]
  omega
theorem repr_sh {d : D} {n b : Nat} (h : Sh d n b) (hn : n ≤ 60) (hb : b ≤ 20000) : reprM [d] = some (.str d.py.shown) := by
  have h3 : d.py.depth ≤ 60 := Nat.le_trans h.dp hn
  have h4 : d.py.shown.length ≤ sizeLine := by
    have h1 := PyData.shown_le_bulk 40 (by decide) d.py h.lf
    have h2 : (40 + 2) * d.py.bulk ≤ 42 * 20000 := Nat.mul_le_mul (by decide) (Nat.le_trans h.bk hb)
    exact Nat.le_trans h1 (Nat.le_trans (show (40 + 2) * d.py.bulk + 40 ≤ 900000 by omega) (by decide))
  show (if d.pl && d.py.showable && decide (d.py.depth ≤ 60) && decide (d.py.shown.length ≤ sizeLine) then some (D.str d.py.shown) else none) = _
  rw [h.pl, h.sh, decide_eq_true h3, decide_eq_true h4]
  rfl
end Lw

set_option Elab.async false
set_option linter.all false
set_option maxRecDepth 100000
set_option maxHeartbeats 2000000
namespace Lw
open PySem MD L2 Lc
variable {ww : WW}
/-! ### equal schemes -/
theorem eqvA {α : Type} [DecidableEq α] {F : α → D} (h : ∀ x y, PyData.eqv (F x).py (F y).py = decide (x = y)) : ∀ l m : List α, PyData.eqvAll (pyAll (l.map F)) (pyAll (m.map F)) = decide (l = m)
  | [], [] => rfl
  | [], _ :: _ => rfl
  | _ :: _, [] => rfl
  | x :: l, y :: m => by
    show (PyData.eqv (F x).py (F y).py && PyData.eqvAll (pyAll (l.map F)) (pyAll (m.map F))) = _
    rw [h, eqvA h l m]
    by_cases h1 : x = y <;> by_cases h2 : l = m <;> simp [h1, h2]
theorem eqv_nD (x y : Nat) : PyData.eqv (nD x).py (nD y).py = decide (x = y) := by
  show (((x : Nat) : Int) == ((y : Nat) : Int)) = _
  by_cases h : x = y
  · subst h; simp
  · rw [decide_eq_false h, beq_eq_false_iff_ne]; omega
theorem eqv_oD (x y : Option Nat) : PyData.eqv (oD x).py (oD y).py = decide (x = y) := by
  cases x with
  | none => cases y <;> rfl
  | some x =>
    cases y with
    | none => rfl
    | some y => rw [show PyData.eqv (oD (some x)).py (oD (some y)).py = _ from eqv_nD x y]; simp
theorem eqv_bl (x y : Bool) : PyData.eqv (D.bl x).py (D.bl y).py = decide (x = y) := by cases x <;> cases y <;> rfl
theorem eqv_rw (x y : List (Option Nat)) : PyData.eqv (rwD x).py (rwD y).py = decide (x = y) := eqvA eqv_oD x y
theorem eqv_un (x y : List Nat) : PyData.eqv (unD x).py (unD y).py = decide (x = y) := eqvA eqv_nD x y
theorem eqv_cu (x y : Nat × Nat × List Nat) : PyData.eqv (cuD x).py (cuD y).py = decide (x = y) := by
  obtain ⟨a, b, c⟩ := x
  obtain ⟨a', b', c'⟩ := y
  have e : PyData.eqv (cuD (a, b, c)).py (cuD (a', b', c')).py = (PyData.eqv (nD a).py (nD a').py && (PyData.eqv (nD b).py (nD b').py && (PyData.eqv (D.str (W c)).py (D.str (W c')).py && true))) := rfl
  have ew : PyData.eqv (D.str (W c)).py (D.str (W c')).py = decide (c = c') := by
    show (W c == W c') = _
    by_cases h : c = c'
    · subst h; simp
    · rw [decide_eq_false h, beq_eq_false_iff_ne]
      exact fun z => h (W_inj z)
  rw [e, eqv_nD, eqv_nD, ew]
  by_cases h1 : a = a' <;> by_cases h2 : b = b' <;> by_cases h3 : c = c' <;> simp [h1, h2, h3]
theorem eqv_sm {a b : Sm} : PyData.eqv (smD a).py (smD b).py = true ↔ a = b := by
  obtain ⟨k, r, e, u, c⟩ := a
  obtain ⟨k', r', e', u', c'⟩ := b
  have h : PyData.eqv (smD ⟨k, r, e, u, c⟩).py (smD ⟨k', r', e', u', c'⟩).py = ((PyData.eqv (nD k).py (nD k').py && (PyData.eqvAll (pyAll (r.map rwD)) (pyAll (r'.map rwD)) && (PyData.eqvAll (pyAll (e.map D.bl)) (pyAll (e'.map D.bl)) && true))) && (PyData.eqvAll (pyAll (u.map unD)) (pyAll (u'.map unD)) && (PyData.eqvAll (pyAll (c.map cuD)) (pyAll (c'.map cuD)) && true))) := rfl
  rw [h, eqv_nD, eqvA eqv_rw, eqvA eqv_bl, eqvA eqv_un, eqvA eqv_cu]
  simp only [Bool.and_true, Bool.and_eq_true, decide_eq_true_eq, Sm.mk.injEq]
  constructor
  · rintro ⟨⟨h1, h2, h3⟩, h4, h5⟩; exact ⟨h1, h2, h3, h4, h5⟩
  · rintro ⟨h1, h2, h3, h4, h5⟩; exact ⟨⟨h1, h2, h3⟩, h4, h5⟩
/-- texts tell schemes apart, and nothing else -/
theorem eqv_txt {a b : Sm} (oa : a.Ok) (ob : b.Ok) : PyData.eqv (smD a).py (smD b).py = decide (txt a = txt b) := by
  by_cases h : txt a = txt b
  · rw [decide_eq_true h]
    obtain ⟨s1, e1, _⟩ := parse_ok oa ⟨[], 0, []⟩
    obtain ⟨s2, e2, _⟩ := parse_ok ob ⟨[], 0, []⟩
    rw [h, e2] at e1
    have : smD b = smD a := congrArg Prod.fst (Option.some.inj e1)
    rw [← this]
    exact eqv_sm.mpr rfl
  · rw [decide_eq_false h]
    cases he : PyData.eqv (smD a).py (smD b).py with
    | false => rfl
    | true => exact absurd (congrArg txt (eqv_sm.mp he)) h
/-! ### nice, short -/
section
variable {s : Sm} (ok : s.Ok)
include ok
theorem cl128 {c : Nat × Nat × List Nat} (hc : c ∈ s.cuts) : ∀ x ∈ c.2.2, x < 128 := fun x hx => by
  have := ltr_mem ((ok.cl hc).2 x hx)
  have := ok.k4
  omega
theorem nice_sm : Nice (smD s) := by
  have n1 : ∀ o : Option Nat, Lh.Nd 0 (oD o) := fun o => by
    cases o with
    | none => exact Lh.Nd.non
    | some n => exact Lh.Nd.int _
  have n2 : Lh.Nd 2 (.tup (s.rows.map rwD)) := Lh.Nd.tup fun d hd => by
    obtain ⟨r, _, rfl⟩ := List.mem_map.mp hd
    exact Lh.Nd.tup fun d hd => by
      obtain ⟨o, _, rfl⟩ := List.mem_map.mp hd
      exact n1 o
  have n3 : Lh.Nd 1 (.tup (s.ends.map D.bl)) := Lh.Nd.tup fun d hd => by
    obtain ⟨r, _, rfl⟩ := List.mem_map.mp hd
    exact Lh.Nd.bl r
  have n4 : Lh.Nd 2 (.tup (s.units.map unD)) := Lh.Nd.tup fun d hd => by
    obtain ⟨r, _, rfl⟩ := List.mem_map.mp hd
    exact Lh.Nd.tup fun d hd => by
      obtain ⟨o, _, rfl⟩ := List.mem_map.mp hd
      exact Lh.Nd.int _
  have n5 : Lh.Nd 2 (.tup (s.cuts.map cuD)) := Lh.Nd.tup fun d hd => by
    obtain ⟨c, hc, rfl⟩ := List.mem_map.mp hd
    exact Lh.Nd.tup3 (Lh.Nd.int _) (Lh.Nd.int _) (Lh.Nd.strW (cl128 ok hc))
  have n6 : Lh.Nd 3 (kiD s) := Lh.Nd.tup3 ((Lh.Nd.int _).le (by decide)) n2 (n3.le (by decide))
  exact (Lh.Nd.tup3 n6 (n4.le (by decide)) (n5.le (by decide))).nice (by decide)
theorem sh_sm : Sh (smD s) 4 100 := by
  have hk := ok.k4
  have hr8 := ok.r8
  have hu2 := ok.u2
  have hc3 := ok.c3
  have he := ok.en
  have n1 : ∀ o : Option Nat, (∀ n, o = some n → n ≤ 20) → Sh (oD o) 0 0 := fun o h => by
    cases o with
    | none => exact Sh.non
    | some n => exact Sh.nat (by have := h n rfl; omega)
  have n2 : Sh (.tup (s.rows.map rwD)) 2 40 := Sh.tup ((Shs.all (n := 1) (b := 4) fun d hd => by
    obtain ⟨r, hr, rfl⟩ := List.mem_map.mp hd
    have hl := (ok.row r hr).1
    exact Sh.tup ((Shs.all (n := 0) (b := 0) fun d hd => by
      obtain ⟨o, ho, rfl⟩ := List.mem_map.mp hd
      exact n1 o (ok.item hr ho)).mono (Nat.le_refl _) (by rw [List.length_map]; omega))).mono (Nat.le_refl _) (by rw [List.length_map]; omega))
  have n3 : Sh (.tup (s.ends.map D.bl)) 1 8 := Sh.tup ((Shs.all (n := 0) (b := 0) fun d hd => by
    obtain ⟨r, _, rfl⟩ := List.mem_map.mp hd
    exact Sh.bl r).mono (Nat.le_refl _) (by rw [List.length_map]; omega))
  have n4 : Sh (.tup (s.units.map unD)) 2 10 := Sh.tup ((Shs.all (n := 1) (b := 4) fun d hd => by
    obtain ⟨r, hr, rfl⟩ := List.mem_map.mp hd
    have hl := (ok.un r hr)
    exact Sh.tup ((Shs.all (n := 0) (b := 0) fun d hd => by
      obtain ⟨o, ho, rfl⟩ := List.mem_map.mp hd
      exact Sh.nat (by have := hl.2 o ho; omega)).mono (Nat.le_refl _) (by rw [List.length_map]; omega))).mono (Nat.le_refl _) (by rw [List.length_map]; omega))
  have n5 : Sh (.tup (s.cuts.map cuD)) 2 24 := Sh.tup ((Shs.all (n := 1) (b := 7) fun d hd => by
    obtain ⟨c, hc, rfl⟩ := List.mem_map.mp hd
    have h1 := ok.cu c hc
    have h2 := (ok.cl hc).1
    exact Sh.tup ((Shs.cons (Sh.nat (by omega)) (Shs.cons (Sh.nat (by omega)) (Shs.cons (Sh.str (cl128 ok hc)) Shs.nil))).mono (Nat.le_refl _) (by omega))).mono (Nat.le_refl _) (by rw [List.length_map]; omega))
  have n6 : Sh (kiD s) 3 51 := Sh.tup ((Shs.cons ((Sh.nat (n := s.k) (by omega)).mono (show 0 ≤ 2 by decide) (Nat.le_refl _)) (Shs.cons n2 (Shs.cons (n3.mono (by decide) (Nat.le_refl _)) Shs.nil))).mono (Nat.le_refl _) (by omega))
  exact Sh.tup ((Shs.cons n6 (Shs.cons (n4.mono (by decide) (Nat.le_refl _)) (Shs.cons (n5.mono (by decide) (Nat.le_refl _)) Shs.nil))).mono (Nat.le_refl _) (by omega))
theorem join_mem {c : Nat} {t : List Nat} : ∀ {ps : List (List Nat)}, c ∈ TL.joinL t ps → c ∈ t ∨ ∃ p ∈ ps, c ∈ p
  | [], h => nomatch h
  | [p], h => Or.inr ⟨p, List.mem_cons_self, h⟩
  | p :: q :: r, h => by
    have h : c ∈ p ++ (t ++ TL.joinL t (q :: r)) := h
    rcases List.mem_append.mp h with h | h
    · exact Or.inr ⟨p, List.mem_cons_self, h⟩
    · rcases List.mem_append.mp h with h | h
      · exact Or.inl h
      · rcases join_mem h with h | ⟨p', h1, h2⟩
        · exact Or.inl h
        · exact Or.inr ⟨p', List.mem_cons_of_mem _ h1, h2⟩
theorem txt_short : (txt s).length ≤ 700 ∧ ∀ c ∈ txt s, c < 128 := by
  obtain ⟨l1, l2⟩ := lines_ok ok
  constructor
  · have h1 := join_len [10] ((wls s).map ln)
    have h2 := sum_le ((wls s).map ln) 48 fun p hp => (l2 p hp).1
    have h3 : ((wls s).map ln).length * 48 ≤ 14 * 48 := Nat.mul_le_mul_right _ l1
    have h4 : ((wls s).map ln).length * [10].length = ((wls s).map ln).length := by simp
    show (TL.joinL [10] ((wls s).map ln)).length ≤ 700
    omega
  · intro c hc
    rcases join_mem ok hc with h | ⟨p, h1, h2⟩
    · have : c = 10 := by simpa using h
      omega
    · obtain ⟨ws, hw, rfl⟩ := List.mem_map.mp h1
      obtain ⟨_, h3, h4⟩ := (wls_wd ok).2 ws hw
      have := (ln_ok h3 h4).2 c h2
      omega
theorem sh_txt : Sh (.str (W (txt s))) 0 700 := (Sh.str (txt_short ok).2).mono (Nat.le_refl _) (txt_short ok).1
end
/-! ### the schemes that are like another -/
theorem ok_drop {s : Sm} (ok : s.Ok) : Sm.Ok { s with cuts := s.cuts.drop 1 } := ⟨ok.k0, ok.k4, ok.r0, ok.r8, ok.row, ok.en, ok.u1, ok.u2, ok.un, by show (s.cuts.drop 1).length ≤ 3; rw [List.length_drop]; have := ok.c3; omega, fun c hc => ok.cu c (List.mem_of_mem_drop hc)⟩
theorem ok_ends {s : Sm} (ok : s.Ok) : Sm.Ok { s with ends := s.ends.reverse } := ⟨ok.k0, ok.k4, ok.r0, ok.r8, ok.row, by show s.ends.reverse.length = _; rw [List.length_reverse]; exact ok.en, ok.u1, ok.u2, ok.un, ok.c3, ok.cu⟩
theorem ok_units {s : Sm} (ok : s.Ok) : Sm.Ok { s with units := s.units.reverse, cuts := s.cuts.reverse } := ⟨ok.k0, ok.k4, ok.r0, ok.r8, ok.row, ok.en, by show 1 ≤ s.units.reverse.length; rw [List.length_reverse]; exact ok.u1, by show s.units.reverse.length ≤ 2; rw [List.length_reverse]; exact ok.u2, fun u hu => ok.un u (List.mem_reverse.mp hu), by show s.cuts.reverse.length ≤ 3; rw [List.length_reverse]; exact ok.c3, fun c hc => by
  have h := ok.cu c (List.mem_reverse.mp hc)
  refine ⟨?_, h.2⟩
  show c.1 < s.units.reverse.length
  rw [List.length_reverse]; exact h.1⟩
end Lw

set_option Elab.async false
set_option linter.all false
set_option maxRecDepth 100000
set_option maxHeartbeats 2000000
namespace Lw
open PySem MD L2 Lc
variable {ww : WW}
/-! ### the checks on one scheme -/
noncomputable def c1T : MT := (orM (tstM (opM isNotM (callM m_scheme_error (aCons (rd 9) aNil)) (cst .non))) (tstM (opM neM (cbM reprM (aCons (frz (opF lstMul (frz (lstM (aCons (callM m_scheme_text (aCons (rd 9) aNil)) aNil))) (cst (.int 2)))) aNil)) (cbM reprM (aCons (frz (lstM (aCons (rd 10) (aCons (callM m_scheme_text (aCons (rd 9) aNil)) aNil)))) aNil)))))
noncomputable def c2T : MT := (tstM (opM neM (cbM reprM (aCons (frz (lstM (aCons (callM m_parse_scheme (aCons (rd 10) aNil)) (aCons (callM m_parse_scheme (aCons (rd 10) aNil)) aNil)))) aNil)) (cbM reprM (aCons (frz (lstM (aCons (rd 9) (aCons (rd 9) aNil)))) aNil))))
noncomputable def ckB : MS := (seqM (asgM (nameT 10) (callM m__law_text (aCons (rd 9) aNil)))
 (seqM (ifS c1T
 (retM (cst (.bl false)))
 nxM)
 (ifS c2T
 (retM (cst (.bl false)))
 nxM)))
theorem repr_of {f : ME} {env : Sg} {st s1 : S} {ds : List D} {b : Nat} (h : f env st = some (.lst ds, s1)) (hs : Shs ds 4 b) (hb : b ≤ 20000) : cbM reprM (aCons f aNil) env st = some (.str (D.lst ds).py.shown, s1) := by
  rw [v_cbM, Lm.cons_of h v_aNil, Option.bind_some]
  show ((reprM [dr s1 (.lst ds)]).map _ : Option (D × S)) = _
  rw [dr_lst, repr_sh (Sh.lst hs) (by decide) hb]; rfl
theorem ne_same {f h : ME} {env : Sg} {st s1 s2 : S} {x : Str} (h1 : f env st = some (.str x, s1)) (h2 : h env s1 = some (.str x, s2)) : tstM (opM neM f h) env st = some (false, s2) := by
  rw [v_tstM, v_opM, h1, Option.bind_some, h2, Option.bind_some]
  show (((neM (.str x) (.str x)).map _ : Option (D × S)).bind _) = _
  rw [MD.ne_str]
  simp
abbrev envC (a b c d e f g h : Sl) (s : Sm) (x10 : Sl) : Sg := [a, b, c, d, e, f, g, h, .un, .val (smD s), x10]
section
variable {s : Sm} (ok : s.Ok) (env : Sg) (h9 : ∀ st : S, rd 9 env st = some (smD s, st)) (h10 : ∀ st : S, rd 10 env st = some (.str (W (txt s)), st))
include ok h9 h10
theorem c1_ok (st : S) : c1T env st = some (false, st) := by
  have a1 : callM m_scheme_error (aCons (rd 9) aNil) env st = some (.non, st) := Lm.call_of (Lm.cons_of (h9 st) v_aNil) (scheme_none ok st)
  have a2 : ∀ s : S, callM m_scheme_text (aCons (rd 9) aNil) env s = some (.str (W (txt _)), s) := fun s => Lm.call_of (Lm.cons_of (h9 s) v_aNil) (txt_ok ok s)
  have sh := sh_txt ok
  have shs : Shs [.str (W (txt s)), .str (W (txt s))] 4 2000 := (Shs.cons (sh.mono (show 0 ≤ 4 by decide) (Nat.le_refl _)) (Shs.cons (sh.mono (show 0 ≤ 4 by decide) (Nat.le_refl _)) Shs.nil)).mono (Nat.le_refl _) (by decide)
  have b1 : frz (opF lstMul (frz (lstM (aCons (callM m_scheme_text (aCons (rd 9) aNil)) aNil))) (cst (.int 2))) env st = some (.lst [.str (W (txt s)), .str (W (txt s))], st) :=
    mul_of (s1 := st) (Lm.lst_of (Lm.cons_of (a2 st) v_aNil) (by simp)) rfl rfl
  have b2 : frz (lstM (aCons (rd 10) (aCons (callM m_scheme_text (aCons (rd 9) aNil)) aNil))) env st = some (.lst [.str (W (txt s)), .str (W (txt s))], st) :=
    Lm.lst_of (Lm.cons_of (h10 st) (Lm.cons_of (a2 st) v_aNil)) (by simp)
  have t1 := isnot_of a1 rfl
  exact Lh.or_f t1 (ne_same (repr_of b1 shs (by decide)) (repr_of b2 shs (by decide)))
theorem c2_ok (st : S) : ∃ st', c2T env st = some (false, st') ∧ st'.n = st.n := by
  obtain ⟨s1, e1, n1⟩ := parse_ok ok st
  obtain ⟨s2, e2, n2⟩ := parse_ok ok s1
  have sh := sh_sm ok
  have shs : Shs [smD s, smD s] 4 2000 := (Shs.cons sh (Shs.cons sh Shs.nil)).mono (Nat.le_refl _) (by decide)
  have b1 : frz (lstM (aCons (callM m_parse_scheme (aCons (rd 10) aNil)) (aCons (callM m_parse_scheme (aCons (rd 10) aNil)) aNil))) env st = some (.lst [smD s, smD s], s2) :=
    Lm.lst_of (Lm.cons_of (Lm.call_of (Lm.cons_of (h10 st) v_aNil) e1) (Lm.cons_of (Lm.call_of (Lm.cons_of (h10 s1) v_aNil) e2) v_aNil)) (by simp)
  have b2 : frz (lstM (aCons (rd 9) (aCons (rd 9) aNil))) env s2 = some (.lst [smD s, smD s], s2) :=
    Lm.lst_of (Lm.cons_of (h9 s2) (Lm.cons_of (h9 s2) v_aNil)) (by simp)
  exact ⟨s2, ne_same (repr_of b1 shs (by decide)) (repr_of b2 shs (by decide)), n2.trans n1⟩
end
theorem ck_ok {s : Sm} (ok : s.Ok) (a b c d e f g h i x10 : Sl) (st : S) : ∃ st', ckB [a, b, c, d, e, f, g, h, i, .val (smD s), x10] st = some (.nx [a, b, c, d, e, f, g, h, i, .val (smD s), .val (.str (W (txt s)))], st') ∧ st'.n = st.n := by
  have a1 : callM m__law_text (aCons (rd 9) aNil) [a, b, c, d, e, f, g, h, i, .val (smD s), x10] st = some (.str (W (txt s)), st) := Lm.call_of (Lm.cons_of (s1 := st) rfl v_aNil) (ltxt_ok ok st)
  obtain ⟨s1, e1, n1⟩ := c2_ok ok [a, b, c, d, e, f, g, h, i, .val (smD s), .val (.str (W (txt s)))] (fun s => rfl) (fun s => rfl) st
  refine ⟨s1, ?_, n1⟩
  unfold ckB
  rw [Lm.seq_nx (e := [a, b, c, d, e, f, g, h, i, .val (smD s), .val (.str (W (txt s)))]) (Lm.asg_nx a1), Lm.seq_nx (Lm.ifs_f (c1_ok ok _ (fun s => rfl) (fun s => rfl) st) v_nxM)]
  exact Lm.ifs_f e1 v_nxM
/-! ### one turn -/
noncomputable def shE : ME := (callM m__law_scheme (aCons (rd 1) (aCons (cst (.int 8)) (aCons (cst (.int 20)) aNil))))
noncomputable def o8E : ME := (tupM (aCons (opM subD (rd 5) (cst (.int 0))) (aCons (opM subD (rd 5) (cst (.int 1))) (aCons (revT (opM subD (rd 5) (cst (.int 2)))) aNil))))
noncomputable def o4E : ME := (callM m__law_one (aCons (rd 1) (aCons (frz (lstM (aCons (tupM (aCons (rd 5) (aCons (rd 6) (aCons (slM slAny (rd 7) (prt (cst (.int 1))) noP) aNil)))) (aCons (tupM (aCons (rd 8) (aCons (rd 6) (aCons (rd 7) aNil)))) (aCons (tupM (aCons (rd 5) (aCons (revT (rd 6)) (aCons (revT (rd 7)) aNil)))) aNil))))) aNil)))
noncomputable def likB : MS := (seqM (asgM (tupT 3 (consT (nameT 5) (consT (nameT 6) (consT (nameT 7) nilT)))) (rd 3))
 (seqM (asgM (nameT 8) o8E)
 (asgM (nameT 4) o4E)))
noncomputable def dr2 : MT := (tstM (opM eqM (callM m__law_draw (aCons (rd 1) (aCons (cst (.int 2)) aNil))) (cst (.int 0))))
noncomputable def ltT : MT := (tstM (opM neM (opM eqM (callM m_scheme_text (aCons (rd 3) aNil)) (callM m_scheme_text (aCons (rd 4) aNil))) (opM eqM (rd 3) (rd 4))))
noncomputable def twB : MS := (seqM (parM 3 4 (aCons shE (aCons shE aNil)))
 (seqM (ifS dr2
 likB
 nxM)
 (seqM (forM (seqI (frz (lstM (aCons (rd 3) (aCons (rd 4) aNil))))) (nameT 9)
 ckB)
 (ifS ltT
 (retM (cst (.bl false)))
 nxM))))
theorem b_law_eq : b_law = seqM (forM (r1M (aCons (cst (.int 8)) aNil)) (nameT 2) twB) (retM (cst (.bl true))) := rfl
theorem sh_of {env : Sg} (hd : ∀ s : S, rd 1 env s = some (.deck, s)) : Yes 120 (shE env) fun d => ∃ s : Sm, d = smD s ∧ s.Ok := fun st h hn => by
  obtain ⟨d, s1, e, r⟩ := scheme_yes st h hn
  exact ⟨d, s1, Lm.call_of (Lm.cons_of (hd st) (Lm.cons_of (s1 := st) rfl (Lm.cons_of (s1 := st) rfl v_aNil))) e, r⟩
theorem revT_of {f : ME} {env : Sg} {st s1 : S} {ds : List D} (h : f env st = some (.tup ds, s1)) : revT f env st = some (.tup ds.reverse, s1) := by
  unfold revT
  rw [h]; rfl
theorem tup3_of {f h k : ME} {env : Sg} {st s1 s2 s3 : S} {x y z : D} (h1 : f env st = some (x, s1)) (h2 : h env s1 = some (y, s2)) (h3 : k env s2 = some (z, s3)) : tupM (aCons f (aCons h (aCons k aNil))) env st = some (.tup [x, y, z], s3) := by
  rw [v_tupM, Lm.cons_of h1 (Lm.cons_of h2 (Lm.cons_of h3 v_aNil)), Option.bind_some]
  exact grd_of (show 3 ≤ 1000000 by decide)
theorem drop1_of {f : ME} {env : Sg} {st : S} {ds : List D} (h : f env st = some (.tup ds, st)) : slM slAny f (prt (cst (.int 1))) noP env st = some (.tup (ds.drop 1), st) := by
  have e : cutD ds (some 1) none = ds.drop 1 := by
    cases ds with
    | nil => rfl
    | cons d ds => exact cut_tl
  have e2 : slM slAny f (prt (cst (.int 1))) noP env st = some (.tup (cutD ds (some 1) none), st) := by
    rw [v_slM, h]; rfl
  rw [e2, e]
theorem lik_ok {s : Sm} (ok : s.Ok) (x2 x4 x5 x6 x7 x8 x9 x10 : Sl) (st : S) (h0 : 0 ≤ st.n) (hn : st.n + 1 ≤ nMax) :
    ∃ (t : Sm) (y5 y6 y7 y8 : Sl) (st' : S), likB [.un, .val .deck, x2, .val (smD s), x4, x5, x6, x7, x8, x9, x10] st = some (.nx [.un, .val .deck, x2, .val (smD s), .val (smD t), y5, y6, y7, y8, x9, x10], st') ∧ t.Ok ∧ st.n ≤ st'.n ∧ st'.n ≤ st.n + 1 := by
  obtain ⟨R, hR⟩ : ∃ R : D, R = .tup (s.rows.map rwD) := ⟨_, rfl⟩
  obtain ⟨kd, hkd⟩ : ∃ kd : D, kd = kiD s := ⟨_, rfl⟩
  have hkd2 : kd = .tup [nD s.k, R, .tup (s.ends.map D.bl)] := by rw [hkd, hR]; rfl
  obtain ⟨U, hU⟩ : ∃ U, U = s.units.map unD := ⟨_, rfl⟩
  obtain ⟨C, hC⟩ : ∃ C, C = s.cuts.map cuD := ⟨_, rfl⟩
  have hs : smD s = .tup [kd, .tup U, .tup C] := by rw [hkd, hU, hC]; rfl
  obtain ⟨V, hV⟩ : ∃ V : Sl, V = .val (smD s) := ⟨_, rfl⟩
  have a1 : asgM (tupT 3 (consT (nameT 5) (consT (nameT 6) (consT (nameT 7) nilT)))) (rd 3) [.un, .val .deck, x2, V, x4, x5, x6, x7, x8, x9, x10] st = some (.nx [.un, .val .deck, x2, V, x4, .val kd, .val (.tup U), .val (.tup C), x8, x9, x10], st) := by
    have er : rd 3 [.un, .val .deck, x2, V, x4, x5, x6, x7, x8, x9, x10] st = some (.tup [kd, .tup U, .tup C], st) := by rw [← hs, hV]; rfl
    rw [v_asgM, er]; rfl
  have ek : rd 5 [.un, .val .deck, x2, V, x4, .val kd, .val (.tup U), .val (.tup C), x8, x9, x10] st = some (.tup [nD s.k, R, .tup (s.ends.map D.bl)], st) := by rw [← hkd2]; rfl
  obtain ⟨k0, k1, k2⟩ := at3 ek
  obtain ⟨T, hT⟩ : ∃ T : D, T = .tup [nD s.k, R, .tup (s.ends.map D.bl).reverse] := ⟨_, rfl⟩
  have a2 : o8E [.un, .val .deck, x2, V, x4, .val kd, .val (.tup U), .val (.tup C), x8, x9, x10] st = some (T, st) := by
    rw [hT]
    exact tup3_of k0 k1 (revT_of k2)
  have hL : frz (lstM (aCons (tupM (aCons (rd 5) (aCons (rd 6) (aCons (slM slAny (rd 7) (prt (cst (.int 1))) noP) aNil)))) (aCons (tupM (aCons (rd 8) (aCons (rd 6) (aCons (rd 7) aNil)))) (aCons (tupM (aCons (rd 5) (aCons (revT (rd 6)) (aCons (revT (rd 7)) aNil)))) aNil)))) [.un, .val .deck, x2, V, x4, .val kd, .val (.tup U), .val (.tup C), .val T, x9, x10] st = some (.lst [.tup [kd, .tup U, .tup (C.drop 1)], .tup [T, .tup U, .tup C], .tup [kd, .tup U.reverse, .tup C.reverse]], st) :=
    Lm.lst_of (Lm.cons_of (tup3_of (s1 := st) (s2 := st) rfl rfl (drop1_of (f := rd 7) rfl)) (Lm.cons_of (tup3_of (s1 := st) (s2 := st) rfl rfl (show rd 7 _ st = some (.tup C, st) from rfl)) (Lm.cons_of (tup3_of (s1 := st) (s2 := st) rfl (revT_of (f := rd 6) (s1 := st) rfl) (revT_of (f := rd 7) (s1 := st) rfl)) v_aNil))) (by simp)
  obtain ⟨d, s1, e1, hm, _, l1, l2⟩ := one_lst (ds := [.tup [kd, .tup U, .tup (C.drop 1)], .tup [T, .tup U, .tup C], .tup [kd, .tup U.reverse, .tup C.reverse]]) (st := st) (by simp) (by simp) h0 hn
  have a3 : o4E [.un, .val .deck, x2, V, x4, .val kd, .val (.tup U), .val (.tup C), .val T, x9, x10] st = some (d, s1) := Lm.call_of (Lm.cons_of (f := rd 1) (s1 := st) rfl (Lm.cons_of hL v_aNil)) e1
  have hd : ∃ t : Sm, d = smD t ∧ t.Ok := by
    simp only [List.mem_cons, List.mem_nil_iff, or_false] at hm
    rcases hm with h | h | h
    · refine ⟨_, ?_, ok_drop ok⟩
      rw [h, hkd, hU, hC, ← List.map_drop]; rfl
    · refine ⟨_, ?_, ok_ends ok⟩
      rw [h, hT, hR, hU, hC, ← List.map_reverse]; rfl
    · refine ⟨_, ?_, ok_units ok⟩
      rw [h, hkd, hU, hC, ← List.map_reverse, ← List.map_reverse]; rfl
  obtain ⟨t, rfl, okt⟩ := hd
  refine ⟨t, .val kd, .val (.tup U), .val (.tup C), .val T, s1, ?_, okt, l1, l2⟩
  rw [← hV]
  unfold likB
  rw [Lm.seq_nx a1, Lm.seq_nx (e := [.un, .val .deck, x2, V, x4, .val kd, .val (.tup U), .val (.tup C), .val T, x9, x10]) (Lm.asg_nx a2)]
  exact Lm.asg_nx a3
theorem lt_ok {a b : Sm} (oa : a.Ok) (ob : b.Ok) (x2 x5 x6 x7 x8 x9 x10 : Sl) (st : S) : ltT [.un, .val .deck, x2, .val (smD a), .val (smD b), x5, x6, x7, x8, x9, x10] st = some (false, st) := by
  have e1 : callM m_scheme_text (aCons (rd 3) aNil) [.un, .val .deck, x2, .val (smD a), .val (smD b), x5, x6, x7, x8, x9, x10] st = some (.str (W (txt a)), st) := Lm.call_of (Lm.cons_of (s1 := st) rfl v_aNil) (txt_ok oa st)
  have e2 : callM m_scheme_text (aCons (rd 4) aNil) [.un, .val .deck, x2, .val (smD a), .val (smD b), x5, x6, x7, x8, x9, x10] st = some (.str (W (txt b)), st) := Lm.call_of (Lm.cons_of (s1 := st) rfl v_aNil) (txt_ok ob st)
  have e3 := eq_W e1 e2
  have e4 : opM eqM (rd 3) (rd 4) [.un, .val .deck, x2, .val (smD a), .val (smD b), x5, x6, x7, x8, x9, x10] st = some (.bl (decide (txt a = txt b)), st) := by
    have h := Lh.eqN_of (nice_sm oa) (nice_sm ob) rfl
    rw [eqv_txt oa ob] at h
    rw [v_opM]
    show ((eqM (smD a) (smD b)).map _ : Option (D × S)) = _
    rw [h]; rfl
  have hne : ∀ c : Bool, neM (.bl c) (.bl c) = some (.bl false) := fun c => by cases c <;> rfl
  unfold ltT
  rw [v_tstM, v_opM, e3, Option.bind_some, e4, Option.bind_some]
  show (((neM (.bl _) (.bl _)).map _ : Option (D × S)).bind _) = _
  rw [hne]; rfl
structure TwI (env : Sg) : Prop where
  ex : ∃ x2 x3 x4 x5 x6 x7 x8 x9 x10 : Sl, env = [.un, .val .deck, x2, x3, x4, x5, x6, x7, x8, x9, x10]
theorem tw_yes (e : Sg) (hI : TwI e) (d : D) : ∃ e', nameT 2 d e = some e' ∧ Yes 250 (twB e') fun fl => ∃ e2, fl = .nx e2 ∧ TwI e2 := by
  obtain ⟨x2, x3, x4, x5, x6, x7, x8, x9, x10, rfl⟩ := hI.ex
  refine ⟨[.un, .val .deck, .val d, x3, x4, x5, x6, x7, x8, x9, x10], rfl, fun st h0 hn => ?_⟩
  obtain ⟨_, s1, e1, ⟨a, rfl, oa⟩, l1, l2⟩ := sh_of (env := [.un, .val .deck, .val d, x3, x4, x5, x6, x7, x8, x9, x10]) (fun s => rfl) st h0 (by omega)
  obtain ⟨_, s2, e2, ⟨b, rfl, ob⟩, l3, l4⟩ := sh_of (env := [.un, .val .deck, .val d, x3, x4, x5, x6, x7, x8, x9, x10]) (fun s => rfl) s1 (by omega) (by omega)
  have c1 : parM 3 4 (aCons shE (aCons shE aNil)) [.un, .val .deck, .val d, x3, x4, x5, x6, x7, x8, x9, x10] st = some (.nx [.un, .val .deck, .val d, .val (smD a), .val (smD b), x5, x6, x7, x8, x9, x10], s2) := Lm.par_nx (Lm.cons_of e1 (Lm.cons_of e2 v_aNil))
  obtain ⟨_, s3, e3, ⟨r, rfl, hr⟩, o3, l5, l6⟩ := drawO (m := 2) (by decide) (by decide) s2 (by omega) (by omega)
  have e3' : callM m__law_draw (aCons (rd 1) (aCons (cst (.int 2)) aNil)) [.un, .val .deck, .val d, .val (smD a), .val (smD b), x5, x6, x7, x8, x9, x10] s2 = some (nD r, s3) := Lm.call_of (Lm.cons_of (s1 := s2) rfl (Lm.cons_of (s1 := s2) rfl v_aNil)) e3
  have t1 := Lh.eq_int (h := cst (.int 0)) (j := 0) (s2 := s3) e3' rfl
  obtain ⟨b', y5, y6, y7, y8, s4, c2, ob', l7, l8⟩ : ∃ (b' : Sm) (y5 y6 y7 y8 : Sl) (s4 : S), ifS dr2 likB nxM [.un, .val .deck, .val d, .val (smD a), .val (smD b), x5, x6, x7, x8, x9, x10] s2 = some (.nx [.un, .val .deck, .val d, .val (smD a), .val (smD b'), y5, y6, y7, y8, x9, x10], s4) ∧ b'.Ok ∧ s3.n ≤ s4.n ∧ s4.n ≤ s3.n + 1 := by
    by_cases hz : ((r : Nat) : Int) = 0
    · rw [decide_eq_true hz] at t1
      obtain ⟨t, y5, y6, y7, y8, s4, e4, ot, l7, l8⟩ := lik_ok oa (.val d) (.val (smD b)) x5 x6 x7 x8 x9 x10 s3 (by omega) (by omega)
      exact ⟨t, y5, y6, y7, y8, s4, Lm.ifs_t t1 e4, ot, l7, l8⟩
    · rw [decide_eq_false hz] at t1
      exact ⟨b, x5, x6, x7, x8, s3, Lm.ifs_f t1 v_nxM, ob, Int.le_refl _, by omega⟩
  obtain ⟨s5, f1, n5⟩ := ck_ok oa .un (.val .deck) (.val d) (.val (smD a)) (.val (smD b')) y5 y6 y7 y8 x10 s4
  obtain ⟨s6, f2, n6⟩ := ck_ok ob' .un (.val .deck) (.val d) (.val (smD a)) (.val (smD b')) y5 y6 y7 y8 (.val (.str (W (txt a)))) s5
  have hfl : forL (nameT 9) ckB [smD a, smD b'] [.un, .val .deck, .val d, .val (smD a), .val (smD b'), y5, y6, y7, y8, x9, x10] s4 = some (.nx [.un, .val .deck, .val d, .val (smD a), .val (smD b'), y5, y6, y7, y8, .val (smD b'), .val (.str (W (txt b')))], s6) := by
    have t1 : nameT 9 (smD a) [.un, .val .deck, .val d, .val (smD a), .val (smD b'), y5, y6, y7, y8, x9, x10] = some [.un, .val .deck, .val d, .val (smD a), .val (smD b'), y5, y6, y7, y8, .val (smD a), x10] := rfl
    have t2 : nameT 9 (smD b') [.un, .val .deck, .val d, .val (smD a), .val (smD b'), y5, y6, y7, y8, .val (smD a), .val (.str (W (txt a)))] = some [.un, .val .deck, .val d, .val (smD a), .val (smD b'), y5, y6, y7, y8, .val (smD b'), .val (.str (W (txt a)))] := rfl
    rw [v_forL, t1, Option.bind_some, f1, Option.bind_some]
    show forL (nameT 9) ckB [smD b'] _ s5 = _
    rw [v_forL, t2, Option.bind_some, f2]
    rfl
  have hl : frz (lstM (aCons (rd 3) (aCons (rd 4) aNil))) [.un, .val .deck, .val d, .val (smD a), .val (smD b'), y5, y6, y7, y8, x9, x10] s4 = some (.lst [smD a, smD b'], s4) := Lm.lst_of (Lm.cons_of (s1 := s4) rfl (Lm.cons_of (s1 := s4) rfl v_aNil)) (by simp)
  have c3 := Lm.for_of hl hfl
  have c4 := lt_ok oa ob' (.val d) y5 y6 y7 y8 (.val (smD b')) (.val (.str (W (txt b')))) s6
  refine ⟨.nx [.un, .val .deck, .val d, .val (smD a), .val (smD b'), y5, y6, y7, y8, .val (smD b'), .val (.str (W (txt b')))], s6, ?_, ⟨_, rfl, ⟨_, _, _, _, _, _, _, _, _, rfl⟩⟩, by omega, by omega⟩
  unfold twB
  rw [Lm.seq_nx c1, Lm.seq_nx c2, Lm.seq_nx c3]
  exact Lm.ifs_f c4 v_nxM
theorem law_holds : ∀ ns : List Int, ns.length ≤ 63 → ∃ s1, b_law (env0 11) ⟨ns.map absI, 0, []⟩ = some (.rt (.bl true), s1) := by
  intro ns _
  have hF := forL_yes (t := nameT 2) (b := twB) (k := 250) (I := TwI) (rngD 0 8) (env0 11) ⟨.un, .un, .un, .un, .un, .un, .un, .un, .un, rfl⟩ fun d _ e hI => tw_yes e hI d
  obtain ⟨fl, s1, e1, ⟨ee, rfl, _⟩, _, _⟩ := hF ⟨ns.map absI, 0, []⟩ (Int.le_refl _) (by rw [rngD_len]; show (0 : Int) + _ ≤ nMax; unfold nMax; omega)
  refine ⟨s1, ?_⟩
  have hr : rng1 [.int 8] = some (rngD 0 8) := rng1_of (by decide) (by decide)
  rw [b_law_eq]
  generalize twB = B at e1
  rw [v_seqM, v_forM, v_r1M, v_aCons]
  simp only [v_cst, v_aNil, Option.bind_some, Option.map_some, hr]
  rw [e1]
  rfl
end Lw

open PySem PySem.W PyProof.Rows
set_option maxHeartbeats 0 in
theorem PySem.Challenge.cw_unitlimits_k01_texts_there_and_back_holds : PySem.Challenge.rw_unitlimits_k01_texts_there_and_back.Holds := by
  w_on; o_law; k_head; (case hw => w_witness2)
  k_fill
  refine MD.walkG (l := PySem.Challenge.rw_unitlimits_k01_texts_there_and_back) (n := 63) (k := 7) (x := "_law_script") rfl (by decide) rfl ⟨rfl, by decide, by decide⟩ (fun w h Y => PySem.W.kIn_of Y) ?F
  case F =>
    intro w mg fa h KX G hmg
    refine' Lw.all_mk ⟨w⟩ Lw.law_holds KX G hmg ?ax0 ?lx0 ?ccx0 ?kx0 ?ax1 ?lx1 ?ccx1 ?kx1 ?ax2 ?lx2 ?ccx2 ?kx2 ?ax3 ?lx3 ?ccx3 ?kx3 ?ax4 ?lx4 ?ccx4 ?kx4 ?ax5 ?lx5 ?ccx5 ?kx5 ?ax6 ?lx6 ?ccx6 ?kx6 ?ax7 ?lx7 ?ccx7 ?kx7 ?ax8 ?lx8 ?ccx8 ?kx8 ?ax9 ?lx9 ?ccx9 ?kx9 ?ax10 ?lx10 ?ccx10 ?kx10 ?ax11 ?lx11 ?ccx11 ?kx11 ?ax12 ?lx12 ?ccx12 ?kx12 ?ax13 ?lx13 ?ccx13 ?kx13 ?ax14 ?lx14 ?ccx14 ?kx14 ?ax15 ?lx15 ?ccx15 ?kx15 ?ax16 ?lx16 ?ccx16 ?kx16 ?ax17 ?lx17 ?ccx17 ?kx17 ?ax18 ?lx18 ?ccx18 ?kx18 ?ax19 ?lx19 ?ccx19 ?kx19 ?ax20 ?lx20 ?ccx20 ?kx20 ?ax21 ?lx21 ?ccx21 ?kx21 ?ax22 ?lx22 ?ccx22 ?kx22 ?ax23 ?lx23 ?ccx23 ?kx23 ?aC_SchemeReader ?pg_SchemeReader ?hd_SchemeReader ?po_SchemeReader ?sa_SchemeReader ?mk_SchemeReader ?kc_SchemeReader ?nf0_SchemeReader ?nf1_SchemeReader ?nf2_SchemeReader ?nf3_SchemeReader ?nf4_SchemeReader ?ax24 ?ix24 ?lx24 ?ccx24 ?kx24 ?ax25 ?ix25 ?lx25 ?ccx25 ?kx25 ?ax26 ?ix26 ?lx26 ?ccx26 ?kx26 ?ax27 ?lx27 ?ccx27 ?kx27 ?ax28 ?lx28 ?ccx28 ?kx28 ?ax29 ?lx29 ?ccx29 ?kx29 ?ax30 ?ix30 ?lx30 ?ccx30 ?kx30 ?ax31 ?ix31 ?lx31 ?ccx31 ?kx31 ?ax32 ?lx32 ?ccx32 ?kx32 ?ax33 ?lx33 ?ccx33 ?kx33 ?ax34 ?ix34 ?lx34 ?ccx34 ?kx34 ?ax35 ?ix35 ?lx35 ?ccx35 ?kx35 ?ax36 ?lx36 ?ccx36 ?kx36 ?ax37 ?lx37 ?ccx37 ?kx37 ?z_n_range ?z_n_tuple ?z_n_len ?z_n_zip ?z_n_str ?z_c_NOTHING ?z_c_END ?z_n_int ?z_c_NO_LETTERS ?z_c_LETTERS_texts ?z_n_isinstance ?z_n_bool ?z_c_MAX_STATES ?z_c_MAX_LETTERS ?z_c_MAX_CUT ?z_c_LETTERS_limits ?z_n_enumerate ?z_c_MAX_CUTS ?z_c_MAX_COUNT ?z_c_FIGURES ?z_c_MOST_FIGURES ?z_c_MOST_LETTERS ?z_n_repr ?z_n_abs
    (case ax0 => k_is); (case lx0 => k_is); (case ccx0 => k_is); (case kx0 => k_is); (case ax1 => k_is); (case lx1 => k_is); (case ccx1 => k_is); (case kx1 => k_is); (case ax2 => k_is); (case lx2 => k_is); (case ccx2 => k_is); (case kx2 => k_is); (case ax3 => k_is); (case lx3 => k_is); (case ccx3 => k_is); (case kx3 => k_is); (case ax4 => k_is); (case lx4 => k_is); (case ccx4 => k_is); (case kx4 => k_is); (case ax5 => k_is); (case lx5 => k_is); (case ccx5 => k_is); (case kx5 => k_is); (case ax6 => k_is); (case lx6 => k_is); (case ccx6 => k_is); (case kx6 => k_is); (case ax7 => k_is); (case lx7 => k_is); (case ccx7 => k_is); (case kx7 => k_is); (case ax8 => k_is); (case lx8 => k_is); (case ccx8 => k_is); (case kx8 => k_is); (case ax9 => k_is); (case lx9 => k_is); (case ccx9 => k_is); (case kx9 => k_is); (case ax10 => k_is); (case lx10 => k_is); (case ccx10 => k_is); (case kx10 => k_is); (case ax11 => k_is); (case lx11 => k_is); (case ccx11 => k_is); (case kx11 => k_is); (case ax12 => k_is); (case lx12 => k_is); (case ccx12 => k_is); (case kx12 => k_is); (case ax13 => k_is); (case lx13 => k_is); (case ccx13 => k_is); (case kx13 => k_is); (case ax14 => k_is); (case lx14 => k_is); (case ccx14 => k_is); (case kx14 => k_is); (case ax15 => k_is); (case lx15 => k_is); (case ccx15 => k_is); (case kx15 => k_is); (case ax16 => k_is); (case lx16 => k_is); (case ccx16 => k_is); (case kx16 => k_is); (case ax17 => k_is); (case lx17 => k_is); (case ccx17 => k_is); (case kx17 => k_is); (case ax18 => k_is); (case lx18 => k_is); (case ccx18 => k_is); (case kx18 => k_is); (case ax19 => k_is); (case lx19 => k_is); (case ccx19 => k_is); (case kx19 => k_is); (case ax20 => k_is); (case lx20 => k_is); (case ccx20 => k_is); (case kx20 => k_is); (case ax21 => k_is); (case lx21 => k_is); (case ccx21 => k_is); (case kx21 => k_is); (case ax22 => k_is); (case lx22 => k_is); (case ccx22 => k_is); (case kx22 => k_is); (case ax23 => k_is); (case lx23 => k_is); (case ccx23 => k_is); (case kx23 => k_is); (case aC_SchemeReader => k_is); (case pg_SchemeReader => k_is); (case hd_SchemeReader => k_is); (case po_SchemeReader => k_is); (case sa_SchemeReader => k_is); (case mk_SchemeReader => k_is); (case kc_SchemeReader => k_is); (case nf0_SchemeReader => k_is); (case nf1_SchemeReader => k_is); (case nf2_SchemeReader => k_is); (case nf3_SchemeReader => k_is); (case nf4_SchemeReader => k_is); (case ax24 => k_is); (case ix24 => k_is); (case lx24 => k_is); (case ccx24 => k_is); (case kx24 => k_is); (case ax25 => k_is); (case ix25 => k_is); (case lx25 => k_is); (case ccx25 => k_is); (case kx25 => k_is); (case ax26 => k_is); (case ix26 => k_is); (case lx26 => k_is); (case ccx26 => k_is); (case kx26 => k_is); (case ax27 => k_is); (case lx27 => k_is); (case ccx27 => k_is); (case kx27 => k_is); (case ax28 => k_is); (case lx28 => k_is); (case ccx28 => k_is); (case kx28 => k_is); (case ax29 => k_is); (case lx29 => k_is); (case ccx29 => k_is); (case kx29 => k_is); (case ax30 => k_is); (case ix30 => k_is); (case lx30 => k_is); (case ccx30 => k_is); (case kx30 => k_is); (case ax31 => k_is); (case ix31 => k_is); (case lx31 => k_is); (case ccx31 => k_is); (case kx31 => k_is); (case ax32 => k_is); (case lx32 => k_is); (case ccx32 => k_is); (case kx32 => k_is); (case ax33 => k_is); (case lx33 => k_is); (case ccx33 => k_is); (case kx33 => k_is); (case ax34 => k_is); (case ix34 => k_is); (case lx34 => k_is); (case ccx34 => k_is); (case kx34 => k_is); (case ax35 => k_is); (case ix35 => k_is); (case lx35 => k_is); (case ccx35 => k_is); (case kx35 => k_is); (case ax36 => k_is); (case lx36 => k_is); (case ccx36 => k_is); (case kx36 => k_is); (case ax37 => k_is); (case lx37 => k_is); (case ccx37 => k_is); (case kx37 => k_is); (case z_n_range => k_is); (case z_n_tuple => k_is); (case z_n_len => k_is); (case z_n_zip => k_is); (case z_n_str => k_is); (case z_c_NOTHING => k_is); (case z_c_END => k_is); (case z_n_int => k_is); (case z_c_NO_LETTERS => k_is); (case z_c_LETTERS_texts => k_is); (case z_n_isinstance => k_is); (case z_n_bool => k_is); (case z_c_MAX_STATES => k_is); (case z_c_MAX_LETTERS => k_is); (case z_c_MAX_CUT => k_is); (case z_c_LETTERS_limits => k_is); (case z_n_enumerate => k_is); (case z_c_MAX_CUTS => k_is); (case z_c_MAX_COUNT => k_is); (case z_c_FIGURES => k_is); (case z_c_MOST_FIGURES => k_is); (case z_c_MOST_LETTERS => k_is); (case z_n_repr => k_is); (case z_n_abs => k_is)

